import PyProof.Rows.All
import Wide.All
import OpenK.AllK
import Wide.FinOn
import HandS.CallRecv
import HandS.Deep
import HandS.Defaults
import HandS.Exc
import HandS.ExcField
import HandS.ExcInit
import HandS.ExcOwn
import HandS.ForMost
import HandS.Head0
import HandS.Head1
import HandS.Head2
import HandS.HeadEnd
import HandS.HeadHook1
import HandS.HeadHook2
import HandS.IsInst
import HandS.MakeKwOnly
import HandS.NoneIn
import HandS.SetFor
import HandS.Strs
import HandS.Style
import HandS.TryOnly
import HandS.TupAny
import HandS.TupMul
import HandS.WordsExc
import HandS.Zip
import KE.GoesMore
import KE.KAssignIn
import KE.KExcIs
import KE.KExcSuper
import KE.KIsAll
import KE.KStateDown
import KE.KSuper
import PyProof.Draws
import PyProof.EnumMake
import PyProof.FitsInt
import PyProof.ReprLen
import PyProof.ReprRoads
import PySem.Challenge.RW_lastpairs_k66_whole_disks_and_journals_c
set_option Elab.async false
set_option linter.all false
set_option maxRecDepth 100000
set_option maxHeartbeats 0
section
namespace KJ
open PySem PySem.Spec PyProof.Rows L2
def top (i : Nat) : Stmt := PySem.Challenge.pw_lastpairs_k66_whole_disks_and_journals_c.main.body.getD i (.Pass ⟨0, 0, 0, 0⟩)
abbrev s_is_integer : Stmt := top 6
abbrev s_is_number : Stmt := top 7
abbrev s_is_octet : Stmt := top 11
abbrev sDisk_init : Stmt := inClass (top 12) 0
abbrev sDisk_look : Stmt := inClass (top 12) 1
abbrev sDisk_put : Stmt := inClass (top 12) 2
abbrev sDisk_flush : Stmt := inClass (top 12) 3
abbrev sDisk_events : Stmt := inClass (top 12) 4
abbrev s_pending_places : Stmt := top 13
abbrev s_cut_cells : Stmt := top 14
abbrev s_half_start : Stmt := top 18
abbrev s_records_from : Stmt := top 19
abbrev s_needed_cells : Stmt := top 20
abbrev s_put_record : Stmt := top 21
abbrev s_put_end : Stmt := top 22
abbrev sJournal_init : Stmt := inClass (top 23) 0
abbrev sJournal_records : Stmt := inClass (top 23) 1
abbrev sJournal_write : Stmt := inClass (top 23) 2
abbrev sJournal_drop : Stmt := inClass (top 23) 3
abbrev sJournal_renew : Stmt := inClass (top 23) 4
abbrev s_heap : Stmt := top 25
abbrev s_draw : Stmt := top 26
abbrev s_pick : Stmt := top 27
abbrev s_octet : Stmt := top 28
abbrev s_record : Stmt := top 29
abbrev s_lasting : Stmt := top 30
abbrev s_left : Stmt := top 31
abbrev s_opened : Stmt := top 32
abbrev s_base : Stmt := top 33
abbrev s_cuts_right : Stmt := top 34
abbrev s_call : Stmt := top 35
abbrev s_turn : Stmt := top 36
abbrev s_day_right : Stmt := top 37
abbrev s_many_right : Stmt := top 38
abbrev s_disk_right : Stmt := top 39
abbrev s_odds_right : Stmt := top 40
abbrev s_strange_right : Stmt := top 41
abbrev s_law : Stmt := top 42
end KJ
end

section
/-! own exceptions over an own base over ValueError, whose __init__ says super().__init__(a text) and stores one field -/
namespace PySem
namespace ExW
open PySem.W PySem.Calls PyProof.Rows PySem.HandSPX
def aW (p1 p2 : Pos) : Arguments := { posonlyargs := [], args := [{ arg := "self", annotation := none, pos := p1 }, { arg := "word", annotation := none, pos := p2 }], vararg := none, kwonlyargs := [], kw_defaults := [], kwarg := none, defaults := [] }
def bW (msg : Str) (j : Nat) (q1 q2 q3 q4 q5 q6 q7 q8 q9 q0 : Pos) : List Stmt :=
  [.Expr (.Call (.Attribute (.Call (.Name "super" q1) [] [] q2) "__init__" q3) [.Constant (.str msg) j q4] [] q5) q6, .Assign [.Attribute (.Name "self" q7) "word" q8] (.Name "word" q9) q0]
def sW : Scope := { kind := .function, names := [("self", .local), ("word", .local), ("__class__", .free), ("super", .globalImplicit)], isGenerator := false, isCoroutine := false, more := [] }
abbrev callW (msg : Str) (j : Nat) (q1 q2 q3 q4 q5 : Pos) : Expr := .Call (.Attribute (.Call (.Name "super" q1) [] [] q2) "__init__" q3) [.Constant (.str msg) j q4] [] q5
/-- the call's tree (plain, by its places) -/
def TreeW (msg : Str) (j : Nat) (q1 q2 q3 q4 q5 : Pos) : Prop := ∀ env : Env, ∃ pl : Sem Bool, eval (callW msg j q1 q2 q3 q4 q5) env = (do
  let ov ← attributeBase (.Call (.Name "super" q1) [] [] q2) "__init__" env (eval (.Call (.Name "super" q1) [] [] q2) env)
  standAt q3.atName
  let (f, first) ← holding [ov] (getMethod ov "__init__" pl)
  callWith q5 f first (backTo q5 (starEach [.Constant (.str msg) j q4] env)) [])
example : TreeW "refused" 0 ⟨12, 8, 12, 13⟩ ⟨12, 8, 12, 15⟩ ⟨12, 8, 12, 24⟩ ⟨12, 25, 12, 34⟩ ⟨12, 8, 12, 35⟩ := fun env => ⟨_, rfl⟩
/-- what the written part says of such a class at C, called x, with its __init__ at fI -/
structure ExT (prog : Program) (K : Frag) (mg : Str → Option Value) (x : Str) (C fI : Addr) : Prop where
  gC : mg x = some (.ref C)
  gS : mg "super" = none
  cls : ∃ nm q N bs bm sn sub ab col dd k0 k1 k2 k3 k5, K.lookup C = some (excClassObj nm q C N bs bm true sn sub ab col dd k0 k1 k2 k3 k5 "ValueError.__new__") ∧ refsVE bm = true
  sa : findIn K (.ref C) "__setattr__" = some (some (.builtin "object.__setattr__"))
  ga : findIn K (.ref C) "__getattribute__" = some (some (.builtin "BaseException.__getattribute__"))
  gg : findIn K (.ref C) "__getattr__" = some none
  noN : findIn K (.ref C) "word" = some none
  iC : findIn K (.ref C) "__init__" = some (some (.ref fI))
  tC : typeIn K (.ref fI) = some (.type "function")
  kC : keepIn K (.ref C) = true
  exC : subIn K (.ref C) (.type "BaseException") = some true
  veC : subIn K (.ref C) (.type "ValueError") = some true
  tyC : typeIn K (.ref C) = some (.type "type")
  hdC : hasDictIn K C = true
  su : ks_superIn K C C "__init__" = some (some (.builtin "ValueError.__init__"))
  tp : nsIn K cStatics "thirdparty.any" = some none
  mC : mroIn K C (.ref C) = some true
  top : (prog.main.scope.names.lookup ("super" : Str)).isSome = false
  fn : ∃ (oc : Value) (od : Option Addr) (kV doc pm : Value) (an : Option Addr) (cda cc : Addr) (ct : Value) (osl : Array (Option Value)) (qual : Str) (msg : Str) (j : Nat) (p1 p2 q1 q2 q3 q4 q5 q6 q7 q8 q9 q0 : Pos)
      (ccl cl : Value) (cdd cld : Option Addr) (vs : Array Value) (ccs csl : Array (Option Value)) (file : Str) (tf : Tok),
    TreeW msg j q1 q2 q3 q4 q5 ∧ K.lookup fI = some ⟨oc, od, .func (ksFn "__init__" qual (aW p1 p2) (bW msg j q1 q2 q3 q4 q5 q6 q7 q8 q9 q0) sW .none kV doc pm an (.ref cda) ct cc), osl⟩ ∧ codeIn K (.ref cda) qual = true ∧
    K.lookup cda = some ⟨ccl, cdd, .fields vs, ccs⟩ ∧ vs[2]? = some (.str file tf) ∧ ((prog.main.file : Str) == file) = true ∧ K.lookup cc = some ⟨cl, cld, .cell (some (.ref C)), csl⟩
theorem size1 (v : Value) : [v].length ≤ sizeLine := by
  rw [sizeLine_eq]
  exact (by decide : 1 ≤ 16777216)
/-- what __init__ leaves of a fresh exception at x -/
structure IEnd (h h' : Heap) (x C dx t1 : Addr) (v : Value) : Prop where
  keep : ∀ b o, b ≠ x → h.get? b = some o → h'.get? b = some o
  obj : h'.get? x = some { cls := .ref C, dict := some dx, data := .fields #[.ref t1, .none, .none, .none, .bool false, .none] }
  dbig : h.objs.size ≤ dx
  dne : dx ≠ x
  ns : h'.Ns1 dx (fun y => if y = "word" then some v else none)
/-- a made one -/
structure Made (h h' : Heap) (e C d : Addr) (v : Value) : Prop where
  keep : ∀ b o, h.get? b = some o → h'.get? b = some o
  new : h.objs.size ≤ e
  obj : ∃ oe vs, h'.get? e = some oe ∧ oe.cls = .ref C ∧ oe.dict = some d ∧ oe.data = .fields vs ∧ vs[1]? = some .none
  dbig : h.objs.size ≤ d
  dne : d ≠ e
  ns : h'.Ns1 d (fun y => if y = "word" then some v else none)
section
variable {prog : Program} {w : World} {A : Around} {E : Value → Shared → Prop} {R : Result → Shared → Prop} {s : Shared} {K : Frag} {mg mb : Str → Option Value} {x : Str} {C fI : Addr}
theorem exc_init (T : ExT prog K mg x C fI) {e t0 : Addr} {v : Value} (X : K.In s.heap) (hg : s.heap.Ns mainGlobals mg) (hb : s.heap.Ns builtinsNs mb) (hbb : ∀ x : Str, x ≠ "__name__" → mb x = bootBuiltins x) (hlim : s.heap.NoLimit) (hx : s.heap.get? e = some (excO C t0)) (hnx : K.lookup e = none) (hroom : A.depth < recursionLimit)
    (hq : ∀ h' tk dx t1, IEnd s.heap h' e C dx t1 v → R (.ok (.ret .none)) { s with heap := h', toks := tk }) :
    codeAny (model prog w) A (.call (.ref fI) ⟨[.ref e, v], []⟩) R s := by
  obtain ⟨oc, od, kV, doc, pm, an, cda, cc, ct, osl, qual, msg, j, p1, p2, q1, q2, q3, q4, q5, q6, q7, q8, q9, q0, ccl, cl, cdd, cld, vs, ccs, csl, file, tf, hT, ho, hcd, hcode, hvs, hfile, hcell⟩ := T.fn
  obtain ⟨nm, q, N, bs, bm, sn, sub, ab, col, dd, k0, k1, k2, k3, k5, hC, hbm⟩ := T.cls
  have hcl : clsIn K C = some { name := nm, bases := bs, mro := .ref C :: bm, ns := N, qualname := q, hasDict := true, slotNames := sn, subclasses := sub, abstract := ab, collection := col, hasDel := false } := by unfold clsIn; rw [hC] <;> rfl
  have hsu : alongIn K "__init__" (((Value.ref C :: bm).dropWhile (· != .ref C)).drop 1) = some (some (.builtin "ValueError.__init__")) := by
    have z := T.su
    unfold ks_superIn at z
    rw [hcl] at z
    exact z
  obtain ⟨hp, g, d, tk0, os⟩ := s
  have hboot : bootBuiltins "super" = some (.type "super") := by first | rfl | kernel_rfl | decide +kernel
  refine ks_codeAny_call_defAt (fd := ksFn "__init__" qual (aW p1 p2) (bW msg j q1 q2 q3 q4 q5 q6 q7 q8 q9 q0) sW .none kV doc pm an (.ref cda) ct cc) (body := bW msg j q1 q2 q3 q4 q5 q6 q7 q8 q9 q0) (binds := [("self", .ref e), ("word", v)]) hroom (X _ _ ho) rfl hlim (codeRec_of X hcd) rfl
    (BindsTo.of_eq (by first | rfl | with_unfolding_all rfl)) (show ∀ x ∈ sW.names, x.2 ≠ .cell by decide) (by intro y hy; simp at hy; rcases hy with rfl | rfl <;> rfl) (fun h₁ hns k => ?_) rfl rfl rfl
  have X₁ : K.In h₁ := X.keeps k
  have hx₁ := k _ _ hx
  have hC₁ := X₁ _ _ hC
  have hxL : hp.objs.size ≠ e := Nat.ne_of_gt (Heap.lt_size hx)
  have hLs : hp.objs.size < h₁.objs.size := hns.lt
  obtain ⟨pl, hpl⟩ := hT (callEnv (ksFn "__init__" qual (aW p1 p2) (bW msg j q1 q2 q3 q4 q5 q6 q7 q8 q9 q0) sW .none kV doc pm an (.ref cda) ct cc) hp.objs.size fI)
  have hne : e ≠ C := by
    rintro rfl
    rw [hC₁] at hx₁
    cases hx₁
  refine ks_wpAt_execs_cons (ks_wpAt_Expr_any (ks_wpAt_MethodCall (pl := pl) ?_ hpl))
  refine ks_wpAt_super_base (fd := ksFn "__init__" qual (aW p1 p2) (bW msg j q1 q2 q3 q4 q5 q6 q7 q8 q9 q0) sW .none kV doc pm an (.ref cda) ct cc) rfl rfl (by decide) rfl (X₁ _ _ ho) rfl rfl rfl (X₁ _ _ hcode) rfl hvs hfile T.top ?_
  refine ks_loadName_global rfl rfl (loadGlobal_builtin (hg.keeps k) T.gS (hb.keeps k) ((hbb _ (by decide +kernel)).trans hboot) ⟨rfl, ?_⟩)
  refine wpAny_loadName_free rfl rfl rfl ⟨_, X₁ _ _ hcell, rfl⟩ ?_
  refine wpAny_loadName_local rfl rfl hns rfl ?_
  refine ks_wpAny_isType_cls hC₁ rfl ⟨rfl, ?_⟩
  refine ks_wpAny_call_super hC₁ rfl hx₁ rfl (fun c z => by cases z) (looks_mroIn X₁ T.mC) (fun h₂ e₂ k₂ => ?_)
  have X₂ : K.In h₂ := X₁.keeps k₂
  have hx₂ := k₂ _ _ hx₁
  have hC₂ := X₂ _ _ hC
  have I₂ : InstAt h₂ e (excO C t0) C none := ⟨hx₂, rfl, rfl, trivial⟩
  have hI : Looks (model prog w) h₂ (isInstance (.ref e) (.type "ValueError")) true := I₂.type.andThen (looks_subIn X₂ T.veC)
  refine kxs_getMethod kxs_ValueError e₂ (looks_opaque X₂ T.tp) (l₀ := .ref C :: bm) (fun A Q E s k q => wpAny_bind ((looks_clsIn X₂ hcl) A _ E s k (wpAny_pure q))) rfl X₂ hsu hI hne (by decide) ?_
  -- the bound ValueError.__init__ is called
  have hu₃ : (h₂.push (kxs_mw "ValueError.__init__" e)).get? h₂.objs.size = some (kxs_mw "ValueError.__init__" e) := Heap.get?_push_at rfl rfl
  have k₃ : ∀ b o, h₂.get? b = some o → (h₂.push (kxs_mw "ValueError.__init__" e)).get? b = some o := fun b o z => Heap.get?_push_of_some _ z
  have hx₃ := k₃ _ _ hx₂
  have hC₃ := k₃ _ _ hC₂
  refine kxs_callWith (i := "ValueError.__init__") (x := e) rfl (evalArgs_plain ?_)
  show wpAny _ _ (spliced ((false, eval (.Constant (.str msg) j q4) (callEnv _ _ _)) :: backTo q5 (starEach [] (callEnv _ _ _)))) _ _ _
  refine Calls.spliced_cons (Calls.Constant_str (Calls.spliced_nil ⟨hu₃, ?_⟩))
  refine wpAny_call (codeAny_of_tree ?_)
  show wpAny _ _ (callAny (.ref h₂.objs.size) ⟨[.str msg _], []⟩) _ _ _
  simp only [callAny]
  refine wpAny_bind (wpAny_load hu₃ ?_)
  simp only [kxs_mw, show (Value.type "method-wrapper" == Value.type "method" || Value.type "method-wrapper" == Value.type "builtin_function_or_method" || Value.type "method-wrapper" == Value.type "method-wrapper") = true by decide, if_true]
  refine KFB.if_so (by decide) ?_
  refine wpAny_bind (check_bound_init F.excBase_ValueError.toExcCallFacts hC₃ hx₃ rfl ?_)
  refine wpAny_bind (wpAny_pure (wpAny_pure ?_))
  refine ⟨plainId_quiet F.excBase_ValueError.init.plain _, codeAny_builtin F.excBase_ValueError.initEntry ?_⟩
  refine exc_init_tree (cls := .ref C) (t0 := t0) (dv := none) (c2 := .none) (c3 := .none) (b4 := .bool false) hx₃ (size1 _) (fun h₄ k₄ hx₄ _ => ?_)
  have hns₄ : h₄.Ns hp.objs.size (fun y => ([("self", .ref e), ("word", v)] : List (Str × Value)).reverse.lookup y) := by
    obtain ⟨o, es, ep, z, r⟩ := (hns.keeps k₂).keeps k₃
    exact ⟨o, es, ep, k₄ _ _ hxL z, r⟩
  have kk : ∀ b o, b ≠ e → hp.get? b = some o → h₄.get? b = some o := fun b o hb z => k₄ b o hb (k₃ _ _ (k₂ _ _ (k _ _ z)))
  have X₄ : K.In h₄ := fun b o z => by
    have nb : b ≠ e := by
      rintro rfl
      rw [hnx] at z
      cases z
    exact kk b o nb (X _ _ z)
  show wpAt _ _ _ (execs _ _) _ _ _
  refine ks_wpAt_execs_cons (ks_wpAt_Assign_Attr (wpAt_of_wpAny ?_))
  refine wpAny_Name (wpAny_loadName_local rfl rfl hns₄ rfl ?_) (by decide)
  refine wpAny_Name (wpAny_loadName_local rfl rfl hns₄ rfl ?_) (by decide)
  refine set_plain X₄ (ox := excO C _) (od := none) ⟨hx₄, rfl, rfl, trivial⟩ T.sa ?_
  refine exc_osa X₄ hx₄ hcl (show refsVE (.ref C :: bm) = true from hbm) rfl T.noN (fun h₅ tk₅ dx k₅ dn dne hx₅ hn₅ => ?_)
  show wpAt _ _ _ (execs _ _) _ _ _
  refine wpAt_of_wpAny (wpAny_execs_nil (hq h₅ _ dx _ ⟨fun b o hb z => k₅ b o hb (kk b o hb z), hx₅, ?_, dne, hn₅⟩))
  exact Nat.le_trans (Nat.le_of_lt hns₄.lt) dn
theorem exc_made (T : ExT prog K mg x C fI) {v : Value} (X : K.In s.heap) (hg : s.heap.Ns mainGlobals mg) (hb : s.heap.Ns builtinsNs mb) (hbb : ∀ x : Str, x ≠ "__name__" → mb x = bootBuiltins x) (hlim : s.heap.NoLimit) (hroom : A.depth + 1 < recursionLimit)
    (hq : ∀ h' tk e d, Made s.heap h' e C d v → R (.ok (.ret (.ref e))) { s with heap := h', toks := tk }) :
    codeAny (model prog w) A (.call (.ref C) ⟨[v], []⟩) R s := by
  obtain ⟨nm, q, N, bs, bm, sn, sub, ab, col, dd, k0, k1, k2, k3, k5, hC, hbm⟩ := T.cls
  obtain ⟨hp, g, dr, tk, os⟩ := s
  have k : ∀ b o, hp.get? b = some o → ((hp.push (kdv_tup [v])).push (excO C hp.objs.size)).get? b = some o := fun b o e => Heap.get?_push_of_some _ (Heap.get?_push_of_some _ e)
  have hget : ((hp.push (kdv_tup [v])).push (excO C hp.objs.size)).get? (hp.objs.size + 1) = some (excO C hp.objs.size) := by heap_get
  have hnx : K.lookup (hp.objs.size + 1) = none := by
    cases e : K.lookup (hp.objs.size + 1) with
    | none => rfl
    | some o => exact absurd (Nat.lt_of_succ_lt (Heap.lt_size (X _ _ e))) (Nat.lt_irrefl _)
  refine call_own F.excBase_ValueError (fun X => refsVE_contains X bm hbm) (X _ _ hC) (looks_findIn X T.iC) (fun self => bind_fn X self T.tC) (size1 v) ?_
  refine exc_init (s := ⟨(hp.push (kdv_tup [v])).push (excO C hp.objs.size), g, dr, tk, os⟩) T (X.keeps k) (hg.keeps k) (hb.keeps k) hbb (hlim.keeps k) hget hnx hroom fun h' tk' dx t1 ⟨k', hx, dn, dne, hns⟩ => ?_
  have old : ∀ b o, hp.get? b = some o → h'.get? b = some o := fun b o e => k' b o (Nat.ne_of_lt (Nat.lt_succ_of_lt (Heap.lt_size e))) (k b o e)
  have z : hp.objs.size + 1 + 1 ≤ dx := by simpa only [Heap.size_push] using dn
  exact ⟨rfl, hq h' tk' (hp.objs.size + 1) dx ⟨old, Nat.le_succ _, ⟨_, _, hx, rfl, rfl, rfl, rfl⟩, Nat.le_trans (Nat.le_trans (Nat.le_succ _) (Nat.le_succ _)) z, dne, hns⟩⟩
end
end ExW
end PySem
namespace L2
open PySem PySem.Spec PyProof.Rows
theorem relO_word {v : V} {v' : Value} (r : RelV v v') (f : Str) : RelO (List.lookup f [(("word" : Str), v)]) (if f = "word" then some v' else none) := by
  by_cases hw : f = "word"
  · subst hw
    rw [if_pos rfl, show List.lookup ("word" : Str) [(("word" : Str), v)] = some v by simp [List.lookup]]
    exact r
  · have qw : (f == ("word" : Str)) = false := by simpa using hw
    rw [if_neg hw, show List.lookup f [(("word" : Str), v)] = none by simp [List.lookup, qw]]
    trivial
section
variable {X : Cx} {x : Str} {C fI : Addr}
/-- x(e), an own error with one field -/
def tMkW (C : Addr) (ta : TA) : St → Hp → XK → Prop := fun σ H Q => ta σ H fun vs H1 => ∃ v, vs = [v] ∧ ∀ d, H1 d = none → Q (.ref C) (some d) (upd H1 d (.xd [(("word" : Str), v)]))
theorem pmk_word {a : Expr} {ta : TA} {p pos : Pos} {k : Nat} (T : PySem.ExW.ExT X.prog X.K X.mg x C fI) (hr : Room k X.A) (ha : PA X [a] ta) (hg : Gl X x := by rfl) (hdb : (x == ("__debug__" : Str)) = false := by decide)
    (he : starEach (a :: []) X.env = (false, eval a X.env) :: starEach [] X.env := by rfl) (hpl : (backTo pos (starEach [] X.env)).any (·.1) = false := by rfl) :
    PMk X (.Call (.Name x p) [a] [] pos) (tMkW C ta) := by
  intro pins s σ H Q I h
  refine wpAny_Call_Name_kw (ld_glob I hg T.gC ?_ hdb)
  refine PySem.W.callWith_K (h₀ := X.base) I.ok.mod.kin T.kC (thn (ha.run pos pins s σ H _ I h) fun us s1 hh => ?_) he hpl
  obtain ⟨vs, H1, I1, r1, v, ev, q1⟩ := hh
  subst ev
  refine ⟨I1.kIn, ?_⟩
  cases r1 with
  | cons rv rn =>
    rename_i v' us'
    cases rn
    show wpAny _ _ (call (.ref C) [v']) _ _ _
    have hlim := I1.nolimit
    obtain ⟨mb, hb1, hb2⟩ := I1.mod.blt
    have hg1 := I1.mod.glob.keeps I1.bk
    have hb3 := hb1.keeps I1.bk
    have kin := I1.kIn
    obtain ⟨hp, g, dr, tk, os⟩ := s1
    refine wpAny_call (PySem.ExW.exc_made T kin hg1 hb3 hb2 hlim (by have := hr.dp; omega) fun h' tk' e d M => ?_)
    show MkP X pins σ Q (.ref e) ⟨h', g, dr, tk', os⟩
    obtain ⟨oe, fv, hoe, hc, hd, hdat, h1⟩ := M.obj
    have hns := M.ns
    obtain ⟨G', g1, g2⟩ := restrict h' fun b => decide (b ≠ e)
    have gk : ∀ b, b ≠ e → G'.get? b = h'.get? b := fun b hb => g1 b (decide_eq_true hb)
    have ge : G'.get? e = none := g2 e (by simp)
    have old : ∀ b o, hp.get? b = some o → G'.get? b = some o := fun b o q => (gk b (Nat.ne_of_lt (Nat.lt_of_lt_of_le (Heap.lt_size q) M.new))).trans (M.keep b o q)
    have obj : ObjOk X.prog X.w (upd H1 d (.xd [(("word" : Str), v)])) G' d (.xd [(("word" : Str), v)]) :=
      ⟨_, hns.at (fun o q => (gk d M.dne).trans q), fun f => relO_word rv f⟩
    have J : Inv X pins σ (upd H1 d (.xd [(("word" : Str), v)])) ⟨G', g, dr, tk', os⟩ := I1.laid (t' := tk') old M.dbig obj
    refine ⟨e, oe, fv, ⟨G', g, dr, tk', os⟩, _, .ref C, some d, rfl, J, fun b o q => ?_, ge, hoe, ⟨hc, hd⟩, hdat, h1, ?_, rfl, I1.bare, raises_own T.exC T.tyC, q1 d (I1.hok.fresh M.dbig)⟩
    · by_cases hb : b = e
      · have q' : G'.get? b = some o := q
        rw [hb, ge] at q'; cases q'
      · exact (gk b hb).symm.trans q
    · rw [upd_ne (Ne.symm M.dne)]
      exact I1.hok.fresh M.new
/-- raise x(e) -/
theorem ps_raiseW {a : Expr} {ta : TA} {W : WX} {p pos pos2 : Pos} {k : Nat} (hc : X.calm = true) (T : PySem.ExW.ExT X.prog X.K X.mg x C fI) (hr : Room k X.A) (tk : Takes X W) (ha : PA X [a] ta) (hg : Gl X x := by rfl) (hdb : (x == ("__debug__" : Str)) = false := by decide)
    (he : starEach (a :: []) X.env = (false, eval a X.env) :: starEach [] X.env := by rfl) (hpl : (backTo pos (starEach [] X.env)).any (·.1) = false := by rfl) :
    PS X (.Raise (some (.Call (.Name x p) [a] [] pos)) none pos2) (fun _ σ H => tMkW C ta σ H fun cls d H' => W cls d σ H') := ps_raise hc tk (pmk_word T hr ha hg hdb he hpl)
end
/-- what isinstance asks of such a class -/
structure IsT (K : PySem.W.Frag) (D : Addr) : Prop where
  cl : (PySem.W.clsIn K D).isSome = true
  ga : PySem.W.findIn K (.ref D) "__getattribute__" = some (some (.builtin "BaseException.__getattribute__"))
  gg : PySem.W.findIn K (.ref D) "__getattr__" = some none
  sb : PySem.W.subIn K (.ref D) (.type "BaseException") = some true
  ca : PySem.W.findIn K (.ref D) "__class__" = some (some (.builtin "object.__class__"))
  sp : PySem.W.specialIn K (.builtin "object.__class__") "__get__" = some (some (.builtin "getset_descriptor.__get__"))
  tk : PySem.W.takesIn K (.builtin "object.__class__") = some true
  mr : PySem.W.mroIn K D (.type "object") = some true
/-- isinstance(e, D'), e the error that the suite holds, of the class D, its dict at dd -/
def rIsW (K : PySem.W.Frag) (D a dd : Addr) : List V → Hp → VK → Prop := fun xs H Q => ∃ (C : Addr) (b : Bool) (fs : List (Str × V)), xs = [.ref a, .ref C] ∧ H dd = some (.xd fs) ∧ PySem.W.kitOne K (.ref D) (.ref C) = some b ∧ Q (.bl b) H
theorem call_isW {X : Cx} {a D dd : Addr} {oe : Obj} {pn : List (Addr × Obj)} (T : IsT X.K D) (hz : Zc (.ref D) (some dd) oe) (hf : ∃ vs, oe.data = .fields vs) : CallR (X.suite a ((a, oe) :: pn)) (.builtin "isinstance") (rIsW X.K D a dd) := by
  intro pins s σ H xs us Q I r h
  obtain ⟨C, b, fs, rfl, hdd, e, q⟩ := h
  obtain ⟨u1, u2, rfl, r1, r2⟩ := vals2 r
  obtain rfl : u1 = Value.ref a := r1
  obtain rfl : u2 = Value.ref C := r2
  obtain ⟨hget, _⟩ := I.pin (a, oe) (List.mem_append.mpr (.inl List.mem_cons_self))
  obtain ⟨vs, hv⟩ := hf
  have hx : ObjOk X.prog X.w H s.heap dd (.xd fs) := I.hok dd _ hdd
  obtain ⟨mA, hns, hr⟩ := hx
  obtain ⟨od, ho, hl⟩ := lookIn_ns hns
  have J : PySem.W.InstAt s.heap a oe D (some od) := ⟨hget, hz.1, by unfold PySem.W.notCls; rw [hv] <;> rfl, by rw [hz.2]; exact ho⟩
  exact PySem.W.kia_one (PySem.W.kitx_exc T.cl T.ga T.gg T.sb T.ca T.sp T.tk T.mr) I.kIn J e (fun z => nomatch z) fun tk => ⟨.bl b, H, I.kept (t' := tk) fun _ _ z => z, rfl, q⟩
end L2
end

section
/-! rules of our own: enumerate of a tuple; (x,) * n of any length -/
namespace PySem
open AutoSeq1 (wpAny_loadPart')
theorem meets_enum_newT (l : Addr) (items : Array Value) (n : Nat) (dct : Option Addr) (sl : Array (Option Value)) :
    Meets (Builtin.«enumerate.__new__» ⟨[.type "enumerate", .ref l], []⟩) (fun _ R s => s.heap.get? l = some { cls := .type "tuple", dict := dct, data := .seq items n, slots := sl } ∧
      R (.ok (.ret (.ref (s.heap.push { cls := .type "tuple_iterator", data := .fields #[.ref l, .int 0 0] }).objs.size)))
        { s with heap := (s.heap.push { cls := .type "tuple_iterator", data := .fields #[.ref l, .int 0 0] }).push { cls := .type "enumerate", data := .fields #[.none, .bool false, .ref s.heap.objs.size, rawInt 0, .none, .none] } }) :=
  .of_wp fun prog w A R s h => by
    obtain ⟨hp, g, d, tk, os⟩ := s
    obtain ⟨hl, h⟩ := h
    have hsub := sub_enumerate
    have hT : Heap.IsTuple (Shared.heap ⟨hp, g, d, tk, os⟩) l items := ⟨_, hl, rfl, n, rfl⟩
    wp_walk using wpAny_loadPart' hl
    refine wpAny_stack_any fun st => wpAny_pure ?_
    split
    · rename_i c _ _ _ _ _
      cases (c == Value.type "enumerate") <;> (wp_walk using wpAny_loadPart' hl, wpAny_pyIter_tuple hT; exact ⟨_, rfl, h⟩)
    · wp_walk using wpAny_loadPart' hl, wpAny_pyIter_tuple hT
      exact ⟨_, rfl, h⟩
section
variable {prog : Program} {w : World} {A : Around} {E : Value → Shared → Prop} {s : Shared}
theorem call_enum_tuple {l : Addr} {items : Array Value} {Q : Value → Shared → Prop} (hL : s.heap.IsTuple l items)
    (h : ∀ h', IsEnum h' (s.heap.objs.size + 1) s.heap.objs.size 0 .none → h'.IsTupleIter s.heap.objs.size l 0 → (∀ b o, s.heap.get? b = some o → h'.get? b = some o) → Q (.ref (s.heap.objs.size + 1)) { s with heap := h' }) :
    wpAny (model prog w) A (call (.type "enumerate") [.ref l]) Q E s := by
  obtain ⟨⟨c, dct, dt, sl⟩, hl, hc, n, hd⟩ := hL
  replace hc : c = .type "tuple" := hc
  replace hd : dt = .seq items n := hd
  subst hc hd
  refine callType_new F.called_enumerate (by decide) (F.typeCall_enumerate_1 _) (F.newCall_enumerate_1 _) (fun obj => F.args_object_init_2 obj _) F.entry_enumerate_new (meets_enum_newT l items n dct sl) ⟨hl, ?_⟩
  have hz : (s.heap.push { cls := .type "tuple_iterator", data := .fields #[.ref l, .int 0 0] }).objs.size = s.heap.objs.size + 1 := Heap.size_push ..
  show _ ∧ _
  rw [hz]
  have he : IsEnum ((s.heap.push { cls := .type "tuple_iterator", data := .fields #[.ref l, .int 0 0] }).push { cls := .type "enumerate", data := .fields #[.none, .bool false, .ref s.heap.objs.size, rawInt 0, .none, .none] }) (s.heap.objs.size + 1) s.heap.objs.size 0 .none := by
    have q := Heap.get?_push_size (s.heap.push { cls := .type "tuple_iterator", data := .fields #[.ref l, .int 0 0] }) (o := { cls := .type "enumerate", data := .fields #[.none, .bool false, .ref s.heap.objs.size, rawInt 0, .none, .none] }) rfl
    rw [hz] at q
    exact q
  exact ⟨⟨_, he, rfl⟩, h _ he ⟨_, Heap.get?_push_of_some _ (Heap.get?_push_size _ rfl), rfl, rfl⟩ fun b o x => Heap.get?_push_of_some _ (Heap.get?_push_of_some _ x)⟩
end
end PySem
namespace L2
open PySem PySem.Spec PyProof.Rows
/-- the tuple at a, each item in a new pair with its place -/
def ItE (K : PySem.W.Frag) (a : Addr) : It :=
  ⟨fun i H => ∃ (xs : List V) (x : V), SqT K H a xs ∧ xs[i]? = some x,
    fun i H v H' => ∃ T x, v = .ref T ∧ H T = none ∧ H' = upd H T (.tup [.int (i : Nat), x]) ∧ ∀ xs, SqT K H a xs → xs[i]? = some x,
    fun i H => ∃ xs : List V, SqT K H a xs ∧ xs.length = i⟩
theorem turn_enumT {P : Program} {w : World} {K : PySem.W.Frag} {elts : List Expr} {kk : Nat} {tpos : Pos} (a e it : Addr) :
    Turn P w K (.Tuple elts kk tpos) (ItE K a) [e, it] e (fun i h => (∃ old, IsEnum h e it ((i : Nat) : Int) old) ∧ h.IsTupleIter it a i ∧ e ≠ it ∧ a ≠ it ∧ a ≠ e) where
  mem := by simp
  obj := fun i h st b hb => by
    obtain ⟨⟨old, he⟩, ⟨o, ho, hc, hd⟩, _⟩ := st
    have e' : b = e ∨ b = it := by simpa using hb
    rcases e' with z | z
    · rw [z]; exact ⟨_, he, fun v q => nomatch q⟩
    · rw [z]; exact ⟨o, ho, fun v q => by rw [hd] at q; cases q⟩
  keep := fun i h h' st k => by
    obtain ⟨⟨old, he⟩, ⟨o, ho, r⟩, hne⟩ := st
    exact ⟨⟨old, k e (by simp) _ he⟩, ⟨o, k it (by simp) o ho, r⟩, hne⟩
  item := by
    intro X hP hw hK hc i pins s σ H E I hf st hg
    subst hP hw hK
    obtain ⟨⟨old, he⟩, hit, hne, hna, hae⟩ := st
    obtain ⟨xs, x, hq, hx⟩ := hg
    obtain ⟨its, rv, p, hz⟩ := I.tuple hq
    obtain ⟨u, hu, ru⟩ := rv.get hx
    have hel : e < s.heap.objs.size := Heap.lt_size he
    have hil : it < s.heap.objs.size := by
      obtain ⟨_, q, _⟩ := hit
      exact Heap.lt_size q
    have hlt : i < its.toArray.size := by
      have q := (List.getElem?_eq_some_iff.mp hu).1
      simpa using q
    have D := Draws.tuple (prog := X.prog) (w := X.w) (A := X.A.in1) (I.ok.hd hc) it a hna its.toArray
    refine wpAny_pyNext_enum_itemD D he (show s.heap.IsTupleIter it a i ∧ s.heap.IsTuple a its.toArray from ⟨hit, p⟩) hlt hne (by simp [hne, hae.symm]) fun x' h' tk hx' ho st' hT hsz hk => ?_
    obtain rfl : x' = u := by
      have q : its.toArray[i]? = some u := by simpa using hu
      rw [q] at hx'
      exact (Option.some.inj hx').symm
    refine ⟨_, rfl, wpAny_letOwnedTupleGo_enum (s := { s with heap := h', toks := tk + 1 }) ho fun h'' he' sb => ?_⟩
    have hT2 : h''.get? s.heap.objs.size = some { cls := .type "tuple", data := .seq #[.int i tk, x'] } := (sb.2 _ (Nat.ne_of_gt hel)).trans hT
    have new : ObjOk X.prog X.w (upd H s.heap.objs.size (.tup [.int (i : Nat), x])) h'' s.heap.objs.size (.tup [.int (i : Nat), x]) :=
      ⟨by show 2 ≤ sizeLine; decide, [.int i tk, x'], .cons ⟨_, rfl⟩ (.cons ru .nil), ⟨_, hT2, rfl, _, rfl⟩⟩
    have I1 : Inv X pins σ (upd H s.heap.objs.size (.tup [.int (i : Nat), x])) { s with heap := h'', toks := tk + 1 } :=
      I.turnedNew (ch := [e, it]) (fun b ob hb q => (sb.2 b (fun z => hb (by simp [z]))).trans (hk b ob (fun z => hb (by simp [z])) (fun z => hb (by simp [z])) q)) hf (Nat.le_refl _) new
    refine ⟨.ref s.heap.objs.size, _, I1, rfl, ⟨_, x, rfl, I.hok.fresh (Nat.le_refl _), rfl, fun ys hy => by rw [I.tuple_inj hy hq]; exact hx⟩, ⟨⟨x', ?_⟩, ?_, hne, hna, hae⟩, fun b hb => ?_⟩
    · have e1 : ((i + 1 : Nat) : Int) = (i : Int) + 1 := by omega
      rw [e1]
      exact he'
    · obtain ⟨o, q, r⟩ := st'.1
      exact ⟨o, (sb.2 it (Ne.symm hne)).trans q, r⟩
    · have hb' : b < s.heap.objs.size := by
        have e' : b = e ∨ b = it := by simpa using hb
        rcases e' with z | z
        · rw [z]; exact hel
        · rw [z]; exact hil
      rw [upd_ne (Nat.ne_of_lt hb')]
      exact (hf b hb).1
  done := by
    intro X hP hw hK hc i pins s σ H E I hf st hg
    subst hP hw hK
    obtain ⟨⟨old, he⟩, hit, hne, hna, hae⟩ := st
    obtain ⟨xs, hq, hx⟩ := hg
    obtain ⟨its, rv, p, hz⟩ := I.tuple hq
    obtain ⟨f0, f1, f2, f3, f4, f5⟩ := hf it (by simp)
    have hl := rv.length
    have D := Draws.tuple (prog := X.prog) (w := X.w) (A := X.A.in1) (I.ok.hd hc) it a hna its.toArray
    have hi : i = its.toArray.size := by rw [List.size_toArray]; omega
    exact wpAny_pyNext_enum_endD D he (show s.heap.IsTupleIter it a its.toArray.size ∧ s.heap.IsTuple a its.toArray from ⟨hi ▸ hit, p⟩) fun h' eb => ⟨rfl, I.turned (t' := s.toks) (fun b o hb q => eb b o hb q) f0 f1 f3 f4 f5⟩
  self := fun A i s Q E st h => let ⟨⟨_, he⟩, _⟩ := st; wpAny_pyIter_enum he h
def iEnumT (K : PySem.W.Frag) (ta : TA) : TI := fun σ H R => ta σ H fun vs H1 => ∃ a xs, vs = [.ref a] ∧ SqT K H1 a xs ∧ R (ItE K a) H1
theorem pi_enumT {X : Cx} {e : Expr} {ta : TA} {p pos tpos : Pos} {elts : List Expr} {kk : Nat} (hg : Gl X "enumerate") (hm : X.mg "enumerate" = none) (ha : PA X [e] ta) (hs : starEach [e] X.env = [(false, eval e X.env)] := by rfl) :
    PI X (.Tuple elts kk tpos) (.Call (.Name "enumerate" p) [e] [] pos) (iEnumT X.K ta) := by
  refine ⟨fun pins s σ H R I h => ?_⟩
  refine Call_ (ld_blt I hg hm boot_enumerate (PyProof.Rows.callWith_type1 (thn (ha.run pos pins s σ H _ I h) fun us s1 ⟨vs, H1, I1, r1, q1⟩ => ?_) hs rfl))
  obtain ⟨a, xs, rfl, hq, q⟩ := q1
  obtain ⟨u, rfl, hu⟩ := vals1 r1
  obtain rfl : u = Value.ref a := hu
  obtain ⟨its, rv, p', hz⟩ := I1.tuple hq
  have hal : a < s1.heap.objs.size := by
    obtain ⟨o, ho, _⟩ := id p'
    exact Heap.lt_size ho
  refine call_enum_tuple p' fun h' he hit hk => wpAny_pyIter_enum he ?_
  have I2 : Inv X pins σ H1 { s1 with heap := h' } := I1.kept (t' := s1.toks) hk
  refine ⟨s1.heap.objs.size + 1, [s1.heap.objs.size + 1, s1.heap.objs.size], _, _, H1, rfl, I2, turn_enumT a (s1.heap.objs.size + 1) s1.heap.objs.size, ⟨⟨.none, he⟩, hit, Nat.succ_ne_self _, Nat.ne_of_lt hal, Nat.ne_of_lt (Nat.lt_succ_of_lt hal)⟩, fun b hb => ?_, q⟩
  have e' : b = s1.heap.objs.size + 1 ∨ b = s1.heap.objs.size := by simpa using hb
  have hle : s1.heap.objs.size ≤ b := by
    rcases e' with z | z
    · rw [z]; exact Nat.le_add_right _ _
    · rw [z]; exact Nat.le_refl _
  exact I1.fpOk hle (I1.hok.fresh hle)
theorem for_enumT {K : PySem.W.Frag} {a : Addr} {xs : List V} {g : TG} {tb : TS} {D : Ends} {σ : St} {H : Hp} (Pv : Nat → St → Hp → Prop) (h0 : Pv 0 σ H) (hl : ∀ i σ H, i ≤ xs.length → Pv i σ H → SqT K H a xs)
    (hs : ∀ (i : Nat) (x : V) (T : Addr) (σ : St) (H : Hp), xs[i]? = some x → Pv i σ H → H T = none → g (.ref T) σ (upd H T (.tup [.int (i : Nat), x])) fun σ2 H2 => tb { D with nx := Pv (i + 1), ct := Pv (i + 1), bk := D.nx } σ2 H2) (hd : ∀ σ H, Pv xs.length σ H → D.nx σ H) :
    ∃ W : Nat → Nat → St → Hp → Prop, (∃ m, W 0 m σ H) ∧ ∀ i m σ H, W i m σ H →
      ((ItE K a).stop i H ∧ D.nx σ H) ∨ ((ItE K a).go i H ∧ ∃ N : St → Hp → Prop, (∀ σ' H', N σ' H' → ∃ m', m' < m ∧ W (i + 1) m' σ' H') ∧ ∀ v H', (ItE K a).yld i H v H' → g v σ H' fun σ2 H2 => tb { D with nx := N, ct := N, bk := D.nx } σ2 H2) := by
  refine ⟨fun i m σ H => m = xs.length - i ∧ i ≤ xs.length ∧ Pv i σ H, ⟨xs.length, by simp, Nat.zero_le _, h0⟩, ?_⟩
  rintro i m σ H ⟨rfl, hi, p⟩
  have q := hl i σ H hi p
  by_cases hlt : i < xs.length
  · refine .inr ⟨⟨xs, xs[i], q, by simp [hlt]⟩, Pv (i + 1), fun σ' H' p' => ⟨xs.length - (i + 1), by omega, rfl, hlt, p'⟩, fun v H' y => ?_⟩
    obtain ⟨T, x, rfl, hT, rfl, f⟩ := y
    exact hs i x T σ H (f xs q) p hT
  · obtain rfl : i = xs.length := by omega
    exact .inl ⟨⟨xs, q, rfl⟩, hd σ H p⟩
/-! ### t * k, t a tuple of one item -/
def rRep1 (K : PySem.W.Frag) : R2 := fun x y H Q => ∃ l k v, x = .ref l ∧ y = .int k ∧ SqT K H l [v] ∧ 1 ≤ k ∧ k ≤ 1000000 ∧ (k = 1 → Q (.ref l) H) ∧ (2 ≤ k → ∀ p, H p = none → Q (.ref p) (upd H p (.tup (List.replicate k.toNat v))))
theorem tup_mul_one (l : Addr) (items : Array Value) (n : Nat) (dd : Option Addr) (sl : Array (Option Value)) (u : Tok) :
    Meets (Builtin.«tuple.__mul__» ⟨[.ref l, .int 1 u], []⟩) (fun _ R s => s.heap.get? l = some { cls := .type "tuple", dict := dd, data := .seq items n, slots := sl } ∧ R (.ok (.ret (Value.ref l))) s) :=
  .of_wp fun prog w A R s h => by
    obtain ⟨hp, g, d, tk, os⟩ := s
    obtain ⟨hl, h⟩ := h
    have f1 := AutoSeq1.idx_int
    wp_walk using wpAny_loadPart' hl
    exact ⟨_, rfl, h⟩
section
variable {X : Cx}
theorem op_rep1 : OpR X (binaryOp .Mult) (rRep1 X.K) := by
  intro pins s σ H x y v u Q I rx ry h
  obtain ⟨l, k, y0, rfl, rfl, hT, h1, h2, q1, q2⟩ := h
  cases rx
  obtain ⟨t, rfl⟩ := ry
  obtain ⟨its, r, ⟨⟨cls, dd, data, sl⟩, ho, hc, n, hd⟩, hs⟩ := I.tuple hT
  simp only at hc hd
  subst hc hd
  obtain ⟨z, rfl, hz⟩ := vals1 r
  by_cases hk : k = 1
  · subst hk
    exact wpAny_binaryOp_repeat_ref (T := "tuple") (U := "int") (by decide) ⟨_, ho, rfl⟩ (fun s' => typeIs_int s' 1 t) noFill_tuple_mul F.fills_int_mul F.slot_int_rmul repeat_tuple F.slot_int_index.lookup
      (call_meets F.slot_int_rmul (typeIs_int s 1 t) F.entry_int_rmul (F.args_int_rmul_2 _ _) (int_rmul_tuple 1 t l [z].toArray n dd sl)
        ⟨ho, rfl, ⟨_, ho, rfl⟩, call_meets F.slot_tuple_mul ⟨_, ho, rfl⟩ F.entry_tuple_mul (F.args_tuple_mul_2 _ _) (tup_mul_one l [z].toArray n dd sl t) ⟨ho, .ref l, H, I, rfl, q1 rfl⟩⟩)
  · have c0 : (decide (k < -(2 ^ 63)) || decide (k ≥ 2 ^ 63)) = false := by
      rw [decide_eq_false (by omega), decide_eq_false (by omega)] <;> rfl
    have c1 : ([z].toArray.isEmpty || k == 1) = false := by
      show (false || k == 1) = false
      rw [Bool.false_or]
      exact beq_eq_false_iff_ne.mpr hk
    have c2 : (decide (k ≤ 0) || [z].toArray.isEmpty) = false := by
      show (decide (k ≤ 0) || false) = false
      rw [Bool.or_false]
      exact decide_eq_false (by omega)
    have c4 : Builtin.Tuple.tupleTooMany ((([z].toArray.size : Nat) : Int) * k) = false := by
      unfold Builtin.Tuple.tupleTooMany
      rw [sizeLine_eq]
      exact decide_eq_false (by show ¬ _; simp; omega)
    have fl : (List.replicate k.toNat [z]).flatten = List.replicate k.toNat z := by
      induction k.toNat with
      | zero => rfl
      | succ m ih => rw [List.replicate_succ, List.flatten_cons, ih, List.replicate_succ]; rfl
    have rv : ∀ m : Nat, Vals (List.replicate m y0) (List.replicate m z) := by
      intro m
      induction m with
      | zero => exact .nil
      | succ m ih => exact .cons hz ih
    have hle : (List.replicate k.toNat z).length ≤ sizeLine := by rw [List.length_replicate, sizeLine_eq]; omega
    refine wpAny_binaryOp_repeat_ref (T := "tuple") (U := "int") (by decide) ⟨_, ho, rfl⟩ (fun s' => typeIs_int s' k t) noFill_tuple_mul F.fills_int_mul F.slot_int_rmul repeat_tuple F.slot_int_index.lookup
      (call_meets F.slot_int_rmul (typeIs_int s k t) F.entry_int_rmul (F.args_int_rmul_2 _ _) (int_rmul_tuple k t l [z].toArray n dd sl)
        ⟨ho, rfl, ⟨_, ho, rfl⟩, call_meets F.slot_tuple_mul ⟨_, ho, rfl⟩ F.entry_tuple_mul (F.args_tuple_mul_2 _ _) (tuple_mulW l [z].toArray n dd sl k t c0 c1 c2 (by simp; omega) c4 (by rw [size_rep, List.size_toArray, fl]; exact hle)) ⟨ho, ?_⟩⟩)
    rw [size_rep, fl]
    refine ⟨.ref s.heap.objs.size, _, I.laid (t' := s.toks) (o := .tup (List.replicate k.toNat y0)) (fun b ob q => Heap.get?_push_of_some _ q) (Nat.le_refl _) ?_, rfl, q2 (by omega) _ (I.hok.fresh (Nat.le_refl _))⟩
    exact ⟨by rw [List.length_replicate, sizeLine_eq]; omega, _, rv k.toNat, IsTup.new _ _⟩
end
end L2
end

section
/-! rules of our own: a method called by keywords; repr of data; defs that want no guard held; a field as a target -/
namespace L2
open PySem PySem.Spec PyProof.Rows
section
variable {X : Cx} {CX : CXT} {k n : Nat} {f C : Addr} {fd : FuncData} {ps ks : List Str} {sp : Sp} {E : XK} {x m : Str} {p pos apos : Pos} {e o : Expr} {es : List Expr} {kws : List Keyword} {ta : TE} {t tk : TA} {g : List Value → List Value → List Value} {gV : List V → List V → List V}
/-- o.m(k = v, ..) -/
def tMethK (C : Addr) (m : Str) (sp : Sp) (gV : List V → List V → List V) (E : XK) (ta : TE) (tk : TA) : TE := fun σ H Q => ta σ H fun x H1 => ∃ a dx fs, x = .ref a ∧ H1 a = some (.ins C dx fs) ∧ fs.lookup m = none ∧
  tk σ H1 fun zs H2 => sp (gV [x] zs) H2 Q E
theorem pe_methK {pl : Sem Bool} (he : PE X o ta) (c : Cls X.K C) (hm : Meth X.K C m f) (F : FnOk X.prog X.w X.K X.mg X.base CX k f fd ps sp) (hr : Room k X.A) (hb : KBinds X.K fd ps ks g gV) (hx : Passes CX X E) (hkw : PK X kws tk)
    (hall : (backToKw pos (keywordEach kws X.env)).all (·.1.isSome) = true := by rfl) (hks : (backToKw pos (keywordEach kws X.env)).filterMap (·.1) = ks := by rfl)
    (hpl : ((backTo pos (starEach [] X.env)).any (·.1) || (backToKw pos (keywordEach kws X.env)).any (·.1.isNone)) = false := by rfl)
    (ht : eval (.Call (.Attribute o m apos) [] kws pos) X.env = (do
      let ov ← eval o X.env
      standAt apos.atName
      let (f, first) ← holding [ov] (getMethod ov m pl)
      callWith pos f first (backTo pos (starEach [] X.env)) (backToKw pos (keywordEach kws X.env))) := by rfl) :
    PE X (.Call (.Attribute o m apos) [] kws pos) (tMethK C m sp gV E ta tk) := by
  refine ⟨fun pins s σ H Q I h => ?_⟩
  refine PySem.W.methodCall_KW (pl := pl) (thn (he.run pins s σ H _ I h) fun u s1 ⟨x, H1, I1, rx, a, dx, fs, ex, ea, l, q⟩ => ?_) ht
  subst ex
  obtain rfl : u = Value.ref a := rx
  refine getmeth_ok I1 ea c hm l ?_
  refine PySem.W.callWith_KW0 (first := [.ref a]) (h₀ := X.base) I.ok.mod.kin hm.kp hall ?_ hpl
  refine thn (hkw.run pos pins s1 σ H1 _ I1 q) fun ws s2 ⟨zs, H2, I2, rz, q2⟩ => ⟨I2.kIn, ?_⟩
  rw [hks]
  exact run_fnk F hr hb hx I2 (vs := [.ref a]) (us := [.ref a]) (.cons rfl .nil) rz q2
/-- f(k = v, ..) -/
theorem pe_callK0 (F : FnOk X.prog X.w X.K X.mg X.base CX k f fd ps sp) (hr : Room k X.A) (hg : Gl X x) (hm : X.mg x = some (.ref f)) (hk : PySem.W.keepIn X.K (.ref f) = true) (hb : KBinds X.K fd ps ks g gV) (hx : Passes CX X E)
    (hkw : PK X kws tk) (hall : (backToKw pos (keywordEach kws X.env)).all (·.1.isSome) = true := by rfl) (hks : (backToKw pos (keywordEach kws X.env)).filterMap (·.1) = ks := by rfl)
    (hdb : (x == ("__debug__" : Str)) = false := by decide)
    (hpl : ((backTo pos (starEach [] X.env)).any (·.1) || (backToKw pos (keywordEach kws X.env)).any (·.1.isNone)) = false := by rfl) :
    PE X (.Call (.Name x p) [] kws pos) (tCallK sp gV E tNil tk) := by
  refine ⟨fun pins s σ H Q I h => ?_⟩
  refine wpAny_Call_Name_kw (ld_glob I hg hm ?_ hdb)
  refine PySem.W.callWith_KW0 (h₀ := X.base) I.ok.mod.kin hk hall ?_ hpl
  refine thn (hkw.run pos pins s σ H _ I h) fun ws s2 ⟨zs, H2, I2, rz, q2⟩ => ⟨I2.kIn, ?_⟩
  rw [hks]
  exact run_fnk F hr hb hx I2 (vs := []) (us := []) .nil rz q2
/-- what a callee lets out, at any slots -/
theorem passesE {W : WX} (tk : Takes X W) : Passes (L2.CX X.prog X.w) X (fun cls d H => ∀ σ : St, σ.length = X.N.length → W cls d σ H) :=
  fun _ σ _ _ e s' I c => tk e s' (XE.of_call I (fun _ _ _ h => h σ I.len) c)
end
/-! ### repr of data -/
def rRepr (K : PySem.W.Frag) : List V → Hp → VK → Prop := fun xs H Q => ∃ a d, xs = [.ref a] ∧ Dp K H (.ref a) d ∧ d.showable = true ∧ d.hasDict = false ∧ d.depth ≤ 8 ∧ d.shown.length ≤ sizeLine ∧ Q (.str d.shown) H
theorem call_repr {X : Cx} (hg : X.A.guards = some []) (hu : X.A.units + 64 < cLine) : CallR X (.builtin "repr") (rRepr X.K) := by
  intro pins s σ H xs us Q I r h
  obtain ⟨a, d, rfl, hd, h1, h2, h3, h4, q⟩ := h
  obtain ⟨u, rfl, ru⟩ := vals1 r
  obtain rfl : u = Value.ref a := ru
  obtain ⟨as, hr⟩ := Dp.reads I d _ _ hd rfl
  exact PySem.repr_of_reads' hr h1 (fun z => by rw [h2] at z; cases z) hg (by omega) (fun b o z => z) (fun h' u tk k => ⟨.str d.shown, H, I.kept (t' := tk) k, ⟨u, rfl⟩, q⟩) h4
/-! ### defs that want that no guard is held -/
structure FnG (P : Program) (w : World) (K : PySem.W.Frag) (mg : Str → Option Value) (base : Heap) (CX : CXT) (k : Nat) (f : Addr) (fd : FuncData) (ps : List Str) (sp : Sp) : Prop where
  len : ∀ vs H Q E, sp vs H Q E → vs.length = ps.length
  run : ∀ (A : Around) (outer : List Env) (s : Shared) (H : Hp) (args : Args) (us : List Value) (vs : List V) (Q : VK) (E : XK), Room k A → A.guards = some [] → Env0 P w K mg base A outer s H → BindsTo s fd args (ps.zip us) → Vals vs us → sp vs H Q E →
    codeAny (model P w) A (.call (.ref f) args) (CR CX outer P w H s Q E) s
theorem fng_of {CX : CXT} {P : Program} {w : World} {K : PySem.W.Frag} {mg : Str → Option Value} {base : Heap} {k : Nat} {f : Addr} {name qual : Str} {params : Arguments} {body : List Stmt} {scope : Scope} {dV kV doc pm cdv ct oc : Value} {an od : Option Addr}
    {osl : Array (Option Value)} {N ps : List Str} {sp : Sp} (lk : K.lookup f = some ⟨oc, od, .func (PySem.W.fnOf name qual params body scope dV kV doc pm an cdv ct), osl⟩) (hcd : PySem.W.codeIn K cdv qual = true) (S : FnScope N ps scope)
    (len : ∀ vs H Q E, sp vs H Q E → vs.length = ps.length)
    (hbody : ∀ (A : Around) (outer : List Env) (s : Shared) (H : Hp) (vs : List V) (Q : VK) (E : XK), Room k (A.deeper (envOfC qual scope s.heap.objs.size f cdv)) → A.guards = some [] → sp vs H Q E →
      ∃ t, PSs (cxOf CX P w K mg base N qual scope f cdv A outer s H E) body t ∧ t { nx := fun _ H' => Q .non H', rt := Q } (start N vs) H) :
    FnG P w K mg base CX (k + 1) f (PySem.W.fnOf name qual params body scope dV kV doc pm an cdv ct) ps sp := by
  refine ⟨len, fun A outer s H args us vs Q E hr hgd e0 hb r hsp => ?_⟩
  have hl := len _ _ _ _ hsp
  have KX : K.In s.heap := e0.mod.kin.keeps fun b o e => (e0.bs b o e).1
  have lim : s.heap.NoLimit := e0.mod.nolimit.keeps fun b o e => (e0.bs b o e).1
  have hkind : ∀ y ∈ ps.zip us, scope.names.lookup y.1 = some .local ∨ (scope.names.lookup y.1 = some .cell ∧ ((cellsFrom (s.heap.objs.size + 1) scope.names []).lookup y.1).isSome = true) := fun ⟨n, v⟩ hy => by
    rcases S.par n (List.of_mem_zip hy).1 with q | q
    · exact .inl q
    · exact .inr ⟨q, PySem.W.cellsFrom_some _ _ _ (.inl q)⟩
  refine codeAny_call_function hr.depth (KX _ _ lk) rfl S.co S.gen rfl (PySem.W.codeRec_of KX hcd) (hb _ _ _ _ ?_)
  refine wpAny_newFunctionEnv_cells S.kind hkind fun env he s1 x => ?_
  subst he
  refine ⟨lim.keeps x.toInCall.keep, codeAny_func ?_⟩
  obtain ⟨t, ht, hq⟩ := hbody A outer s H vs Q E (hr.deeper _) hgd hsp
  have I : Inv (cxOf CX P w K mg base N qual scope f cdv A outer s H E) [] (start N vs) H s1 := inv_start S hr.hd e0 hl r x
  refine wpAny_mono (ht.run [] s1 (start N vs) H _ I hq) (fun fl s' hs => ?_) fun e s' hs => hs
  have fin : ∀ {σ' : St} {H' : Hp} {v : V} {u : Value}, Inv (cxOf CX P w K mg base N qual scope f cdv A outer s H E) [] σ' H' s' → RelV v u → Q v H' → CE outer P w H s Q u s' :=
    fun {σ' H' v u} J rv q => ⟨v, H', J.os, J.bare, J.base, J.hok, rv, q⟩
  cases fl with
  | ret u =>
    obtain ⟨v, σ', H', J, rv, q⟩ := hs
    exact fin J rv q
  | next =>
    obtain ⟨σ', H', J, q⟩ := hs
    exact fin (v := V.non) (u := Value.none) J rfl q
  | brk =>
    obtain ⟨_, _, _, q⟩ := hs
    exact False.elim q
  | cont =>
    obtain ⟨_, _, _, q⟩ := hs
    exact False.elim q
section
variable {P : Program} {w : World} {K : PySem.W.Frag} {mg : Str → Option Value} {base : Heap} {CX : CXT}
/-- as Fun.ok, with the guards -/
theorem Fun.okG {x qual : Str} {st : Stmt} {f : Addr} {fd : FuncData} {N ps : List Str} {k : Nat} {sp : Sp} (F : Fun K x qual st f fd) (S : FnScope N ps (defScope st)) (len : ∀ vs H Q E, sp vs H Q E → vs.length = ps.length)
    (hbody : ∀ (cdv : Value) (A : Around) (outer : List Env) (s : Shared) (H : Hp) (vs : List V) (Q : VK) (E : XK), Room k (A.deeper (envOfC qual (defScope st) s.heap.objs.size f cdv)) → A.guards = some [] → sp vs H Q E →
      ∃ t, PSs (cxOf CX P w K mg base N qual (defScope st) f cdv A outer s H E) (defBody st) t ∧ t { nx := fun _ H' => Q .non H', rt := Q } (start N vs) H) : FnG P w K mg base CX (k + 1) f fd ps sp := by
  obtain ⟨oc, od, kV, doc, pm, an, cdv, ct, osl, rfl, lk, hcd⟩ := F.ex
  exact fng_of lk hcd S len fun A outer s H vs Q E hr hg hsp => hbody cdv A outer s H vs Q E hr hg hsp
end
section
variable {X : Cx} {CX : CXT} {k : Nat} {f C : Addr} {fd : FuncData} {ps : List Str} {sp : Sp} {dvs : List V} {ds : List Value} {E : XK} {x m : Str} {p pos apos : Pos} {e o : Expr} {es : List Expr} {ta : TE} {t : TA}
theorem run_fng {pins : List (Addr × Obj)} {σ : St} {H : Hp} {s : Shared} {Q : VK} {us : List Value} {vs : List V} (F : FnG X.prog X.w X.K X.mg X.base CX k f fd ps sp) (hr : Room k X.A) (hgd : X.A.guards = some []) (hb : Binds X.K fd ps ds) (hd : Vals dvs ds) (hx : Passes CX X E)
    (I : Inv X pins σ H s) (r : Vals vs us) (h : sp (vs ++ dvs) H Q E) : wpAny (model X.prog X.w) X.A (call (.ref f) us) (EP X pins σ Q) X.xe s := by
  have r2 : Vals (vs ++ dvs) (us ++ ds) := r.append hd
  have hl : (us ++ ds).length = ps.length := by rw [← r2.length]; exact F.len _ _ _ _ h
  refine wpAny_call (codeAny_mono (F.run X.A X.stack s H ⟨us, []⟩ (us ++ ds) (vs ++ dvs) Q E hr hgd I.env0 (hb s us I.kIn hl) r2 h) fun r s' hq => ?_)
  cases r with
  | error e => exact hx pins σ H s e s' I hq
  | ok fl =>
    cases fl with
    | ret u => exact I.after hq
    | next => exact False.elim hq
    | brk => exact False.elim hq
    | cont => exact False.elim hq
theorem pe_callG (F : FnG X.prog X.w X.K X.mg X.base CX k f fd ps sp) (hr : Room k X.A) (hgd : X.A.guards = some []) (hg : Gl X x) (hm : X.mg x = some (.ref f)) (hk : PySem.W.keepIn X.K (.ref f) = true) (hb : Binds X.K fd ps ds) (hd : Vals dvs ds) (hx : Passes CX X E)
    (ha : PA X (e :: es) t) (hdb : (x == ("__debug__" : Str)) = false := by decide) (he : starEach (e :: es) X.env = (false, eval e X.env) :: starEach es X.env := by rfl) (hpl : (backTo pos (starEach es X.env)).any (·.1) = false := by rfl) :
    PE X (.Call (.Name x p) (e :: es) [] pos) (tCall sp dvs E t) := by
  refine ⟨fun pins s σ H Q I h => ?_⟩
  refine wpAny_Call_Name_kw (ld_glob I hg hm ?_ hdb)
  refine PySem.W.callWith_K (h₀ := X.base) I.ok.mod.kin hk (thn (ha.run pos pins s σ H _ I h) fun us s1 ⟨vs, H1, I1, r, q⟩ => ⟨I1.kIn, ?_⟩) he hpl
  exact run_fng F hr hgd hb hd hx I1 r q
end
end L2
end

section
/-! rules of our own: set(list of ints); a field as a target of an unpacking -/
namespace L2
open PySem PySem.Spec PyProof.Rows
section
variable {P : Program} {w : World} {A : Around} {E : Value → Shared → Prop} {s : Shared}
set_option maxRecDepth 100000 in
set_option maxHeartbeats 3200000 in
theorem call_set_listI {l : Addr} {items : Array Value} (ns : List Int) {Q : Value → Shared → Prop} (hh : A.handled = none) (hl : s.heap.IsList l items) (hit : IntsAre items.toList ns) (hb : ns.length + 1 < scanBound)
    (h : ∀ (h' : Heap) (tk c : Nat), SetR w h' s.heap.objs.size (fun j => decide (j ∈ ns)) c → c ≤ ns.length → (∀ b o, s.heap.get? b = some o → h'.get? b = some o) → Q (.ref s.heap.objs.size) { s with heap := h', toks := tk }) :
    wpAny (model P w) A (call (.type "set") [.ref l]) Q E s := by
  have hisz : items.size = ns.length := by
    have q := IntsAre.length hit
    rw [Array.length_toList] at q
    exact q
  obtain ⟨c, tl, hmro⟩ := F.called_set.mro
  have hmade := F.called_set.made
  have hsub := F.called_set.sub
  refine wpAny_call (codeAny_of_tree ?_)
  show wpAny _ _ (callAny (.type "set") _) _ _ _
  refine wpAny_pure ⟨Code.quiet_builtin _ (by decide +kernel), codeAny_builtin F.entry_type_call ?_⟩
  rw [Around.under_plain (weight_type_call_type "set" [.ref l] []) rfl]
  have h1 := F.called_set.notType
  have h2 := F.called_set.canCreate
  have hct := F.typeCall_set_1 (.ref l)
  repeat (any_goals (first | assumption | wp_step))

  refine codeAny_mono (code_set_led1 (.ref l) (E := E) (Q₁ := fun obj s₁ => obj = .ref s.heap.objs.size ∧ s₁ = { s with heap := s.heap.push { cls := .type "set", dict := none, data := .set #[] 0 (.fresh 0 0 (!w.params.followText "set-order")) } }) ⟨rfl, rfl⟩) fun r s₁ hr => ?_
  cases r with
  | error e => exact hr
  | ok fl =>
    cases fl with
    | ret obj =>
      obtain ⟨rfl, rfl⟩ := hr
      have hS : (s.heap.push { cls := .type "set", dict := none, data := .set #[] 0 (.fresh 0 0 (!w.params.followText "set-order")) }).get? s.heap.objs.size = some { cls := .type "set", dict := none, data := .set #[] 0 (.fresh 0 0 (!w.params.followText "set-order")) } := Heap.get?_push_size _ rfl
      have hT : Shared.TypeIs { s with heap := s.heap.push { cls := .type "set", dict := none, data := .set #[] 0 (.fresh 0 0 (!w.params.followText "set-order")) } } (.ref s.heap.objs.size) "set" := ⟨_, hS, rfl⟩
      have hli := F.called_set.init.lookup
      have hbi := F.called_set.init.bind (.ref s.heap.objs.size)
      repeat (any_goals (first | assumption | wp_step))

      refine codeAny_mono (codeAny_call_builtin (R := wants (fun r s₂ => r = .none ∧ ∃ h' tk c, s₂ = { s with heap := h', toks := tk } ∧ SetR w h' s.heap.objs.size (fun j => decide (j ∈ ns)) c ∧ c ≤ ns.length ∧
          (∀ b o, s.heap.get? b = some o → h'.get? b = some o)) E) F.called_set.init.plain F.entry_set_init (check_set_init_1 hT ?_)) fun r₂ s₂ hr₂ => ?_
      · obtain ⟨ol, hol, hcl, nl, hdl⟩ := hl
        obtain ⟨ocls, odict, odata, oslots⟩ := ol
        simp only at hcl hdl
        subst hcl; subst hdl
        have hol' : (s.heap.push { cls := .type "set", dict := none, data := .set #[] 0 (.fresh 0 0 (!w.params.followText "set-order")) }).get? l = some { cls := .type "list", dict := odict, data := .seq items nl, slots := oslots } := Heap.get?_push_of_some _ hol
        have hsls := F.sub_list_set
        have hslf := F.sub_list_frozenset
        have hne : (Value.type "list" == Value.type "dict") = false := by decide
        have hl1 : (s.heap.push { cls := .type "set", dict := none, data := .set #[] 0 (.fresh 0 0 (!w.params.followText "set-order")) }).IsList l items := ⟨_, hol', rfl, nl, rfl⟩
        unfold Builtin.«set.__init__» noKeywords Builtin.Frozenset.updateFrom
        generalize hPI : pyIter = PI
        wp_walk
        subst hPI

        refine wpAny_pyIter_list hl1 ?_
        refine wpAny_bind (wpAny_runValue ?_)
        have hlS : l < s.heap.objs.size := Heap.lt_size hol
        have hh3 : A.in1.in1.in1.handled = none := by simp [hh]
        have hz1 : (s.heap.push { cls := .type "set", dict := none, data := .set #[] 0 (.fresh 0 0 (!w.params.followText "set-order")) }).objs.size = s.heap.objs.size + 1 := Heap.size_push ..
        have hneI : l ≠ (s.heap.push { cls := .type "set", dict := none, data := .set #[] 0 (.fresh 0 0 (!w.params.followText "set-order")) }).objs.size := by
          rw [Heap.size_push]; exact Nat.ne_of_lt (Nat.lt_succ_of_lt hlS)
        have hSf : s.heap.objs.size ∉ [(s.heap.push { cls := .type "set", dict := none, data := .set #[] 0 (.fresh 0 0 (!w.params.followText "set-order")) }).objs.size, l] := by
          rw [Heap.size_push]; simp only [List.mem_cons, List.mem_singleton, List.not_mem_nil, or_false, not_or]
          exact ⟨Nat.ne_of_lt (Nat.lt_succ_self _), Nat.ne_of_gt hlS⟩
        have hval : ∀ (i : Nat) (v : Value), items[i]? = some v → ∃ k t, ns[i]? = some k ∧ v = .int k t := fun i v hv => by
          have hi : i < ns.length := by rw [← hisz]; exact (Array.getElem?_eq_some_iff.mp hv).1
          obtain ⟨t, e⟩ := PyProof.Rows.IntsAre.int_at hit i v (by rw [Array.getElem?_toList]; exact hv)
          refine ⟨ns[i], t, List.getElem?_eq_getElem hi, ?_⟩
          rw [e, List.getD_eq_getElem?_getD, List.getElem?_eq_getElem hi] <;> rfl
        refine set_update_ints ((Walks.list hh3 _ l hneI items).toS) s.heap.objs.size
          hSf ns hisz hb hval (items.size - 0) 0 _ (by omega) (Nat.zero_le _)
          ⟨⟨_, Heap.get?_push_size _ rfl, rfl, rfl⟩, (hl1.push _)⟩ ?hS0 ?hR
        case hS0 =>
          have hget : ((s.heap.push { cls := .type "set", dict := none, data := .set #[] 0 (.fresh 0 0 (!w.params.followText "set-order")) }).push { cls := .type "list_iterator", data := .fields #[.ref l, .int 0 0] }).get? s.heap.objs.size
              = some { cls := .type "set", dict := none, data := .set #[] 0 (.fresh 0 0 (!w.params.followText "set-order")) } := Heap.get?_push_of_some _ hS
          exact ⟨0, Nat.le_refl 0, setR_new_at hget⟩
        case hR =>
          intro s' c' hm hc' hS'
          obtain ⟨h', g2, d', tk', os'⟩ := s'
          have eg : g2 = s.gens := hm.gens
          have ed : d' = s.drawn := hm.drawn
          have eo : os' = s.os := hm.os
          subst eg; subst ed; subst eo
          show wpAny _ _ _ _ _ _
          refine wpAny_pure ?_
          show wpAny _ _ (ret Value.none) _ _ _
          rw [hisz] at hc'
          refine wpAny_pure ⟨rfl, h', tk', c', rfl, hS', hc', fun b o e => ?_⟩
          have hb0 : b < s.heap.objs.size := Heap.lt_size e
          have hb1 : b ≠ s.heap.objs.size := Nat.ne_of_lt hb0
          have hb2 : b ≠ (s.heap.push { cls := .type "set", dict := none, data := .set #[] 0 (.fresh 0 0 (!w.params.followText "set-order")) }).objs.size := by
            rw [Heap.size_push]; exact Nat.ne_of_lt (Nat.lt_succ_of_lt hb0)
          exact hm.heap b o (by simp only [List.mem_cons, List.mem_singleton, List.not_mem_nil, or_false, not_or]; exact ⟨hb1, hb2⟩) (Heap.get?_push_of_some _ (Heap.get?_push_of_some _ e))

      · cases r₂ with
        | error e => exact hr₂
        | ok fl₂ =>
          cases fl₂ with
          | ret r =>
            obtain ⟨rfl, h', tk, c', rfl, hS', hc', hk'⟩ := hr₂
            repeat (any_goals (first | assumption | wp_step))
            exact h _ _ _ hS' hc' hk'
          | _ => exact hr₂.elim
    | _ => exact hr.elim

end
/-- set(xs), xs a list of ints -/
def rSetI (K : PySem.W.Frag) (w : World) : List V → Hp → VK → Prop := fun vs H Q => ∃ (a : Addr) (ns : List Int), vs = [V.ref a] ∧ SqL K H a (ns.map V.int) ∧ ns.length < 1000 ∧
  ∀ p c, H p = none → c ≤ ns.length → Q (.ref p) (upd H p (SetO w p (fun j => decide (j ∈ ns)) c))
theorem cr_setI {X : Cx} (hc : X.calm = true) : CallR X (.type "set") (rSetI X.K X.w) := by
  intro pins s σ H xs us Q I r h
  obtain ⟨l, ns, rfl, hl, hlen, q⟩ := h
  rw [Vals.ref1 r]
  obtain ⟨its, rv, pl, hz⟩ := I.list hl
  have hn : H s.heap.objs.size = none := I.hok.fresh (Nat.le_refl _)
  refine call_set_listI (P := X.prog) (w := X.w) ns (I.ok.hd hc) pl.isList (by simpa using ints_of_vals rv) (by unfold scanBound; omega) fun h' tk c R hcn k => ?_
  exact ⟨.ref s.heap.objs.size, upd H s.heap.objs.size (SetO X.w s.heap.objs.size (fun j => decide (j ∈ ns)) c), I.laid (t' := tk) k (Nat.le_refl _) (setO_new R), rfl, q _ c hn hcn⟩
/-- o.f as a target -/
def gFld (K : PySem.W.Frag) (ta : TE) (f : Str) : TG := fun v σ H Q => ta σ H fun x H1 => ∃ a C dx fs, x = .ref a ∧ H1 a = some (.ins C dx fs) ∧ Cls K C ∧ NoAttr K C f ∧ fs.length < 1000 ∧ Q σ (upd H1 a (.ins C dx (putF f v fs)))
theorem pg_fld {X : Cx} {o : Expr} {f : Str} {pos : Pos} {ta : TE} (ha : PE X o ta) : PG X (.Attribute o f pos) (gFld X.K ta f) := by
  refine ⟨fun pins s σ H v u Q I r h => ?_⟩
  refine PySem.W.kas_attr (thn (ha.run pins s σ H _ I h) fun ov s1 ⟨x, H1, I1, r1, a, C, dx, fs, ex, ea, c, n, l, q⟩ => ?_)
  subst ex
  obtain rfl : ov = Value.ref a := r1
  exact setattr_ok I1 ea c n l r fun s' I' => ⟨σ, _, I', q⟩
end L2
end

section
namespace KJ
open PySem PySem.Spec PyProof.Rows L2
/-- a def of the text at f -/
abbrev FnK (K : PySem.W.Frag) (x qual : Str) (st : Stmt) (f : Addr) (fd : FuncData) : Prop := FunD K x qual (defArgs st) (defBody st) (defScope st) [] [] f fd
/-- an own error of the text -/
structure Er (P : Program) (K : PySem.W.Frag) (mg : Str → Option Value) (x : Str) (C fI CM : Addr) : Prop where
  T : PySem.ExW.ExT P K mg x C fI
  is : IsT K C
  fc : XfC K C
  te : PySem.W.exmOne K (.ref C) (.ref CM) = some true
/-- what is known of the text behind the top -/
structure Tx (P : Program) (K : PySem.W.Frag) (mg : Str → Option Value) where
  CM : Addr
  CN : Addr
  CR : Addr
  CB : Addr
  fR : Addr
  fB : Addr
  gM : mg "MateError" = some (.ref CM)
  gN : mg "InvalidNumber" = some (.ref CN)
  gR : mg "Refused" = some (.ref CR)
  gB : mg "Broken" = some (.ref CB)
  eR : Er P K mg "Refused" CR fR CM
  eB : Er P K mg "Broken" CB fB CM
  kRR : PySem.W.kitOne K (.ref CR) (.ref CR) = some true
  kRB : PySem.W.kitOne K (.ref CR) (.ref CB) = some false
  kRN : PySem.W.kitOne K (.ref CR) (.ref CN) = some false
  kBB : PySem.W.kitOne K (.ref CB) (.ref CB) = some true
  kBR : PySem.W.kitOne K (.ref CB) (.ref CR) = some false
  CD : Addr
  CJ : Addr
  gD : mg "Disk" = some (.ref CD)
  gJ : mg "Journal" = some (.ref CJ)
  clD : Cls K CD
  clJ : Cls K CJ
  neDJ : CD ≠ CJ
  nDcells : NoAttr K CD "cells"
  nD_octets : NoAttr K CD "_octets"
  nD_events : NoAttr K CD "_events"
  nJdisk : NoAttr K CJ "disk"
  nJ_side : NoAttr K CJ "_side"
  nJ_records : NoAttr K CJ "_records"
  nJ_end : NoAttr K CJ "_end"
  f_is_integer : Addr
  d_is_integer : FuncData
  F_is_integer : FnK K "is_integer" "is_integer" s_is_integer f_is_integer d_is_integer
  g_is_integer : mg "is_integer" = some (.ref f_is_integer)
  f_is_number : Addr
  d_is_number : FuncData
  F_is_number : FnK K "is_number" "is_number" s_is_number f_is_number d_is_number
  g_is_number : mg "is_number" = some (.ref f_is_number)
  f_is_octet : Addr
  d_is_octet : FuncData
  F_is_octet : FnK K "is_octet" "is_octet" s_is_octet f_is_octet d_is_octet
  g_is_octet : mg "is_octet" = some (.ref f_is_octet)
  f_Disk_init : Addr
  d_Disk_init : FuncData
  F_Disk_init : FnK K "__init__" "Disk.__init__" sDisk_init f_Disk_init d_Disk_init
  mkD : Mk K CD f_Disk_init
  f_Disk_look : Addr
  d_Disk_look : FuncData
  F_Disk_look : FnK K "look" "Disk.look" sDisk_look f_Disk_look d_Disk_look
  m_Disk_look : Meth K CD "look" f_Disk_look
  f_Disk_put : Addr
  d_Disk_put : FuncData
  F_Disk_put : FnK K "put" "Disk.put" sDisk_put f_Disk_put d_Disk_put
  m_Disk_put : Meth K CD "put" f_Disk_put
  f_Disk_flush : Addr
  d_Disk_flush : FuncData
  F_Disk_flush : FnK K "flush" "Disk.flush" sDisk_flush f_Disk_flush d_Disk_flush
  m_Disk_flush : Meth K CD "flush" f_Disk_flush
  f_Disk_events : Addr
  d_Disk_events : FuncData
  F_Disk_events : FnK K "events" "Disk.events" sDisk_events f_Disk_events d_Disk_events
  m_Disk_events : Meth K CD "events" f_Disk_events
  f_pending_places : Addr
  d_pending_places : FuncData
  F_pending_places : FnK K "pending_places" "pending_places" s_pending_places f_pending_places d_pending_places
  g_pending_places : mg "pending_places" = some (.ref f_pending_places)
  f_cut_cells : Addr
  d_cut_cells : FuncData
  F_cut_cells : FnK K "cut_cells" "cut_cells" s_cut_cells f_cut_cells d_cut_cells
  g_cut_cells : mg "cut_cells" = some (.ref f_cut_cells)
  f_half_start : Addr
  d_half_start : FuncData
  F_half_start : FnK K "half_start" "half_start" s_half_start f_half_start d_half_start
  g_half_start : mg "half_start" = some (.ref f_half_start)
  f_records_from : Addr
  d_records_from : FuncData
  F_records_from : FnK K "records_from" "records_from" s_records_from f_records_from d_records_from
  g_records_from : mg "records_from" = some (.ref f_records_from)
  f_needed_cells : Addr
  d_needed_cells : FuncData
  F_needed_cells : FnK K "needed_cells" "needed_cells" s_needed_cells f_needed_cells d_needed_cells
  g_needed_cells : mg "needed_cells" = some (.ref f_needed_cells)
  f_put_record : Addr
  d_put_record : FuncData
  F_put_record : FnK K "put_record" "put_record" s_put_record f_put_record d_put_record
  g_put_record : mg "put_record" = some (.ref f_put_record)
  f_put_end : Addr
  d_put_end : FuncData
  F_put_end : FnK K "put_end" "put_end" s_put_end f_put_end d_put_end
  g_put_end : mg "put_end" = some (.ref f_put_end)
  f_Journal_init : Addr
  d_Journal_init : FuncData
  F_Journal_init : FnK K "__init__" "Journal.__init__" sJournal_init f_Journal_init d_Journal_init
  mkJ : Mk K CJ f_Journal_init
  f_Journal_records : Addr
  d_Journal_records : FuncData
  F_Journal_records : FnK K "records" "Journal.records" sJournal_records f_Journal_records d_Journal_records
  m_Journal_records : Meth K CJ "records" f_Journal_records
  f_Journal_write : Addr
  d_Journal_write : FuncData
  F_Journal_write : FnK K "write" "Journal.write" sJournal_write f_Journal_write d_Journal_write
  m_Journal_write : Meth K CJ "write" f_Journal_write
  f_Journal_drop : Addr
  d_Journal_drop : FuncData
  F_Journal_drop : FnK K "drop" "Journal.drop" sJournal_drop f_Journal_drop d_Journal_drop
  m_Journal_drop : Meth K CJ "drop" f_Journal_drop
  f_Journal_renew : Addr
  d_Journal_renew : FuncData
  F_Journal_renew : FnK K "renew" "Journal.renew" sJournal_renew f_Journal_renew d_Journal_renew
  m_Journal_renew : Meth K CJ "renew" f_Journal_renew
  f_heap : Addr
  d_heap : FuncData
  F_heap : FnK K "_law_heap" "_law_heap" s_heap f_heap d_heap
  g_heap : mg "_law_heap" = some (.ref f_heap)
  f_draw : Addr
  d_draw : FuncData
  F_draw : FnK K "_law_draw" "_law_draw" s_draw f_draw d_draw
  g_draw : mg "_law_draw" = some (.ref f_draw)
  f_pick : Addr
  d_pick : FuncData
  F_pick : FnK K "_law_pick" "_law_pick" s_pick f_pick d_pick
  g_pick : mg "_law_pick" = some (.ref f_pick)
  f_octet : Addr
  d_octet : FuncData
  F_octet : FnK K "_law_octet" "_law_octet" s_octet f_octet d_octet
  g_octet : mg "_law_octet" = some (.ref f_octet)
  f_record : Addr
  d_record : FuncData
  F_record : FnK K "_law_record" "_law_record" s_record f_record d_record
  g_record : mg "_law_record" = some (.ref f_record)
  f_lasting : Addr
  d_lasting : FuncData
  F_lasting : FnK K "_law_lasting" "_law_lasting" s_lasting f_lasting d_lasting
  g_lasting : mg "_law_lasting" = some (.ref f_lasting)
  f_left : Addr
  d_left : FuncData
  F_left : FnK K "_law_left" "_law_left" s_left f_left d_left
  g_left : mg "_law_left" = some (.ref f_left)
  f_opened : Addr
  d_opened : FuncData
  F_opened : FnK K "_law_opened" "_law_opened" s_opened f_opened d_opened
  g_opened : mg "_law_opened" = some (.ref f_opened)
  f_base : Addr
  d_base : FuncData
  F_base : FnK K "_law_base" "_law_base" s_base f_base d_base
  g_base : mg "_law_base" = some (.ref f_base)
  f_cuts_right : Addr
  d_cuts_right : FuncData
  F_cuts_right : FnK K "_law_cuts_right" "_law_cuts_right" s_cuts_right f_cuts_right d_cuts_right
  g_cuts_right : mg "_law_cuts_right" = some (.ref f_cuts_right)
  f_call : Addr
  d_call : FuncData
  F_call : FnK K "_law_call" "_law_call" s_call f_call d_call
  g_call : mg "_law_call" = some (.ref f_call)
  f_turn : Addr
  d_turn : FuncData
  F_turn : FnK K "_law_turn" "_law_turn" s_turn f_turn d_turn
  g_turn : mg "_law_turn" = some (.ref f_turn)
  f_day_right : Addr
  d_day_right : FuncData
  F_day_right : FnK K "_law_day_right" "_law_day_right" s_day_right f_day_right d_day_right
  g_day_right : mg "_law_day_right" = some (.ref f_day_right)
  f_many_right : Addr
  d_many_right : FuncData
  F_many_right : FnK K "_law_many_right" "_law_many_right" s_many_right f_many_right d_many_right
  g_many_right : mg "_law_many_right" = some (.ref f_many_right)
  f_disk_right : Addr
  d_disk_right : FuncData
  F_disk_right : FnK K "_law_disk_right" "_law_disk_right" s_disk_right f_disk_right d_disk_right
  g_disk_right : mg "_law_disk_right" = some (.ref f_disk_right)
  f_odds_right : Addr
  d_odds_right : FuncData
  F_odds_right : FnK K "_law_odds_right" "_law_odds_right" s_odds_right f_odds_right d_odds_right
  g_odds_right : mg "_law_odds_right" = some (.ref f_odds_right)
  f_strange_right : Addr
  d_strange_right : FuncData
  F_strange_right : FnK K "_law_strange_right" "_law_strange_right" s_strange_right f_strange_right d_strange_right
  g_strange_right : mg "_law_strange_right" = some (.ref f_strange_right)
  f_law : Addr
  d_law : FuncData
  F_law : FnK K "law" "law" s_law f_law d_law
  g_law : mg "law" = some (.ref f_law)
  n_isinstance : mg "isinstance" = none
  n_len : mg "len" = none
  n_all : mg "all" = none
  n_list : mg "list" = none
  n_tuple : mg "tuple" = none
  n_sorted : mg "sorted" = none
  n_set : mg "set" = none
  n_zip : mg "zip" = none
  n_range : mg "range" = none
  n_sum : mg "sum" = none
  n_enumerate : mg "enumerate" = none
  n_abs : mg "abs" = none
  n_int : mg "int" = none
  n_max : mg "max" = none
  n_repr : mg "repr" = none
  n_super : mg "super" = none
  n_bool : mg "bool" = none
  n_str : mg "str" = none
  t_MOST_CELLS : Tok
  i_MOST_CELLS : mg "MOST_CELLS" = some (.int 20000 t_MOST_CELLS)
  t_OCTETS : Tok
  i_OCTETS : mg "OCTETS" = some (.int 256 t_OCTETS)
  t_HEAD : Tok
  i_HEAD : mg "HEAD" = some (.int 3 t_HEAD)
  t_MARK : Tok
  i_MARK : mg "MARK" = some (.int 1 t_MARK)
section
variable {P : Program} {K : PySem.W.Frag} {mg : Str → Option Value}
theorem Tx.b_is_integer (T : Tx P K mg) : Binds K T.d_is_integer ["value"] [] := FunD.bindsN T.F_is_integer fun _ _ _ _ _ _ us hl => match us, hl with | [_], _ => rfl
theorem sc_is_integer : FnScope ["value"] ["value"] (defScope s_is_integer) := ⟨rfl, rfl, rfl, by decide +kernel, rfl, by decide +kernel, by decide +kernel⟩
theorem Tx.b_is_number (T : Tx P K mg) : Binds K T.d_is_number ["value"] [] := FunD.bindsN T.F_is_number fun _ _ _ _ _ _ us hl => match us, hl with | [_], _ => rfl
theorem sc_is_number : FnScope ["value"] ["value"] (defScope s_is_number) := ⟨rfl, rfl, rfl, by decide +kernel, rfl, by decide +kernel, by decide +kernel⟩
theorem Tx.b_is_octet (T : Tx P K mg) : Binds K T.d_is_octet ["value"] [] := FunD.bindsN T.F_is_octet fun _ _ _ _ _ _ us hl => match us, hl with | [_], _ => rfl
theorem sc_is_octet : FnScope ["value"] ["value"] (defScope s_is_octet) := ⟨rfl, rfl, rfl, by decide +kernel, rfl, by decide +kernel, by decide +kernel⟩
theorem Tx.b_Disk_init (T : Tx P K mg) : Binds K T.d_Disk_init ["self", "cells"] [] := FunD.bindsN T.F_Disk_init fun _ _ _ _ _ _ us hl => match us, hl with | [_, _], _ => rfl
theorem sc_Disk_init : FnScope ["self", "cells", "cell"] ["self", "cells"] (defScope sDisk_init) := ⟨rfl, rfl, rfl, by decide +kernel, rfl, by decide +kernel, by decide +kernel⟩
theorem Tx.b_Disk_look (T : Tx P K mg) : Binds K T.d_Disk_look ["self", "at"] [] := FunD.bindsN T.F_Disk_look fun _ _ _ _ _ _ us hl => match us, hl with | [_, _], _ => rfl
theorem sc_Disk_look : FnScope ["self", "at"] ["self", "at"] (defScope sDisk_look) := ⟨rfl, rfl, rfl, by decide +kernel, rfl, by decide +kernel, by decide +kernel⟩
theorem Tx.b_Disk_put (T : Tx P K mg) : Binds K T.d_Disk_put ["self", "at", "octet"] [] := FunD.bindsN T.F_Disk_put fun _ _ _ _ _ _ us hl => match us, hl with | [_, _, _], _ => rfl
theorem sc_Disk_put : FnScope ["self", "at", "octet"] ["self", "at", "octet"] (defScope sDisk_put) := ⟨rfl, rfl, rfl, by decide +kernel, rfl, by decide +kernel, by decide +kernel⟩
theorem Tx.b_Disk_flush (T : Tx P K mg) : Binds K T.d_Disk_flush ["self"] [] := FunD.bindsN T.F_Disk_flush fun _ _ _ _ _ _ us hl => match us, hl with | [_], _ => rfl
theorem sc_Disk_flush : FnScope ["self"] ["self"] (defScope sDisk_flush) := ⟨rfl, rfl, rfl, by decide +kernel, rfl, by decide +kernel, by decide +kernel⟩
theorem Tx.b_Disk_events (T : Tx P K mg) : Binds K T.d_Disk_events ["self"] [] := FunD.bindsN T.F_Disk_events fun _ _ _ _ _ _ us hl => match us, hl with | [_], _ => rfl
theorem sc_Disk_events : FnScope ["self"] ["self"] (defScope sDisk_events) := ⟨rfl, rfl, rfl, by decide +kernel, rfl, by decide +kernel, by decide +kernel⟩
theorem Tx.b_pending_places (T : Tx P K mg) : Binds K T.d_pending_places ["events"] [] := FunD.bindsN T.F_pending_places fun _ _ _ _ _ _ us hl => match us, hl with | [_], _ => rfl
theorem sc_pending_places : FnScope ["events", "found", "event"] ["events"] (defScope s_pending_places) := ⟨rfl, rfl, rfl, by decide +kernel, rfl, by decide +kernel, by decide +kernel⟩
theorem Tx.b_cut_cells (T : Tx P K mg) : Binds K T.d_cut_cells ["cells", "events", "octets"] [] := FunD.bindsN T.F_cut_cells fun _ _ _ _ _ _ us hl => match us, hl with | [_, _, _], _ => rfl
theorem sc_cut_cells : FnScope ["cells", "events", "octets", "found", "event", "at", "octet"] ["cells", "events", "octets"] (defScope s_cut_cells) := ⟨rfl, rfl, rfl, by decide +kernel, rfl, by decide +kernel, by decide +kernel⟩
theorem Tx.b_half_start (T : Tx P K mg) : Binds K T.d_half_start ["disk", "side"] [] := FunD.bindsN T.F_half_start fun _ _ _ _ _ _ us hl => match us, hl with | [_, _], _ => rfl
theorem sc_half_start : FnScope ["disk", "side"] ["disk", "side"] (defScope s_half_start) := ⟨rfl, rfl, rfl, by decide +kernel, rfl, by decide +kernel, by decide +kernel⟩
theorem Tx.b_records_from (T : Tx P K mg) : Binds K T.d_records_from ["disk", "start", "stop"] [] := FunD.bindsN T.F_records_from fun _ _ _ _ _ _ us hl => match us, hl with | [_, _, _], _ => rfl
theorem sc_records_from : FnScope ["disk", "start", "stop", "found", "at", "first", "behind", "place"] ["disk", "start", "stop"] (defScope s_records_from) := ⟨rfl, rfl, rfl, by decide +kernel, rfl, by decide +kernel, by decide +kernel⟩
theorem Tx.b_needed_cells (T : Tx P K mg) : Binds K T.d_needed_cells ["records"] [] := FunD.bindsN T.F_needed_cells fun _ _ _ _ _ _ us hl => match us, hl with | [_], _ => rfl
theorem sc_needed_cells : FnScope ["records", "record"] ["records"] (defScope s_needed_cells) := ⟨rfl, rfl, rfl, by decide +kernel, rfl, by decide +kernel, by decide +kernel⟩
theorem Tx.b_put_record (T : Tx P K mg) : Binds K T.d_put_record ["disk", "at", "record"] [] := FunD.bindsN T.F_put_record fun _ _ _ _ _ _ us hl => match us, hl with | [_, _, _], _ => rfl
theorem sc_put_record : FnScope ["disk", "at", "record", "place", "octet"] ["disk", "at", "record"] (defScope s_put_record) := ⟨rfl, rfl, rfl, by decide +kernel, rfl, by decide +kernel, by decide +kernel⟩
theorem Tx.b_put_end (T : Tx P K mg) : Binds K T.d_put_end ["disk", "at", "stop"] [] := FunD.bindsN T.F_put_end fun _ _ _ _ _ _ us hl => match us, hl with | [_, _, _], _ => rfl
theorem sc_put_end : FnScope ["disk", "at", "stop"] ["disk", "at", "stop"] (defScope s_put_end) := ⟨rfl, rfl, rfl, by decide +kernel, rfl, by decide +kernel, by decide +kernel⟩
theorem Tx.b_Journal_init (T : Tx P K mg) : Binds K T.d_Journal_init ["self", "disk"] [] := FunD.bindsN T.F_Journal_init fun _ _ _ _ _ _ us hl => match us, hl with | [_, _], _ => rfl
theorem sc_Journal_init : FnScope ["self", "disk"] ["self", "disk"] (defScope sJournal_init) := ⟨rfl, rfl, rfl, by decide +kernel, rfl, by decide +kernel, by decide +kernel⟩
theorem Tx.b_Journal_records (T : Tx P K mg) : Binds K T.d_Journal_records ["self"] [] := FunD.bindsN T.F_Journal_records fun _ _ _ _ _ _ us hl => match us, hl with | [_], _ => rfl
theorem sc_Journal_records : FnScope ["self"] ["self"] (defScope sJournal_records) := ⟨rfl, rfl, rfl, by decide +kernel, rfl, by decide +kernel, by decide +kernel⟩
theorem Tx.b_Journal_write (T : Tx P K mg) : Binds K T.d_Journal_write ["self", "record"] [] := FunD.bindsN T.F_Journal_write fun _ _ _ _ _ _ us hl => match us, hl with | [_, _], _ => rfl
theorem sc_Journal_write : FnScope ["self", "record", "at", "stop", "behind"] ["self", "record"] (defScope sJournal_write) := ⟨rfl, rfl, rfl, by decide +kernel, rfl, by decide +kernel, by decide +kernel⟩
theorem Tx.b_Journal_drop (T : Tx P K mg) : Binds K T.d_Journal_drop ["self"] [] := FunD.bindsN T.F_Journal_drop fun _ _ _ _ _ _ us hl => match us, hl with | [_], _ => rfl
theorem sc_Journal_drop : FnScope ["self", "at"] ["self"] (defScope sJournal_drop) := ⟨rfl, rfl, rfl, by decide +kernel, rfl, by decide +kernel, by decide +kernel⟩
theorem Tx.b_Journal_renew (T : Tx P K mg) : Binds K T.d_Journal_renew ["self", "records"] [] := FunD.bindsN T.F_Journal_renew fun _ _ _ _ _ _ us hl => match us, hl with | [_, _], _ => rfl
theorem sc_Journal_renew : FnScope ["self", "records", "side", "at", "stop", "record"] ["self", "records"] (defScope sJournal_renew) := ⟨rfl, rfl, rfl, by decide +kernel, rfl, by decide +kernel, by decide +kernel⟩
theorem Tx.b_heap (T : Tx P K mg) : Binds K T.d_heap ["_law_script"] [] := FunD.bindsN T.F_heap fun _ _ _ _ _ _ us hl => match us, hl with | [_], _ => rfl
theorem sc_heap : FnScope ["_law_script", "_law_cells", "_law_stir", "_law_cell"] ["_law_script"] (defScope s_heap) := ⟨rfl, rfl, rfl, by decide +kernel, rfl, by decide +kernel, by decide +kernel⟩
theorem Tx.b_draw (T : Tx P K mg) : Binds K T.d_draw ["_law_heap_here", "_law_many"] [] := FunD.bindsN T.F_draw fun _ _ _ _ _ _ us hl => match us, hl with | [_, _], _ => rfl
theorem sc_draw : FnScope ["_law_heap_here", "_law_many", "_law_rest"] ["_law_heap_here", "_law_many"] (defScope s_draw) := ⟨rfl, rfl, rfl, by decide +kernel, rfl, by decide +kernel, by decide +kernel⟩
theorem Tx.b_pick (T : Tx P K mg) : Binds K T.d_pick ["_law_heap_here", "_law_some"] [] := FunD.bindsN T.F_pick fun _ _ _ _ _ _ us hl => match us, hl with | [_, _], _ => rfl
theorem sc_pick : FnScope ["_law_heap_here", "_law_some"] ["_law_heap_here", "_law_some"] (defScope s_pick) := ⟨rfl, rfl, rfl, by decide +kernel, rfl, by decide +kernel, by decide +kernel⟩
theorem Tx.b_octet (T : Tx P K mg) : Binds K T.d_octet ["_law_heap_here"] [] := FunD.bindsN T.F_octet fun _ _ _ _ _ _ us hl => match us, hl with | [_], _ => rfl
theorem sc_octet : FnScope ["_law_heap_here", "_law_kind"] ["_law_heap_here"] (defScope s_octet) := ⟨rfl, rfl, rfl, by decide +kernel, rfl, by decide +kernel, by decide +kernel⟩
theorem Tx.b_record (T : Tx P K mg) : Binds K T.d_record ["_law_heap_here", "_law_long"] [] := FunD.bindsN T.F_record fun _ _ _ _ _ _ us hl => match us, hl with | [_, _], _ => rfl
theorem sc_record : FnScope ["_law_heap_here", "_law_long", "_law_at"] ["_law_heap_here", "_law_long"] (defScope s_record) := ⟨rfl, rfl, rfl, by decide +kernel, rfl, by decide +kernel, by decide +kernel⟩
theorem Tx.b_lasting (T : Tx P K mg) : Binds K T.d_lasting ["_law_cells", "_law_events"] [] := FunD.bindsN T.F_lasting fun _ _ _ _ _ _ us hl => match us, hl with | [_, _], _ => rfl
theorem sc_lasting : FnScope ["_law_cells", "_law_events", "_law_now", "_law_lasts", "_law_pending", "_law_event", "_law_at"] ["_law_cells", "_law_events"] (defScope s_lasting) := ⟨rfl, rfl, rfl, by decide +kernel, rfl, by decide +kernel, by decide +kernel⟩
theorem Tx.b_left (T : Tx P K mg) : Binds K T.d_left ["_law_heap_here", "_law_cells", "_law_events"] [] := FunD.bindsN T.F_left fun _ _ _ _ _ _ us hl => match us, hl with | [_, _, _], _ => rfl
theorem sc_left : FnScope ["_law_heap_here", "_law_cells", "_law_events", "_law_lasts", "_law_pending", "_law_now", "_law_way", "_law_at"] ["_law_heap_here", "_law_cells", "_law_events"] (defScope s_left) := ⟨rfl, rfl, rfl, by decide +kernel, rfl, by decide +kernel, by decide +kernel⟩
theorem Tx.b_opened (T : Tx P K mg) : Binds K T.d_opened ["_law_cells"] [] := FunD.bindsN T.F_opened fun _ _ _ _ _ _ us hl => match us, hl with | [_], _ => rfl
theorem sc_opened : FnScope ["_law_cells", "_law_disk", "_law_records"] ["_law_cells"] (defScope s_opened) := ⟨rfl, rfl, rfl, by decide +kernel, rfl, by decide +kernel, by decide +kernel⟩
theorem Tx.b_base (T : Tx P K mg) : Binds K T.d_base ["_law_cells", "_law_events"] [] := FunD.bindsN T.F_base fun _ _ _ _ _ _ us hl => match us, hl with | [_, _], _ => rfl
theorem sc_base : FnScope ["_law_cells", "_law_events", "_law_flushed", "_law_now", "_law_at", "_law_event"] ["_law_cells", "_law_events"] (defScope s_base) := ⟨rfl, rfl, rfl, by decide +kernel, rfl, by decide +kernel, by decide +kernel⟩
theorem Tx.b_cuts_right (T : Tx P K mg) : Binds K T.d_cuts_right ["_law_heap_here", "_law_disk", "_law_begun", "_law_old", "_law_new", "_law_cuts"] [] := FunD.bindsN T.F_cuts_right fun _ _ _ _ _ _ us hl => match us, hl with | [_, _, _, _, _, _], _ => rfl
theorem sc_cuts_right : FnScope ["_law_heap_here", "_law_disk", "_law_begun", "_law_old", "_law_new", "_law_cuts", "_law_events", "_law_base_here", "_law_since", "_law_ends", "_law_turn_here", "_law_end", "_law_found"] ["_law_heap_here", "_law_disk", "_law_begun", "_law_old", "_law_new", "_law_cuts"] (defScope s_cuts_right) := ⟨rfl, rfl, rfl, by decide +kernel, rfl, by decide +kernel, by decide +kernel⟩
theorem Tx.b_call (T : Tx P K mg) : Binds K T.d_call ["_law_heap_here", "_law_journal", "_law_word", "_law_records", "_law_part"] [] := FunD.bindsN T.F_call fun _ _ _ _ _ _ us hl => match us, hl with | [_, _, _, _, _], _ => rfl
theorem sc_call : FnScope ["_law_heap_here", "_law_journal", "_law_word", "_law_records", "_law_part", "error"] ["_law_heap_here", "_law_journal", "_law_word", "_law_records", "_law_part"] (defScope s_call) := ⟨rfl, rfl, rfl, by decide +kernel, rfl, by decide +kernel, by decide +kernel⟩
theorem Tx.b_turn (T : Tx P K mg) : Binds K T.d_turn ["_law_heap_here", "_law_journal", "_law_old", "_law_long", "_law_cuts"] [] := FunD.bindsN T.F_turn fun _ _ _ _ _ _ us hl => match us, hl with | [_, _, _, _, _], _ => rfl
theorem sc_turn : FnScope ["_law_heap_here", "_law_journal", "_law_old", "_law_long", "_law_cuts", "_law_disk", "_law_word", "_law_part", "_law_begun", "_law_new", "_law_at", "_law_told", "_law_due", "_law_record_here"] ["_law_heap_here", "_law_journal", "_law_old", "_law_long", "_law_cuts"] (defScope s_turn) := ⟨rfl, rfl, rfl, by decide +kernel, rfl, by decide +kernel, by decide +kernel⟩
theorem Tx.b_day_right (T : Tx P K mg) : Binds K T.d_day_right ["_law_heap_here", "_law_many", "_law_turns", "_law_cuts"] [] := FunD.bindsN T.F_day_right fun _ _ _ _ _ _ us hl => match us, hl with | [_, _, _, _], _ => rfl
theorem sc_day_right : FnScope ["_law_heap_here", "_law_many", "_law_turns", "_law_cuts", "_law_journal", "_law_records", "_law_turn_here", "_law_since", "_law_behind", "_law_disk", "_law_end", "_law_cells", "_law_fresh"] ["_law_heap_here", "_law_many", "_law_turns", "_law_cuts"] (defScope s_day_right) := ⟨rfl, rfl, rfl, by decide +kernel, rfl, by decide +kernel, by decide +kernel⟩
theorem Tx.b_many_right (T : Tx P K mg) : Binds K T.d_many_right [] [] := FunD.bindsN T.F_many_right fun _ _ _ _ _ _ us hl => match us, hl with | [], _ => rfl
theorem sc_many_right : FnScope ["_law_journal", "_law_other", "_law_turn_here"] [] (defScope s_many_right) := ⟨rfl, rfl, rfl, by decide +kernel, rfl, by decide +kernel, by decide +kernel⟩
theorem Tx.b_disk_right (T : Tx P K mg) : Binds K T.d_disk_right ["_law_heap_here", "_law_cells"] [] := FunD.bindsN T.F_disk_right fun _ _ _ _ _ _ us hl => match us, hl with | [_, _], _ => rfl
theorem sc_disk_right : FnScope ["_law_heap_here", "_law_cells", "_law_disk", "_law_events", "_law_now", "_law_turn_here", "_law_at", "_law_octet_here", "_law_told", "_law_place", "_law_end", "_law_lasts", "_law_pending", "_law_last", "_law_octets", "_law_due"] ["_law_heap_here", "_law_cells"] (defScope s_disk_right) := ⟨rfl, rfl, rfl, by decide +kernel, rfl, by decide +kernel, by decide +kernel⟩
theorem Tx.b_odds_right (T : Tx P K mg) : Binds K T.d_odds_right ["_law_heap_here"] [] := FunD.bindsN T.F_odds_right fun _ _ _ _ _ _ us hl => match us, hl with | [_], _ => rfl
theorem sc_odds_right : FnScope ["_law_heap_here", "_law_odds", "error"] ["_law_heap_here"] (defScope s_odds_right) := ⟨rfl, rfl, rfl, by decide +kernel, rfl, by decide +kernel, by decide +kernel⟩
theorem Tx.b_strange_right (T : Tx P K mg) : Binds K T.d_strange_right ["_law_heap_here"] [] := FunD.bindsN T.F_strange_right fun _ _ _ _ _ _ us hl => match us, hl with | [_], _ => rfl
theorem sc_strange_right : FnScope ["_law_heap_here", "_law_cells", "_law_at", "_law_journal", "error", "_law_records", "_law_record_here"] ["_law_heap_here"] (defScope s_strange_right) := ⟨rfl, rfl, rfl, by decide +kernel, rfl, by decide +kernel, by decide +kernel⟩
theorem Tx.b_law (T : Tx P K mg) : Binds K T.d_law ["_law_script"] [] := FunD.bindsN T.F_law fun _ _ _ _ _ _ us hl => match us, hl with | [_], _ => rfl
theorem sc_law : FnScope ["_law_script", "_law_heap_here", "_law_sizes", "_law_cells", "_law_at", "_law_journal"] ["_law_script"] (defScope s_law) := ⟨rfl, rfl, rfl, by decide +kernel, rfl, by decide +kernel, by decide +kernel⟩
end
end KJ
end

section
/-! the mathematics: cells, events, cuts, the journal's records, crash safety -/
namespace KM
abbrev Ev := Option (Nat × Int)
def app1 (c : List Int) : Ev → List Int
  | none => c
  | some (p, x) => c.set p x
def appl (c : List Int) (es : List Ev) : List Int := es.foldl app1 c
def pen1 (l : List Nat) : Ev → List Nat
  | none => []
  | some (p, _) => l ++ [p]
def pend (es : List Ev) : List Nat := es.foldl pen1 []
def Oct (x : Int) : Prop := 0 ≤ x ∧ x ≤ 255
theorem appl_nil (c : List Int) : appl c [] = c := rfl
theorem appl_append (c : List Int) (es fs : List Ev) : appl c (es ++ fs) = appl (appl c es) fs := by unfold appl; rw [List.foldl_append]
theorem appl_cons (c : List Int) (e : Ev) (es : List Ev) : appl c (e :: es) = appl (app1 c e) es := rfl
theorem app1_length (c : List Int) (e : Ev) : (app1 c e).length = c.length := by
  rcases e with _ | ⟨p, x⟩
  · rfl
  · exact List.length_set
theorem appl_length (es : List Ev) : ∀ c : List Int, (appl c es).length = c.length := by
  induction es with
  | nil => intro c; rfl
  | cons e es ih => intro c; rw [appl_cons, ih, app1_length]
theorem getD_set (c : List Int) (p i : Nat) (x : Int) : (c.set p x).getD i 0 = if p = i ∧ i < c.length then x else c.getD i 0 := by
  rw [List.getD_eq_getElem?_getD, List.getD_eq_getElem?_getD, List.getElem?_set]
  by_cases h : p = i
  · subst h
    by_cases h2 : p < c.length
    · simp [h2]
    · simp [h2, List.getElem?_eq_none (Nat.le_of_not_lt h2)]
  · simp [h]
theorem getD_out (c : List Int) (i : Nat) (h : c.length ≤ i) : c.getD i 0 = 0 := by
  rw [List.getD_eq_getElem?_getD, List.getElem?_eq_none h]; rfl
theorem ext_getD {c d : List Int} (hl : c.length = d.length) (h : ∀ i, c.getD i 0 = d.getD i 0) : c = d := by
  refine List.ext_getElem hl fun i h1 h2 => ?_
  have := h i
  rw [List.getD_eq_getElem?_getD, List.getD_eq_getElem?_getD, List.getElem?_eq_getElem h1, List.getElem?_eq_getElem h2] at this
  exact this
/-- the events of es are puts to places of lo .. hi - 1, of octets -/
def Puts (es : List Ev) (lo hi : Nat) : Prop := ∀ e ∈ es, ∃ p x, e = some (p, x) ∧ lo ≤ p ∧ p < hi ∧ Oct x
theorem Puts.off {lo hi i : Nat} (hi' : ¬ (lo ≤ i ∧ i < hi)) : ∀ {es : List Ev} (h : Puts es lo hi) (c : List Int), (appl c es).getD i 0 = c.getD i 0
  | [], _, c => rfl
  | e :: es, h, c => by
    obtain ⟨p, x, rfl, h1, h2, _⟩ := h e List.mem_cons_self
    rw [appl_cons, Puts.off hi' (fun e he => h e (List.mem_cons_of_mem _ he)), app1, getD_set, if_neg]
    rintro ⟨rfl, _⟩
    exact hi' ⟨h1, h2⟩
theorem Puts.append {es fs : List Ev} {lo hi : Nat} (h : Puts es lo hi) (g : Puts fs lo hi) : Puts (es ++ fs) lo hi := fun e he => by
  rcases List.mem_append.mp he with z | z
  · exact h e z
  · exact g e z
theorem Puts.mono {es : List Ev} {lo hi lo' hi' : Nat} (h : Puts es lo hi) (h1 : lo' ≤ lo) (h2 : hi ≤ hi') : Puts es lo' hi' := fun e he => by
  obtain ⟨p, x, e1, a, b, o⟩ := h e he
  exact ⟨p, x, e1, Nat.le_trans h1 a, Nat.lt_of_lt_of_le b h2, o⟩
theorem Puts.take {es : List Ev} {lo hi : Nat} (h : Puts es lo hi) (k : Nat) : Puts (es.take k) lo hi := fun e he => h e (List.mem_of_mem_take he)
theorem pend_append (es fs : List Ev) : pend (es ++ fs) = fs.foldl pen1 (pend es) := by unfold pend; rw [List.foldl_append]
theorem pend_snoc (es : List Ev) (e : Ev) : pend (es ++ [e]) = pen1 (pend es) e := by rw [pend_append]; rfl
theorem pend_settled {es fs : List Ev} (h : pend es = []) : pend (es ++ fs) = pend fs := by rw [pend_append, h]; rfl
theorem pen_mem {i : Nat} : ∀ (es : List Ev) (l : List Nat), i ∈ es.foldl pen1 l → i ∈ l ∨ ∃ x, some (i, x) ∈ es
  | [], l, h => .inl h
  | e :: es, l, h => by
    rcases pen_mem es (pen1 l e) h with q | ⟨x, q⟩
    · rcases e with _ | ⟨p, x⟩
      · exact absurd q (by simp [pen1])
      · rcases List.mem_append.mp q with z | z
        · exact .inl z
        · have : i = p := by simpa using z
          exact .inr ⟨x, by rw [this]; exact List.mem_cons_self⟩
    · exact .inr ⟨x, List.mem_cons_of_mem _ q⟩
theorem Puts.pend {es : List Ev} {lo hi i : Nat} (h : Puts es lo hi) (hj : i ∈ KM.pend es) : lo ≤ i ∧ i < hi := by
  rcases pen_mem es [] hj with q | ⟨x, q⟩
  · exact absurd q (by simp)
  · obtain ⟨p, y, e, h1, h2, _⟩ := h _ q
    cases e
    exact ⟨h1, h2⟩
/-- what a cut behind the events es leaves of the cells c -/
structure Cut (c : List Int) (es : List Ev) (d : List Int) : Prop where
  len : d.length = c.length
  oct : ∀ x ∈ d, Oct x
  same : ∀ i, i ∉ pend es → d.getD i 0 = (appl c es).getD i 0
theorem Cut.settled {c d : List Int} {es fs : List Ev} (h : pend es = []) (k : Cut c (es ++ fs) d) : Cut (appl c es) fs d :=
  ⟨k.len.trans (appl_length es c).symm, k.oct, fun i hi => by rw [← appl_append]; exact k.same i (by rw [pend_settled h]; exact hi)⟩
theorem Cut.add {c d : List Int} {es fs : List Ev} (h : pend es = []) (k : Cut (appl c es) fs d) : Cut c (es ++ fs) d :=
  ⟨k.len.trans (appl_length es c), k.oct, fun i hi => by rw [appl_append]; exact k.same i (by rw [pend_settled h] at hi; exact hi)⟩
/-! ### the halves, the records -/
def hs (n side : Nat) : Nat := 1 + side * ((n - 1) / 2)
theorem hs0 (n : Nat) : hs n 0 = 1 := by unfold hs; omega
theorem hs1 (n : Nat) : hs n 1 = 1 + (n - 1) / 2 := by unfold hs; omega
theorem hs2 (n : Nat) : hs n 2 = 1 + 2 * ((n - 1) / 2) := by unfold hs; omega
theorem hs_succ (n s : Nat) : hs n (s + 1) = hs n s + (n - 1) / 2 := by unfold hs; rw [Nat.add_mul]; omega
theorem hs_pos (n s : Nat) : 1 ≤ hs n s := by unfold hs; omega
theorem hs_le {n s : Nat} (hn : 1 ≤ n) (h : s ≤ 2) : hs n s ≤ n := by
  have : s = 0 ∨ s = 1 ∨ s = 2 := by omega
  rcases this with rfl | rfl | rfl
  · rw [hs0]; exact hn
  · rw [hs1]; omega
  · rw [hs2]; omega
def size (rs : List (List Int)) : Nat := (rs.map fun r => 3 + r.length).sum
theorem size_nil : size [] = 0 := rfl
theorem size_cons (r : List Int) (rs : List (List Int)) : size (r :: rs) = 3 + r.length + size rs := rfl
theorem size_append (rs ss : List (List Int)) : size (rs ++ ss) = size rs + size ss := by unfold size; rw [List.map_append, List.sum_append]
theorem size_snoc (rs : List (List Int)) (r : List Int) : size (rs ++ [r]) = size rs + (3 + r.length) := by rw [size_append]; rfl
structure RecAt (c : List Int) (stop a : Nat) (r : List Int) : Prop where
  mark : 0 < c.getD a 0
  room : a + 3 + r.length ≤ stop
  len : c.getD (a + 1) 0 * 256 + c.getD (a + 2) 0 = (r.length : Int)
  dat : ∀ i, i < r.length → c.getD (a + 3 + i) 0 = r.getD i 0
inductive Chn (c : List Int) (stop : Nat) : Nat → List (List Int) → Nat → Prop
  | nil (a : Nat) : Chn c stop a [] a
  | cons {a e : Nat} {r : List Int} {rs : List (List Int)} : RecAt c stop a r → Chn c stop (a + 3 + r.length) rs e → Chn c stop a (r :: rs) e
/-- the records of the cells from a to stop: rs, they end at e -/
structure Par (c : List Int) (stop a : Nat) (rs : List (List Int)) (e : Nat) : Prop where
  ch : Chn c stop a rs e
  fin : ¬ (e < stop ∧ 0 < c.getD e 0)
theorem RecAt.congr {c d : List Int} {stop a : Nat} {r : List Int} (h : RecAt c stop a r) (k : ∀ i, a ≤ i → i < a + 3 + r.length → d.getD i 0 = c.getD i 0) : RecAt d stop a r :=
  ⟨by rw [k a (by omega) (by omega)]; exact h.mark, h.room, by rw [k (a + 1) (by omega) (by omega), k (a + 2) (by omega) (by omega)]; exact h.len, fun i hi => by rw [k (a + 3 + i) (by omega) (by omega)]; exact h.dat i hi⟩
theorem Chn.le {c : List Int} {stop a e : Nat} {rs : List (List Int)} (h : Chn c stop a rs e) : a ≤ e := by
  induction h with
  | nil a => exact Nat.le_refl _
  | cons h _ ih => omega
theorem Chn.fin {c : List Int} {stop a e : Nat} {rs : List (List Int)} (h : Chn c stop a rs e) : e = a + size rs := by
  induction h with
  | nil a => rfl
  | cons h _ ih => rw [ih, size_cons]; omega
theorem Chn.top {c : List Int} {stop a e : Nat} {rs : List (List Int)} (h : Chn c stop a rs e) (ha : a ≤ stop) : e ≤ stop := by
  induction h with
  | nil a => exact ha
  | cons h _ ih => exact ih h.room
theorem Chn.congr {c d : List Int} {stop a e : Nat} {rs : List (List Int)} (h : Chn c stop a rs e) (k : ∀ i, a ≤ i → i < e → d.getD i 0 = c.getD i 0) : Chn d stop a rs e := by
  induction h with
  | nil a => exact .nil a
  | cons h t ih =>
    have := t.le
    exact .cons (h.congr fun i h1 h2 => k i h1 (by omega)) (ih fun i h1 h2 => k i (by omega) h2)
theorem Chn.append {c : List Int} {stop a m e : Nat} {rs ss : List (List Int)} (h : Chn c stop a rs m) (g : Chn c stop m ss e) : Chn c stop a (rs ++ ss) e := by
  induction h with
  | nil a => exact g
  | cons h _ ih => exact .cons h (ih g)
theorem Chn.snoc {c : List Int} {stop : Nat} {r : List Int} : ∀ {rs : List (List Int)} {a e : Nat}, Chn c stop a (rs ++ [r]) e → ∃ m, Chn c stop a rs m ∧ RecAt c stop m r ∧ e = m + 3 + r.length
  | [], a, e, h => by
    cases h with
    | cons h t => cases t; exact ⟨a, .nil a, h, rfl⟩
  | _ :: _, a, e, h => by
    cases h with
    | cons h t =>
      obtain ⟨m, g, h2, e2⟩ := Chn.snoc t
      exact ⟨m, .cons h g, h2, e2⟩
theorem Par.congr {c d : List Int} {stop a e : Nat} {rs : List (List Int)} (h : Par c stop a rs e) (k : ∀ i, a ≤ i → i ≤ e → i < stop → d.getD i 0 = c.getD i 0) (ha : a ≤ stop) : Par d stop a rs e := by
  have := h.ch.top ha
  refine ⟨h.ch.congr fun i h1 h2 => k i h1 (by omega) (by omega), fun ⟨h1, h2⟩ => h.fin ⟨h1, ?_⟩⟩
  rw [k e h.ch.le (Nat.le_refl _) h1] at h2
  exact h2
/-- one run of the records alone -/
theorem RecAt.uniq {c : List Int} {stop stop' a : Nat} {r r' : List Int} (h : RecAt c stop a r) (h' : RecAt c stop' a r') : r = r' := by
  have e : r.length = r'.length := by have := h.len; have := h'.len; omega
  refine ext_getD e fun i => ?_
  by_cases hi : i < r.length
  · rw [← h.dat i hi, ← h'.dat i (by omega)]
  · rw [getD_out r i (by omega), getD_out r' i (by omega)]
theorem Par.uniq {c : List Int} {stop a e e' : Nat} {rs rs' : List (List Int)} (h : Par c stop a rs e) (h' : Par c stop a rs' e') : rs = rs' ∧ e = e' := by
  obtain ⟨h, f⟩ := h
  obtain ⟨h', f'⟩ := h'
  induction h generalizing rs' e' with
  | nil a =>
    cases h' with
    | nil => exact ⟨rfl, rfl⟩
    | cons g _ => exact absurd ⟨by have := g.room; omega, g.mark⟩ f
  | cons g t ih =>
    cases h' with
    | nil => exact absurd ⟨by have := g.room; omega, g.mark⟩ f'
    | cons g' t' =>
      obtain rfl := g.uniq g'
      obtain ⟨rfl, rfl⟩ := ih f t' f'
      exact ⟨rfl, rfl⟩
def sideOf (c : List Int) : Nat := (c.getD 0 0 % 2).toNat
theorem sideOf_lt (c : List Int) : sideOf c < 2 := by unfold sideOf; omega
theorem sideOf_int (c : List Int) : ((sideOf c : Nat) : Int) = c.getD 0 0 % 2 := by unfold sideOf; omega
/-- the cells of a whole disk hold the records rs -/
def Jp (c : List Int) (rs : List (List Int)) : Prop := Par c (hs c.length (sideOf c + 1)) (hs c.length (sideOf c)) rs (hs c.length (sideOf c) + size rs)
theorem Jp.uniq {c : List Int} {rs rs' : List (List Int)} (h : Jp c rs) (h' : Jp c rs') : rs = rs' := (Par.uniq h h').1
theorem hs_mono (n : Nat) {s t : Nat} (h : s ≤ t) : hs n s ≤ hs n t := by unfold hs; exact Nat.add_le_add_left (Nat.mul_le_mul_right _ h) _
theorem Jp.room {c : List Int} {rs : List (List Int)} (h : Jp c rs) : hs c.length (sideOf c) + size rs ≤ hs c.length (sideOf c + 1) := h.ch.top (hs_mono _ (Nat.le_succ _))
/-! ### the events of the calls -/
def datEv (a : Nat) : List Int → List Ev
  | [] => []
  | x :: r => some (a, x) :: datEv (a + 1) r
def evPut (a : Nat) (r : List Int) : List Ev := some (a + 1, ((r.length / 256 : Nat) : Int)) :: some (a + 2, ((r.length % 256 : Nat) : Int)) :: datEv (a + 3) r
def evEnd (b stop : Nat) : List Ev := if b < stop then [some (b, 0)] else []
def evWrite (e stop : Nat) (r : List Int) : List Ev := (evPut e r ++ evEnd (e + 3 + r.length) stop) ++ [none, some (e, 1), none]
def evDrop (a : Nat) : List Ev := [some (a, 0), none]
def evRecs (a : Nat) : List (List Int) → List Ev
  | [] => []
  | r :: rs => some (a, 1) :: evPut a r ++ evRecs (a + 3 + r.length) rs
def evRenew (a stop side : Nat) (rs : List (List Int)) : List Ev := (evRecs a rs ++ evEnd (a + size rs) stop) ++ [none, some (0, (side : Int)), none]
theorem datEv_snoc (x : Int) : ∀ (r : List Int) (a : Nat), datEv a (r ++ [x]) = datEv a r ++ [some (a + r.length, x)]
  | [], a => rfl
  | y :: r, a => by
    show some (a, y) :: datEv (a + 1) (r ++ [x]) = _
    rw [datEv_snoc x r (a + 1)]
    show _ = some (a, y) :: (datEv (a + 1) r ++ [some (a + (r.length + 1), x)])
    rw [show a + 1 + r.length = a + (r.length + 1) by omega]
theorem datEv_puts : ∀ (r : List Int) (a : Nat), (∀ x ∈ r, Oct x) → Puts (datEv a r) a (a + r.length)
  | [], a, _ => fun e he => absurd he (by simp [datEv])
  | y :: r, a, h => fun e he => by
    rcases List.mem_cons.mp he with z | z
    · exact ⟨a, y, z, Nat.le_refl _, by simp, h y List.mem_cons_self⟩
    · obtain ⟨p, x, e1, h1, h2, o⟩ := datEv_puts r (a + 1) (fun x hx => h x (List.mem_cons_of_mem _ hx)) e z
      exact ⟨p, x, e1, by omega, by simp only [List.length_cons]; omega, o⟩
theorem datEv_at : ∀ (r : List Int) (a : Nat) (c : List Int) (i : Nat), (∀ x ∈ r, Oct x) → a + r.length ≤ c.length → i < r.length → (appl c (datEv a r)).getD (a + i) 0 = r.getD i 0
  | [], a, c, i, _, _, h => absurd h (by simp)
  | y :: r, a, c, i, ho, hl, h => by
    have ho' : ∀ x ∈ r, Oct x := fun x hx => ho x (List.mem_cons_of_mem _ hx)
    show (appl (c.set a y) (datEv (a + 1) r)).getD (a + i) 0 = _
    simp only [List.length_cons] at hl h
    cases i with
    | zero =>
      rw [(datEv_puts r (a + 1) ho').off (by omega), getD_set, if_pos ⟨rfl, by omega⟩]; rfl
    | succ i =>
      have := datEv_at r (a + 1) (c.set a y) i ho' (by rw [List.length_set]; omega) (by omega)
      rw [show a + (i + 1) = a + 1 + i by omega, this]; rfl
theorem evPut_puts (a : Nat) (r : List Int) (ho : ∀ x ∈ r, Oct x) (hl : r.length < 65536) : Puts (evPut a r) (a + 1) (a + 3 + r.length) := fun e he => by
  rcases List.mem_cons.mp he with z | z
  · exact ⟨a + 1, _, z, Nat.le_refl _, by omega, by constructor <;> omega⟩
  · rcases List.mem_cons.mp z with z | z
    · exact ⟨a + 2, _, z, by omega, by omega, by constructor <;> omega⟩
    · exact (datEv_puts r (a + 3) ho).mono (by omega) (Nat.le_refl _) e z
theorem evEnd_puts (b stop : Nat) : Puts (evEnd b stop) b stop := fun e he => by
  unfold evEnd at he
  split at he
  · exact ⟨b, 0, by simpa using he, Nat.le_refl _, by assumption, by constructor <;> omega⟩
  · exact absurd he (by simp)
/-- a record put at a, whatever mark is there -/
theorem evPut_rec {a stop : Nat} {r : List Int} {c d : List Int} (ho : ∀ x ∈ r, Oct x) (hl : r.length < 65536) (hc : a + 3 + r.length ≤ c.length) (hs : a + 3 + r.length ≤ stop)
    (hd : ∀ i, a < i → i < a + 3 + r.length → d.getD i 0 = (appl c (evPut a r)).getD i 0) (hm : 0 < d.getD a 0) : RecAt d stop a r := by
  have D := datEv_puts r (a + 3) ho
  have e1 : (appl c (evPut a r)).getD (a + 1) 0 = ((r.length / 256 : Nat) : Int) := by
    show (appl ((c.set (a + 1) _).set (a + 2) _) (datEv (a + 3) r)).getD (a + 1) 0 = _
    rw [D.off (by omega), getD_set, if_neg (by omega), getD_set, if_pos ⟨rfl, by omega⟩]
  have e2 : (appl c (evPut a r)).getD (a + 2) 0 = ((r.length % 256 : Nat) : Int) := by
    show (appl ((c.set (a + 1) _).set (a + 2) _) (datEv (a + 3) r)).getD (a + 2) 0 = _
    rw [D.off (by omega), getD_set, if_pos ⟨rfl, by rw [List.length_set]; omega⟩]
  refine ⟨hm, hs, ?_, fun i hi => ?_⟩
  · rw [hd _ (by omega) (by omega), hd _ (by omega) (by omega), e1, e2]; omega
  · rw [hd _ (by omega) (by omega)]
    exact datEv_at r (a + 3) ((c.set (a + 1) ((r.length / 256 : Nat) : Int)).set (a + 2) ((r.length % 256 : Nat) : Int)) i ho (by rw [List.length_set, List.length_set]; omega) hi
theorem evRecs_puts : ∀ (rs : List (List Int)) (a : Nat), (∀ r ∈ rs, (∀ x ∈ r, Oct x) ∧ r.length < 65536) → Puts (evRecs a rs) a (a + size rs)
  | [], a, _ => fun e he => absurd he (by simp [evRecs])
  | r :: rs, a, h => fun e he => by
    have h1 := h r List.mem_cons_self
    rw [size_cons]
    rcases List.mem_append.mp (show e ∈ (some (a, 1) :: evPut a r) ++ evRecs (a + 3 + r.length) rs from he) with z | z
    · rcases List.mem_cons.mp z with z | z
      · exact ⟨a, 1, z, Nat.le_refl _, by omega, by constructor <;> omega⟩
      · exact (evPut_puts a r h1.1 h1.2).mono (by omega) (by omega) e z
    · exact (evRecs_puts rs (a + 3 + r.length) fun r hr => h r (List.mem_cons_of_mem _ hr)).mono (by omega) (by omega) e z
theorem evRecs_chn : ∀ (rs : List (List Int)) (a stop : Nat) (c d : List Int), (∀ r ∈ rs, (∀ x ∈ r, Oct x) ∧ r.length < 65536) → a + size rs ≤ c.length → a + size rs ≤ stop →
    (∀ i, a ≤ i → i < a + size rs → d.getD i 0 = (appl c (evRecs a rs)).getD i 0) → Chn d stop a rs (a + size rs)
  | [], a, stop, c, d, _, _, _, _ => .nil a
  | r :: rs, a, stop, c, d, h, hl, hs, hd => by
    have h1 := h r List.mem_cons_self
    have h2 : ∀ r ∈ rs, (∀ x ∈ r, Oct x) ∧ r.length < 65536 := fun r hr => h r (List.mem_cons_of_mem _ hr)
    rw [size_cons] at hl hs hd
    have P2 := evRecs_puts rs (a + 3 + r.length) h2
    have P1 := evPut_puts a r h1.1 h1.2
    have ea : appl c (evRecs a (r :: rs)) = appl (appl (c.set a 1) (evPut a r)) (evRecs (a + 3 + r.length) rs) := by
      show appl c ((some (a, 1) :: evPut a r) ++ evRecs (a + 3 + r.length) rs) = _
      rw [appl_append]; rfl
    rw [ea] at hd
    rw [size_cons, show a + (3 + r.length + size rs) = a + 3 + r.length + size rs by omega]
    refine .cons (evPut_rec (c := c.set a 1) h1.1 h1.2 (by rw [List.length_set]; omega) (by omega) (fun i i1 i2 => ?_) ?_) (evRecs_chn rs _ stop (appl (c.set a 1) (evPut a r)) d h2 (by rw [appl_length, List.length_set]; omega) (by omega) fun i i1 i2 => hd i (by omega) (by omega))
    · rw [hd i (by omega) (by omega), P2.off (by omega)]
    · rw [hd a (by omega) (by omega), P2.off (by omega), P1.off (by omega), getD_set, if_pos ⟨rfl, by omega⟩]; decide
/-! ### crash safety -/
/-- any cut within the events E leaves the old records or the new ones, at the ends those of the one side -/
structure Safe (c : List Int) (E : List Ev) (old new : List (List Int)) : Prop where
  mid : ∀ k d, Cut c (E.take k) d → Jp d old ∨ Jp d new
  ini : ∀ d, Cut c [] d → Jp d old
  fin : ∀ d, Cut c E d → Jp d new
theorem cut_eq {c d : List Int} {es : List Ev} (h : Cut c es d) (hp : pend es = []) : d = appl c es :=
  ext_getD (h.len.trans (appl_length es c).symm) fun i => h.same i (by rw [hp]; simp)
theorem safe3 {c : List Int} {P : List Ev} {lo hi q : Nat} {x : Int} {old new : List (List Int)} (hP : Puts P lo hi)
    (a : ∀ d : List Int, d.length = c.length → (∀ y ∈ d, Oct y) → (∀ i, ¬ (lo ≤ i ∧ i < hi) → d.getD i 0 = c.getD i 0) → Jp d old)
    (b : ∀ d : List Int, d.length = c.length → (∀ y ∈ d, Oct y) → (∀ i, i ≠ q → d.getD i 0 = (appl c P).getD i 0) → Jp d old ∨ Jp d new)
    (f : ∀ d : List Int, d = (appl c P).set q x → Jp d new) : Safe c (P ++ [none, some (q, x), none]) old new := by
  have pn : pend (P ++ [none]) = [] := pend_snoc P none
  have e2 : P ++ [none, some (q, x)] = (P ++ [none]) ++ [some (q, x)] := by simp
  have e3 : P ++ [none, some (q, x), none] = (P ++ [none]) ++ [some (q, x)] ++ [none] := by simp
  have p2 : pend (P ++ [none, some (q, x)]) = [q] := by rw [e2, pend_snoc, pn]; rfl
  have p3 : pend (P ++ [none, some (q, x), none]) = [] := by rw [e3, pend_snoc]; rfl
  have a1 : appl c (P ++ [none]) = appl c P := by rw [appl_append]; rfl
  have a2 : appl c (P ++ [none, some (q, x)]) = (appl c P).set q x := by rw [appl_append]; rfl
  have a3 : appl c (P ++ [none, some (q, x), none]) = (appl c P).set q x := by rw [appl_append]; rfl
  have F : ∀ d, Cut c (P ++ [none, some (q, x), none]) d → Jp d new := fun d h => f d (by rw [cut_eq h p3, a3])
  refine ⟨fun k d h => ?_, fun d h => a d h.len h.oct fun i _ => h.same i (by simp [pend]), F⟩
  by_cases h1 : k ≤ P.length
  · rw [List.take_append_of_le_length h1] at h
    have hk := hP.take k
    exact .inl (a d h.len h.oct fun i hi => by rw [h.same i fun z => hi (hk.pend z), hk.off hi])
  · obtain ⟨j, rfl⟩ : ∃ j, k = P.length + j := ⟨k - P.length, by omega⟩
    have et : (P ++ [none, some (q, x), none]).take (P.length + j) = P ++ ([none, some (q, x), none] : List Ev).take j := by
      rw [List.take_append, List.take_of_length_le (by omega : P.length ≤ P.length + j), show P.length + j - P.length = j by omega]
    rw [et] at h
    rcases j with _ | _ | _ | j
    · omega
    · have h' : Cut c (P ++ [none]) d := h
      exact b d h.len h.oct fun i _ => by rw [h'.same i (by rw [pn]; simp), a1]
    · have h' : Cut c (P ++ [none, some (q, x)]) d := h
      refine b d h.len h.oct fun i hi => ?_
      rw [h'.same i (by rw [p2]; simpa using hi), a2, getD_set, if_neg fun z => hi z.1.symm]
    · have h' : Cut c (P ++ [none, some (q, x), none]) d := by simpa using h
      exact .inr (F d h')
theorem par_stop0 {c : List Int} {stop a : Nat} {rs : List (List Int)} {e : Nat} (h : Par c stop a rs e) (ho : ∀ y ∈ c, Oct y) (he : e < stop) : c.getD e 0 = 0 := by
  have h1 : ¬ 0 < c.getD e 0 := fun z => h.fin ⟨he, z⟩
  have h2 : 0 ≤ c.getD e 0 := by
    by_cases hl : e < c.length
    · rw [List.getD_eq_getElem?_getD, List.getElem?_eq_getElem hl]
      exact (ho _ (List.getElem_mem hl)).1
    · rw [getD_out c e (by omega)]; exact Int.le_refl 0
  omega
theorem evEnd_zero {b stop : Nat} {c : List Int} (hb : b < stop) (hl : b < c.length) : (appl c (evEnd b stop)).getD b 0 = 0 := by
  unfold evEnd
  rw [if_pos hb]
  show (c.set b 0).getD b 0 = 0
  rw [getD_set, if_pos ⟨rfl, hl⟩]
theorem sideOf_congr {c d : List Int} (h : d.getD 0 0 = c.getD 0 0) : sideOf d = sideOf c := by unfold sideOf; rw [h]
/-- write -/
theorem safe_write {c : List Int} {rs : List (List Int)} {r : List Int} (h1 : 1 ≤ c.length) (h : Jp c rs) (ho : ∀ y ∈ c, Oct y) (hr : ∀ x ∈ r, Oct x) (hl : r.length < 65536)
    (room : hs c.length (sideOf c) + size rs + (3 + r.length) ≤ hs c.length (sideOf c + 1)) :
    Safe c (evWrite (hs c.length (sideOf c) + size rs) (hs c.length (sideOf c + 1)) r) rs (rs ++ [r]) := by
  have hp := hs_pos c.length (sideOf c)
  have hle : hs c.length (sideOf c + 1) ≤ c.length := hs_le h1 (by have := sideOf_lt c; omega)
  have hj := h
  unfold Jp at hj
  generalize ea : hs c.length (sideOf c) = a at *
  generalize et : hs c.length (sideOf c + 1) = stop at *
  generalize ee : a + size rs = e at *
  have P1 := evPut_puts e r hr hl
  have P2 := evEnd_puts (e + 3 + r.length) stop
  have P : Puts (evPut e r ++ evEnd (e + 3 + r.length) stop) (e + 1) stop := (P1.mono (Nat.le_refl _) (by omega)).append (P2.mono (by omega) (Nat.le_refl _))
  have at0 : ∀ {d : List Int}, d.length = c.length → d.getD 0 0 = c.getD 0 0 → ∀ {rs'}, Par d stop a rs' (a + size rs') → Jp d rs' := fun {d} hd h0 {rs'} q => by
    unfold Jp
    rw [hd, sideOf_congr h0, ea, et]
    exact q
  have pe0 : e < stop := by omega
  -- the mark is not there
  have old : ∀ d : List Int, d.length = c.length → (∀ i, i ≤ e → d.getD i 0 = c.getD i 0) → Jp d rs := fun d hd k =>
    at0 hd (k 0 (by omega)) (ee ▸ hj.congr (fun i _ i2 _ => k i i2) (by omega))
  -- it is
  have new : ∀ d : List Int, d.length = c.length → (∀ i, i ≠ e → d.getD i 0 = (appl c (evPut e r ++ evEnd (e + 3 + r.length) stop)).getD i 0) → 0 < d.getD e 0 → Jp d (rs ++ [r]) := fun d hd k hm => by
    have lo : ∀ i, i < e → d.getD i 0 = c.getD i 0 := fun i hi => by rw [k i (by omega), P.off (by omega)]
    have rec_ : RecAt d stop e r := evPut_rec (c := c) hr hl (by omega) (by omega) (fun i i1 i2 => by rw [k i (by omega), appl_append, P2.off (by omega)]) hm
    refine at0 hd (lo 0 (by omega)) ⟨?_, fun ⟨f1, f2⟩ => ?_⟩
    · have ch := (hj.ch.congr (d := d) (fun i _ i2 => lo i i2)).append (.cons rec_ (.nil _))
      rw [size_snoc, show a + (size rs + (3 + r.length)) = e + 3 + r.length by omega]
      exact ch
    · rw [size_snoc, show a + (size rs + (3 + r.length)) = e + 3 + r.length by omega] at f1 f2
      rw [k _ (by omega), appl_append, evEnd_zero f1 (by rw [appl_length]; omega)] at f2
      exact absurd f2 (by decide)
  refine safe3 P (fun d hd _ k => old d hd fun i hi => k i (by omega)) (fun d hd od k => ?_) (fun d hd => new d (by rw [hd, List.length_set, appl_length]) (fun i hi => by rw [hd, getD_set, if_neg fun z => hi z.1.symm]) (by rw [hd, getD_set, if_pos ⟨rfl, by rw [appl_length]; omega⟩]; decide))
  by_cases hm : 0 < d.getD e 0
  · exact .inr (new d hd k hm)
  · refine .inl (at0 hd ?_ ?_)
    · rw [k 0 (by omega), P.off (by omega)]
    · have lo : ∀ i, i < e → d.getD i 0 = c.getD i 0 := fun i hi => by rw [k i (by omega), P.off (by omega)]
      rw [ee]
      exact ⟨hj.ch.congr fun i _ i2 => lo i i2, fun z => hm z.2⟩
/-- drop -/
theorem safe_drop {c : List Int} {rs : List (List Int)} {r : List Int} (h1 : 1 ≤ c.length) (h : Jp c (rs ++ [r])) : Safe c (evDrop (hs c.length (sideOf c) + size rs)) (rs ++ [r]) rs := by
  have hp := hs_pos c.length (sideOf c)
  have hle : hs c.length (sideOf c + 1) ≤ c.length := hs_le h1 (by have := sideOf_lt c; omega)
  have hj := h
  unfold Jp at hj
  have hm := hs_mono c.length (Nat.le_succ (sideOf c))
  generalize ea : hs c.length (sideOf c) = a at *
  generalize et : hs c.length (sideOf c + 1) = stop at *
  obtain ⟨m, ch, rec_, e1⟩ := hj.ch.snoc
  have em := ch.fin
  subst em
  generalize ee : a + size rs = e at *
  have := rec_.room
  have at0 : ∀ {d : List Int}, d.length = c.length → d.getD 0 0 = c.getD 0 0 → ∀ {rs'}, Par d stop a rs' (a + size rs') → Jp d rs' := fun {d} hd h0 {rs'} q => by
    unfold Jp
    rw [hd, sideOf_congr h0, ea, et]
    exact q
  have old : ∀ d : List Int, d.length = c.length → (∀ i, i ≠ e → d.getD i 0 = c.getD i 0) → 0 < d.getD e 0 → Jp d (rs ++ [r]) := fun d hd k q => by
    refine at0 hd (k 0 (by omega)) ⟨?_, fun z => hj.fin ⟨z.1, ?_⟩⟩
    · rw [size_snoc, show a + (size rs + (3 + r.length)) = e + 3 + r.length by omega]
      refine (ch.congr fun i _ i2 => k i (by omega)).append (.cons ⟨q, rec_.room, ?_, fun i hi => ?_⟩ (.nil _))
      · rw [k _ (by omega), k _ (by omega)]; exact rec_.len
      · rw [k _ (by omega)]; exact rec_.dat i hi
    · have := z.2
      rw [size_snoc] at this ⊢
      rw [k _ (by omega)] at this
      exact this
  have new : ∀ d : List Int, d.length = c.length → (∀ i, i ≠ e → d.getD i 0 = c.getD i 0) → ¬ 0 < d.getD e 0 → Jp d rs := fun d hd k q =>
    at0 hd (k 0 (by omega)) ⟨by rw [ee]; exact ch.congr fun i _ i2 => k i (by omega), fun z => q (by rw [ee] at z; exact z.2)⟩
  have off : ∀ i, i ≠ e → (c.set e 0).getD i 0 = c.getD i 0 := fun i hi => by rw [getD_set, if_neg fun z => hi z.1.symm]
  have F : ∀ d, Cut c (evDrop e) d → Jp d rs := fun d k => by
    have z : d = c.set e 0 := cut_eq k rfl
    refine new d k.len (fun i hi => by rw [z, off i hi]) ?_
    rw [z, getD_set, if_pos ⟨rfl, by omega⟩]; decide
  refine ⟨fun k d q => ?_, fun d q => ?_, F⟩
  · rcases k with _ | _ | k
    · have z : d = c := cut_eq (es := []) q rfl
      rw [z]; exact .inl h
    · have q' : Cut c [some (e, 0)] d := q
      have k : ∀ i, i ≠ e → d.getD i 0 = c.getD i 0 := fun i hi => (q'.same i (by simpa [pend, pen1] using hi)).trans (off i hi)
      by_cases hm : 0 < d.getD e 0
      · exact .inl (old d q.len k hm)
      · exact .inr (new d q.len k hm)
    · have q' : Cut c (evDrop e) d := by simpa [evDrop] using q
      exact .inr (F d q')
  · have z : d = c := cut_eq (es := []) q rfl
    rw [z]; exact h
/-- renew -/
theorem safe_renew {c : List Int} {rs ss : List (List Int)} {o : Nat} (hn : o = 1 - sideOf c) (h1 : 1 ≤ c.length) (h : Jp c rs) (hr : ∀ r ∈ ss, (∀ x ∈ r, Oct x) ∧ r.length < 65536)
    (room : hs c.length o + size ss ≤ hs c.length (o + 1)) : Safe c (evRenew (hs c.length o) (hs c.length (o + 1)) o ss) rs ss := by
  have hs2 := sideOf_lt c
  have hle : hs c.length (o + 1) ≤ c.length := hs_le h1 (by omega)
  have hp := hs_pos c.length o
  have P1 := evRecs_puts ss (hs c.length o) hr
  have P2 := evEnd_puts (hs c.length o + size ss) (hs c.length (o + 1))
  have P : Puts (evRecs (hs c.length o) ss ++ evEnd (hs c.length o + size ss) (hs c.length (o + 1))) (hs c.length o) (hs c.length (o + 1)) := (P1.mono (Nat.le_refl _) room).append (P2.mono (by omega) (Nat.le_refl _))
  -- the other half is not in the way
  have far : ∀ i, 1 ≤ hs c.length (sideOf c) → hs c.length (sideOf c) ≤ i → i < hs c.length (sideOf c + 1) → ¬ (hs c.length o ≤ i ∧ i < hs c.length (o + 1)) := fun i _ i1 i2 => by
    have : sideOf c = 0 ∨ sideOf c = 1 := by omega
    rcases this with z | z
    · rw [hn, z] ; rw [z] at i1 i2
      rw [show 0 + 1 = 1 from rfl] at i2
      rw [show 1 - 0 = 1 from rfl]
      omega
    · rw [hn, z] ; rw [z] at i1 i2
      rw [show 1 - 1 = 0 from rfl, show 0 + 1 = 1 from rfl]
      omega
  have old : ∀ d : List Int, d.length = c.length → sideOf d = sideOf c → (∀ i, 1 ≤ i → ¬ (hs c.length o ≤ i ∧ i < hs c.length (o + 1)) → d.getD i 0 = c.getD i 0) → Jp d rs := fun d hd hsd k => by
    have hj := h
    unfold Jp at hj ⊢
    rw [hd, hsd]
    have := hs_pos c.length (sideOf c)
    exact hj.congr (fun i i1 _ i3 => k i (by omega) (far i this i1 i3)) (hs_mono _ (Nat.le_succ _))
  have new : ∀ d : List Int, d.length = c.length → sideOf d = o → (∀ i, i ≠ 0 → d.getD i 0 = (appl c (evRecs (hs c.length o) ss ++ evEnd (hs c.length o + size ss) (hs c.length (o + 1)))).getD i 0) → Jp d ss := fun d hd hsd k => by
    unfold Jp
    rw [hd, hsd]
    refine ⟨evRecs_chn ss _ _ c d hr (by omega) room fun i i1 i2 => ?_, fun z => ?_⟩
    · rw [k i (by omega), appl_append, P2.off (by omega)]
    · have := z.2
      rw [k _ (by omega), appl_append, evEnd_zero z.1 (by rw [appl_length]; omega)] at this
      exact absurd this (by decide)
  refine safe3 P (fun d hd _ k => old d hd (sideOf_congr (k 0 (by omega))) fun i i1 i2 => k i i2) (fun d hd od k => ?_) (fun d hd => ?_)
  · by_cases z : sideOf d = o
    · exact .inr (new d hd z k)
    · refine .inl (old d hd (by have := sideOf_lt d; omega) fun i i1 i2 => ?_)
      rw [k i (by omega), P.off i2]
  · refine new d (by rw [hd, List.length_set, appl_length]) ?_ fun i hi => by rw [hd, getD_set, if_neg fun z => hi z.1.symm]
    unfold sideOf
    rw [hd, getD_set, if_pos ⟨rfl, by rw [appl_length]; omega⟩]
    omega
end KM
end

section
/-! the mathematics: what the calls' events leave -/
namespace KM
theorem cut_self {c : List Int} {es : List Ev} (h : ∀ x ∈ appl c es, Oct x) : Cut c es (appl c es) := ⟨appl_length es c, h, fun _ _ => rfl⟩
theorem appl_oct : ∀ (es : List Ev) (c : List Int), (∀ p x, some (p, x) ∈ es → Oct x) → (∀ x ∈ c, Oct x) → ∀ x ∈ appl c es, Oct x
  | [], c, _, h => h
  | e :: es, c, he, h => by
    rw [appl_cons]
    refine appl_oct es _ (fun p x hx => he p x (List.mem_cons_of_mem _ hx)) ?_
    rcases e with _ | ⟨p, y⟩
    · exact h
    · intro x hx
      rcases List.mem_or_eq_of_mem_set hx with z | z
      · exact h x z
      · rw [z]; exact he p y List.mem_cons_self
theorem Puts.evo {es : List Ev} {lo hi : Nat} (h : Puts es lo hi) : ∀ p x, some (p, x) ∈ es → Oct x := fun p x hx => by
  obtain ⟨p', x', e, _, _, o⟩ := h _ hx
  cases e
  exact o
theorem datEv_length : ∀ (r : List Int) (a : Nat), (datEv a r).length = r.length
  | [], _ => rfl
  | _ :: r, a => by show (datEv (a + 1) r).length + 1 = _; rw [datEv_length r]; rfl
theorem evPut_length (a : Nat) (r : List Int) : (evPut a r).length = r.length + 2 := by show (datEv (a + 3) r).length + 1 + 1 = _; rw [datEv_length]
theorem evEnd_length (b stop : Nat) : (evEnd b stop).length ≤ 1 := by unfold evEnd; split <;> simp
theorem evWrite_length (e stop : Nat) (r : List Int) : (evWrite e stop r).length ≤ r.length + 6 := by
  unfold evWrite
  have := evEnd_length (e + 3 + r.length) stop
  simp only [List.length_append, evPut_length, List.length_cons, List.length_nil]
  omega
theorem evRecs_length : ∀ (rs : List (List Int)) (a : Nat), (evRecs a rs).length = size rs
  | [], _ => rfl
  | r :: rs, a => by
    show ((some (a, 1) :: evPut a r) ++ evRecs (a + 3 + r.length) rs).length = _
    rw [List.length_append, List.length_cons, evPut_length, evRecs_length rs, size_cons]; omega
theorem evRenew_length (a stop s : Nat) (rs : List (List Int)) : (evRenew a stop s rs).length ≤ size rs + 4 := by
  unfold evRenew
  have := evEnd_length (a + size rs) stop
  simp only [List.length_append, evRecs_length, List.length_cons, List.length_nil]
  omega
theorem pend_tail (P : List Ev) (q : Nat) (x : Int) : pend (P ++ [none, some (q, x), none]) = [] := by
  rw [show P ++ [none, some (q, x), none] = (P ++ [none]) ++ [some (q, x)] ++ [none] by simp, pend_snoc]; rfl
theorem appl_tail (c : List Int) (P : List Ev) (q : Nat) (x : Int) : appl c (P ++ [none, some (q, x), none]) = (appl c P).set q x := by rw [appl_append]; rfl
theorem evo_tail {P : List Ev} {q : Nat} {x : Int} (h : ∀ p y, some (p, y) ∈ P → Oct y) (hx : Oct x) : ∀ p y, some (p, y) ∈ P ++ [none, some (q, x), none] → Oct y := fun p y hy => by
  rcases List.mem_append.mp hy with z | z
  · exact h p y z
  · have : p = q ∧ y = x := by simpa using z
    rw [this.2]; exact hx
theorem oct01 : Oct 0 ∧ Oct 1 := ⟨⟨by decide, by decide⟩, by decide, by decide⟩
theorem write_side {c : List Int} {e stop : Nat} {r : List Int} (hr : ∀ x ∈ r, Oct x) (hl : r.length < 65536) (he : 1 ≤ e) : sideOf (appl c (evWrite e stop r)) = sideOf c := by
  refine sideOf_congr ?_
  unfold evWrite
  rw [appl_tail, getD_set, if_neg (by omega), appl_append, ((evEnd_puts (e + 3 + r.length) stop)).off (by omega), (evPut_puts e r hr hl).off (by omega)]
theorem write_oct {c : List Int} {e stop : Nat} {r : List Int} (hr : ∀ x ∈ r, Oct x) (hl : r.length < 65536) (ho : ∀ x ∈ c, Oct x) : ∀ x ∈ appl c (evWrite e stop r), Oct x :=
  appl_oct _ _ (evo_tail (fun p y h => by
    rcases List.mem_append.mp h with z | z
    · exact (evPut_puts e r hr hl).evo p y z
    · exact (evEnd_puts _ stop).evo p y z) oct01.2) ho
theorem drop_side {c : List Int} {a : Nat} (ha : 1 ≤ a) : sideOf (appl c (evDrop a)) = sideOf c := by
  refine sideOf_congr ?_
  show (c.set a 0).getD 0 0 = _
  rw [getD_set, if_neg (by omega)]
theorem drop_oct {c : List Int} {a : Nat} (ho : ∀ x ∈ c, Oct x) : ∀ x ∈ appl c (evDrop a), Oct x := appl_oct _ _ (fun p x h => by
  have : p = a ∧ x = 0 := by simpa [evDrop] using h
  rw [this.2]; exact oct01.1) ho
theorem renew_side {c : List Int} {a stop s : Nat} {rs : List (List Int)} (hc : 1 ≤ c.length) (hs : s < 2) : sideOf (appl c (evRenew a stop s rs)) = s := by
  unfold sideOf evRenew
  rw [appl_tail, getD_set, if_pos ⟨rfl, by rw [appl_length]; omega⟩]
  omega
theorem renew_oct {c : List Int} {a stop s : Nat} {rs : List (List Int)} (hr : ∀ r ∈ rs, (∀ x ∈ r, Oct x) ∧ r.length < 65536) (hs : s < 2) (ho : ∀ x ∈ c, Oct x) : ∀ x ∈ appl c (evRenew a stop s rs), Oct x :=
  appl_oct _ _ (evo_tail (fun p y h => by
    rcases List.mem_append.mp h with z | z
    · exact (evRecs_puts rs a hr).evo p y z
    · exact (evEnd_puts _ stop).evo p y z) (by constructor <;> omega)) ho
theorem evRecs_snoc (r : List Int) : ∀ (rs : List (List Int)) (a : Nat), evRecs a (rs ++ [r]) = evRecs a rs ++ (some (a + size rs, 1) :: evPut (a + size rs) r)
  | [], a => by
    show (some (a, 1) :: evPut a r) ++ evRecs (a + 3 + r.length) [] = [] ++ (some (a + 0, 1) :: evPut (a + 0) r)
    simp [evRecs]
  | x :: rs, a => by
    show (some (a, 1) :: evPut a x) ++ evRecs (a + 3 + x.length) (rs ++ [r]) = ((some (a, 1) :: evPut a x) ++ evRecs (a + 3 + x.length) rs) ++ _
    rw [evRecs_snoc r rs, List.append_assoc, size_cons, show a + 3 + x.length + size rs = a + (3 + x.length + size rs) by omega]
/-- the events' places are places, their octets octets -/
def EvOk (n : Nat) (es : List Ev) : Prop := ∀ p x, some (p, x) ∈ es → p < n ∧ Oct x
theorem EvOk.take {n : Nat} {es : List Ev} (h : EvOk n es) (k : Nat) : EvOk n (es.take k) := fun p x hx => h p x (List.mem_of_mem_take hx)
theorem EvOk.drop {n : Nat} {es : List Ev} (h : EvOk n es) (k : Nat) : EvOk n (es.drop k) := fun p x hx => h p x (List.mem_of_mem_drop hx)
theorem EvOk.pend {n : Nat} {es : List Ev} (h : EvOk n es) {i : Nat} (hi : i ∈ KM.pend es) : i < n := by
  rcases pen_mem es [] hi with q | ⟨x, q⟩
  · exact absurd q (by simp)
  · exact (h i x q).1
theorem EvOk.append {n : Nat} {es fs : List Ev} (h : EvOk n es) (g : EvOk n fs) : EvOk n (es ++ fs) := fun p x hx => by
  rcases List.mem_append.mp hx with z | z
  · exact h p x z
  · exact g p x z
theorem EvOk.nil (n : Nat) : EvOk n [] := fun p x hx => absurd hx (by simp)
theorem Puts.ok {es : List Ev} {lo hi n : Nat} (h : Puts es lo hi) (hn : hi ≤ n) : EvOk n es := fun p x hx => by
  obtain ⟨p', x', e, h1, h2, o⟩ := h _ hx
  cases e
  exact ⟨by omega, o⟩
theorem evok_tail {n q : Nat} {x : Int} {P : List Ev} (h : EvOk n P) (hq : q < n) (hx : Oct x) : EvOk n (P ++ [none, some (q, x), none]) := fun p y hy => by
  rcases List.mem_append.mp hy with z | z
  · exact h p y z
  · have : p = q ∧ y = x := by simpa using z
    rw [this.1, this.2]; exact ⟨hq, hx⟩
theorem write_ok {n e stop : Nat} {r : List Int} (hr : ∀ x ∈ r, Oct x) (hl : r.length < 65536) (h1 : e + 3 + r.length ≤ stop) (h2 : stop ≤ n) : EvOk n (evWrite e stop r) :=
  evok_tail (((evPut_puts e r hr hl).ok (by omega)).append ((evEnd_puts _ stop).ok h2)) (by omega) oct01.2
theorem drop_ok {n a : Nat} (h : a < n) : EvOk n (evDrop a) := fun p x hx => by
  have : p = a ∧ x = 0 := by simpa [evDrop] using hx
  rw [this.1, this.2]; exact ⟨h, oct01.1⟩
theorem renew_ok {n a stop s : Nat} {rs : List (List Int)} (hr : ∀ r ∈ rs, (∀ x ∈ r, Oct x) ∧ r.length < 65536) (h1 : a + size rs ≤ stop) (h2 : stop ≤ n) (hn : 0 < n) (hs : s < 2) : EvOk n (evRenew a stop s rs) :=
  evok_tail (((evRecs_puts rs a hr).ok (by omega)).append ((evEnd_puts _ stop).ok h2)) hn (by constructor <;> omega)
/-- the journal's records are octets, and fit -/
theorem rec_oct {c : List Int} {stop a e : Nat} {rs : List (List Int)} (h : Chn c stop a rs e) (ho : ∀ i, Oct (c.getD i 0)) : ∀ r ∈ rs, ∀ x ∈ r, Oct x := by
  induction h with
  | nil a => intro r hr; exact absurd hr (by simp)
  | cons g t ih =>
    intro r hr x hx
    rcases List.mem_cons.mp hr with z | z
    · subst z
      obtain ⟨i, hi, e1⟩ := List.mem_iff_getElem.mp hx
      have := g.dat i hi
      rw [List.getD_eq_getElem?_getD (l := r), List.getElem?_eq_getElem hi] at this
      have e2 : c.getD (_ + 3 + i) 0 = r[i] := this
      rw [← e1, ← e2]
      exact ho _
    · exact ih r z x hx
end KM
end

section
/-! what stands in the heap: disks, journals, the drawn numbers; what is kept -/
namespace KJ
open PySem PySem.Spec PyProof.Rows L2 KM
/-- all but what stands in S is kept; tuples always -/
structure Kp (S : List Addr) (H H' : Hp) : Prop where
  k : ∀ b o, H b = some o → b ∉ S → H' b = some o
  t : ∀ b xs, H b = some (.tup xs) → H' b = some (.tup xs)
theorem Kp.refl {S : List Addr} {H : Hp} : Kp S H H := ⟨fun _ _ h _ => h, fun _ _ h => h⟩
theorem Kp.trans {S : List Addr} {H H1 H2 : Hp} (a : Kp S H H1) (b : Kp S H1 H2) : Kp S H H2 := ⟨fun x o h n => b.k x o (a.k x o h n) n, fun x o h => b.t x o (a.t x o h)⟩
theorem Kp.mono {S S' : List Addr} {H H' : Hp} (a : Kp S H H') (h : ∀ b ∈ S, b ∈ S' ∨ H b = none) : Kp S' H H' := by
  refine ⟨fun x o e n => a.k x o e fun z => ?_, a.t⟩
  rcases h x z with q | q
  · exact n q
  · rw [e] at q; cases q
/-- behind one another; what the second changes is of S or new -/
theorem Kp.then {S S1 : List Addr} {H H1 H2 : Hp} (a : Kp S H H1) (b : Kp S1 H1 H2) (h : ∀ x ∈ S1, x ∈ S ∨ H x = none) : Kp S H H2 := by
  refine ⟨fun x o e n => b.k x o (a.k x o e n) fun z => ?_, fun x o e => b.t x o (a.t x o e)⟩
  rcases h x z with q | q
  · exact n q
  · rw [e] at q; cases q
theorem Kp.then0 {S : List Addr} {H H1 H2 : Hp} (a : Kp S H H1) (b : Kp [] H1 H2) : Kp S H H2 := a.then b fun x z => absurd z (by simp)
theorem Kp.new {S : List Addr} {H : Hp} {p : Addr} {o : HO} (h : H p = none) : Kp S H (upd H p o) :=
  ⟨fun x u e _ => by rw [upd_ne (ne_of_none e h)]; exact e, fun x u e => by rw [upd_ne (ne_of_none e h)]; exact e⟩
theorem Kp.set {S : List Addr} {H : Hp} {p : Addr} {o u : HO} (h : H p = some u) (hS : p ∈ S) (hm : ∀ xs, u ≠ .tup xs) : Kp S H (upd H p o) :=
  ⟨fun x v e n => by rw [upd_ne (fun z => n (by rw [z]; exact hS))]; exact e, fun x v e => by rw [upd_ne (ne_of e h fun z => hm v z.symm)]; exact e⟩
/-- what is new behind is new ahead -/
theorem Kp.fresh {S : List Addr} {H H' : Hp} {p : Addr} (a : Kp S H H') (h : H' p = none) (hS : ∀ s ∈ S, H' s ≠ none ∨ H s = none) : H p = none := by
  cases e : H p with
  | none => rfl
  | some o =>
    by_cases q : p ∈ S
    · rcases hS p q with z | z
      · exact absurd h z
      · rw [e] at z; cases z
    · rw [a.k p o e q] at h; cases h
theorem Kp.fresh0 {H H' : Hp} {p : Addr} (a : Kp [] H H') (h : H' p = none) : H p = none := a.fresh h fun _ z => absurd z (by simp)
theorem pmap {α β : Type} {F G : α → β → Prop} {l : List α} {m : List β} (h : Paired F l m) (f : ∀ a b, F a b → G a b) : Paired G l m := Paired.mapP h f
theorem plen {α β : Type} {F : α → β → Prop} {l : List α} {m : List β} (h : Paired F l m) : l.length = m.length := Paired.length h
theorem papp {α β : Type} {F : α → β → Prop} : ∀ {l l' : List α} {m m' : List β}, Paired F l m → Paired F l' m' → Paired F (l ++ l') (m ++ m')
  | _, _, _, _, .nil, h => h
  | _, _, _, _, .cons a t, h => .cons a (papp t h)
theorem ptake {α β : Type} {F : α → β → Prop} : ∀ {l : List α} {m : List β} (n : Nat), Paired F l m → Paired F (l.take n) (m.take n)
  | _, _, 0, _ => by simp only [List.take_zero]; exact .nil
  | _, _, _ + 1, .nil => .nil
  | _, _, n + 1, .cons a t => .cons a (ptake n t)
theorem pdrop {α β : Type} {F : α → β → Prop} : ∀ {l : List α} {m : List β} (n : Nat), Paired F l m → Paired F (l.drop n) (m.drop n)
  | _, _, 0, h => h
  | _, _, _ + 1, .nil => .nil
  | _, _, n + 1, .cons a t => pdrop n t
theorem pget {α β : Type} {F : α → β → Prop} : ∀ {l : List α} {m : List β} {i : Nat} {x : α}, Paired F l m → l[i]? = some x → ∃ y, m[i]? = some y ∧ F x y
  | _, _, _, _, .nil, h => by simp at h
  | _, _, 0, x, .cons a t, h => ⟨_, rfl, by simp at h; subst h; exact a⟩
  | _, _, i + 1, x, .cons a t, h => by
    obtain ⟨y, h1, h2⟩ := pget (i := i) t (by simpa using h)
    exact ⟨y, by simpa using h1, h2⟩
theorem pgetR {α β : Type} {F : α → β → Prop} : ∀ {l : List α} {m : List β} {i : Nat} {y : β}, Paired F l m → m[i]? = some y → ∃ x, l[i]? = some x ∧ F x y
  | _, _, _, _, .nil, h => by simp at h
  | _, _, 0, x, .cons a t, h => ⟨_, rfl, by simp at h; subst h; exact a⟩
  | _, _, i + 1, x, .cons a t, h => by
    obtain ⟨y, h1, h2⟩ := pgetR (i := i) t (by simpa using h)
    exact ⟨y, by simpa using h1, h2⟩
/-- an event; a record, as they stand in the heap -/
def EvV (H : Hp) (x : V) : Ev → Prop
  | none => x = .non
  | some (p, y) => ∃ a, x = .ref a ∧ H a = some (.tup [.int (p : Nat), .int y])
def RecV (H : Hp) (x : V) (r : List Int) : Prop := ∃ a, x = .ref a ∧ H a = some (.tup (r.map V.int))
theorem EvV.kp {S : List Addr} {H H' : Hp} (a : Kp S H H') {x : V} {e : Ev} (h : EvV H x e) : EvV H' x e := by
  rcases e with _ | ⟨p, y⟩
  · exact h
  · obtain ⟨b, e1, e2⟩ := h
    exact ⟨b, e1, a.t _ _ e2⟩
theorem RecV.kp {S : List Addr} {H H' : Hp} (a : Kp S H H') {x : V} {r : List Int} (h : RecV H x r) : RecV H' x r := let ⟨b, e1, e2⟩ := h; ⟨b, e1, a.t _ _ e2⟩
abbrev EvsV (H : Hp) (xs : List V) (es : List Ev) : Prop := Paired (EvV H) xs es
abbrev RecsV (H : Hp) (xs : List V) (rs : List (List Int)) : Prop := Paired (RecV H) xs rs
theorem evs_kp {S : List Addr} {H H' : Hp} (a : Kp S H H') {xs : List V} {es : List Ev} (h : EvsV H xs es) : EvsV H' xs es := pmap h fun _ _ => EvV.kp a
theorem recs_kp {S : List Addr} {H H' : Hp} (a : Kp S H H') {xs : List V} {es : List (List Int)} (h : RecsV H xs es) : RecsV H' xs es := pmap h fun _ _ => RecV.kp a
/-- a tuple of events, of records -/
def EvT (H : Hp) (t : Addr) (es : List Ev) : Prop := ∃ xs, H t = some (.tup xs) ∧ EvsV H xs es
def RecT (H : Hp) (t : Addr) (rs : List (List Int)) : Prop := ∃ xs, H t = some (.tup xs) ∧ RecsV H xs rs
theorem EvT.kp {S : List Addr} {H H' : Hp} (a : Kp S H H') {t : Addr} {es : List Ev} (h : EvT H t es) : EvT H' t es := let ⟨xs, e, q⟩ := h; ⟨xs, a.t _ _ e, evs_kp a q⟩
theorem RecT.kp {S : List Addr} {H H' : Hp} (a : Kp S H H') {t : Addr} {es : List (List Int)} (h : RecT H t es) : RecT H' t es := let ⟨xs, e, q⟩ := h; ⟨xs, a.t _ _ e, recs_kp a q⟩
/-- the drawn numbers: a list of a list and a stirred number -/
def Hd (H : Hp) (L A : Addr) : Prop := ∃ (st : Int) (ns : List Int), H L = some (.lst [.ref A, .int st]) ∧ H A = some (.lst (ns.map V.int)) ∧ 0 ≤ st ∧ st < 2147483647 ∧ (∀ n ∈ ns, 0 ≤ n) ∧ ns.length ≤ 63
theorem Hd.kp {S : List Addr} {H H' : Hp} (a : Kp S H H') {L A : Addr} (h : Hd H L A) (hL : L ∉ S) (hA : A ∉ S) : Hd H' L A := by
  obtain ⟨st, ns, e1, e2, r⟩ := h
  exact ⟨st, ns, a.k _ _ e1 hL, a.k _ _ e2 hA, r⟩
section
variable {P : Program} {K : PySem.W.Frag} {mg : Str → Option Value}
def dFs (c o e : Addr) : List (Str × V) := [("cells", .ref c), ("_octets", .ref o), ("_events", .ref e)]
def jFs (d : Addr) (side : Nat) (r : Addr) (e : Nat) : List (Str × V) := [("disk", .ref d), ("_side", .int (side : Nat)), ("_records", .ref r), ("_end", .int (e : Nat))]
/-- a disk at d -/
structure Dsk (T : Tx P K mg) (H : Hp) (d c o e : Addr) (cells octs : List Int) (evs : List Ev) : Prop where
  ins : ∃ dx, H d = some (.ins T.CD dx (dFs c o e))
  cel : H c = some (.tup (cells.map V.int))
  oct : H o = some (.lst (octs.map V.int))
  evl : ∃ xs, H e = some (.lst xs) ∧ EvsV H xs evs
  ne : o ≠ e
  ln : octs.length = cells.length
theorem Dsk.kp {T : Tx P K mg} {S : List Addr} {H H' : Hp} (a : Kp S H H') {d c o e : Addr} {cells octs : List Int} {evs : List Ev} (h : Dsk T H d c o e cells octs evs) (hd : d ∉ S) (ho : o ∉ S) (he : e ∉ S) : Dsk T H' d c o e cells octs evs := by
  obtain ⟨⟨dx, h1⟩, h2, h3, ⟨xs, h4, h5⟩, h6, h7⟩ := h
  exact ⟨⟨dx, a.k _ _ h1 hd⟩, a.t _ _ h2, a.k _ _ h3 ho, ⟨xs, a.k _ _ h4 he, evs_kp a h5⟩, h6, h7⟩
theorem Dsk.kp0 {T : Tx P K mg} {H H' : Hp} (a : Kp [] H H') {d c o e : Addr} {cells octs : List Int} {evs : List Ev} (h : Dsk T H d c o e cells octs evs) : Dsk T H' d c o e cells octs evs := h.kp a (by simp) (by simp) (by simp)
/-- a journal at j -/
structure Jrn (T : Tx P K mg) (H : Hp) (j d r : Addr) (side : Nat) (rs : List (List Int)) (e : Nat) : Prop where
  ins : ∃ jx, H j = some (.ins T.CJ jx (jFs d side r e))
  lst : ∃ xs, H r = some (.lst xs) ∧ RecsV H xs rs
theorem Jrn.kp {T : Tx P K mg} {S : List Addr} {H H' : Hp} (a : Kp S H H') {j d r : Addr} {side e : Nat} {rs : List (List Int)} (h : Jrn T H j d r side rs e) (hj : j ∉ S) (hr : r ∉ S) : Jrn T H' j d r side rs e := by
  obtain ⟨⟨jx, h1⟩, xs, h2, h3⟩ := h
  exact ⟨⟨jx, a.k _ _ h1 hj⟩, xs, a.k _ _ h2 hr, recs_kp a h3⟩
theorem Jrn.kp0 {T : Tx P K mg} {H H' : Hp} (a : Kp [] H H') {j d r : Addr} {side e : Nat} {rs : List (List Int)} (h : Jrn T H j d r side rs e) : Jrn T H' j d r side rs e := h.kp a (by simp) (by simp)
/-- a thing that may stand as a cell; whether it is an octet -/
def CV (H : Hp) (v : V) (b : Bool) : Prop := (∃ n, v = .int n ∧ b = (decide (0 ≤ n) && decide (n < 256))) ∨ (b = false ∧ (v = .non ∨ (∃ k, v = .bl k) ∨ (∃ x, v = .str x) ∨ ∃ a xs, v = .ref a ∧ H a = some (.tup xs)))
theorem CV.kp {S : List Addr} {H H' : Hp} (a : Kp S H H') {v : V} {b : Bool} (h : CV H v b) : CV H' v b := by
  rcases h with h | ⟨e, h | h | h | ⟨x, xs, e1, e2⟩⟩
  · exact .inl h
  · exact .inr ⟨e, .inl h⟩
  · exact .inr ⟨e, .inr (.inl h)⟩
  · exact .inr ⟨e, .inr (.inr (.inl h))⟩
  · exact .inr ⟨e, .inr (.inr (.inr ⟨x, xs, e1, a.t _ _ e2⟩))⟩
/-! ### lookups -/
theorem lk_cells (c o e : Addr) : List.lookup ("cells" : Str) (dFs c o e) = some (.ref c) := by rfl
theorem lk_octets (c o e : Addr) : List.lookup ("_octets" : Str) (dFs c o e) = some (.ref o) := by rfl
theorem lk_events (c o e : Addr) : List.lookup ("_events" : Str) (dFs c o e) = some (.ref e) := by rfl
theorem lk_look (c o e : Addr) : List.lookup ("look" : Str) (dFs c o e) = none := by rfl
theorem lk_put (c o e : Addr) : List.lookup ("put" : Str) (dFs c o e) = none := by rfl
theorem lk_flush (c o e : Addr) : List.lookup ("flush" : Str) (dFs c o e) = none := by rfl
theorem lk_dev (c o e : Addr) : List.lookup ("events" : Str) (dFs c o e) = none := by rfl
theorem lk_disk (d r : Addr) (s e : Nat) : List.lookup ("disk" : Str) (jFs d s r e) = some (.ref d) := by rfl
theorem lk_side (d r : Addr) (s e : Nat) : List.lookup ("_side" : Str) (jFs d s r e) = some (.int (s : Nat)) := by rfl
theorem lk_records (d r : Addr) (s e : Nat) : List.lookup ("_records" : Str) (jFs d s r e) = some (.ref r) := by rfl
theorem lk_end (d r : Addr) (s e : Nat) : List.lookup ("_end" : Str) (jFs d s r e) = some (.int (e : Nat)) := by rfl
theorem lk_jrecords (d r : Addr) (s e : Nat) : List.lookup ("records" : Str) (jFs d s r e) = none := by rfl
theorem lk_write (d r : Addr) (s e : Nat) : List.lookup ("write" : Str) (jFs d s r e) = none := by rfl
theorem lk_drop (d r : Addr) (s e : Nat) : List.lookup ("drop" : Str) (jFs d s r e) = none := by rfl
theorem lk_renew (d r : Addr) (s e : Nat) : List.lookup ("renew" : Str) (jFs d s r e) = none := by rfl
end
end KJ
end

section
namespace KJ
open PySem PySem.Spec PyProof.Rows L2 KM
abbrev rLenS (K : PySem.W.Frag) : List V → Hp → VK → Prop := fun xs H Q => ∃ p ys, xs = [.ref p] ∧ (SqL K H p ys ∨ SqT K H p ys) ∧ Q (.int ys.length) H
/-- a new object -/
theorem nw {H : Hp} {o : Addr → HO} {C : Addr → Hp → Prop} (h : ∀ p H', H p = none → Kp [] H H' → H' p = some (o p) → C p H') : ∀ p, H p = none → C p (upd H p (o p)) := fun p np => h p _ np (Kp.new np) upd_same
theorem nwV {H : Hp} {o : Addr → HO} {Q : VK} (h : ∀ p H', H p = none → Kp [] H H' → H' p = some (o p) → Q (.ref p) H') : ∀ p, H p = none → Q (.ref p) (upd H p (o p)) := fun p np => h p _ np (Kp.new np) upd_same
theorem sl_use {K : PySem.W.Frag} {H : Hp} {a : Addr} {xs : List V} {lo hi : Option Int} {Q : VK} (e : H a = some (.tup xs)) (h : ∀ p H', Kp [] H H' → H' p = some (.tup (cutV xs lo hi)) → Q (.ref p) H') : rSlA K (.ref a) lo hi H Q := by
  refine ⟨a, xs, rfl, .of e, fun z => h a H .refl ?_, fun _ => nw fun p H' _ k e' => h p H' k e'⟩
  have : cutV xs lo hi = xs := by unfold cutV; rw [z.1, z.2]; simp
  rw [this]; exact e
theorem cat_use {K : PySem.W.Frag} {H : Hp} {a b : Addr} {xs ys : List V} {Q : VK} (e : H a = some (.tup xs)) (f : H b = some (.tup ys)) (hz : xs.length + ys.length ≤ sizeLine) (h : ∀ p H', Kp [] H H' → H' p = some (.tup (xs ++ ys)) → Q (.ref p) H') : rCatA K (.ref a) (.ref b) H Q :=
  ⟨a, b, xs, ys, rfl, rfl, .of e, .of f, hz, fun z => h b H .refl (by rw [z]; exact f), fun _ z => h a H .refl (by rw [z, List.append_nil]; exact e), fun _ _ => nw fun p H' _ k e' => h p H' k e'⟩
theorem rep_use {K : PySem.W.Frag} {H : Hp} {l : Addr} {v : V} {k : Int} {Q : VK} (e : H l = some (.tup [v])) (h1 : 1 ≤ k) (h2 : k ≤ 1000000) (h : ∀ p H', Kp [] H H' → H' p = some (.tup (List.replicate k.toNat v)) → Q (.ref p) H') : rRep1 K (.ref l) (.int k) H Q :=
  ⟨l, k, v, rfl, rfl, .of e, h1, h2, fun z => h l H .refl (by subst z; exact e), fun _ => nw fun p H' _ k e' => h p H' k e'⟩
theorem at_int {xs : List Int} {i : Nat} (h : i < xs.length) : atI (xs.map V.int) ((i : Nat) : Int) = some (.int (xs.getD i 0)) := by
  refine atI_nat ?_
  rw [List.getElem?_map, List.getElem?_eq_getElem h, List.getD_eq_getElem?_getD, List.getElem?_eq_getElem h]; rfl
theorem ixn {n j : Nat} (hj : j < n) : ixN n ((j : Nat) : Int) = some j := by
  unfold ixN
  rw [if_pos (by omega), if_pos (by omega)]
  rfl
theorem small16 {n : Nat} (h : n < 16000000) : n < sizeLine := by rw [sizeLine_eq]; omega
theorem small16' {n : Nat} (h : n < 16000000) : n ≤ sizeLine := Nat.le_of_lt (small16 h)
theorem two_size : 2 ≤ sizeLine := by rw [sizeLine_eq]; decide
theorem map_set (xs : List Int) (i : Nat) (x : Int) : (xs.map V.int).set i (.int x) = (xs.set i x).map V.int := by rw [List.map_set]
theorem Dsk.neq {P : Program} {K : PySem.W.Frag} {mg : Str → Option Value} {T : Tx P K mg} {H : Hp} {d c o e : Addr} {cells octs : List Int} {evs : List Ev} (D : Dsk T H d c o e cells octs evs) : d ≠ o ∧ d ≠ e := by
  obtain ⟨dx, h⟩ := D.ins
  obtain ⟨xs, h2, _⟩ := D.evl
  exact ⟨ne_of h D.oct (by intro z; cases z), ne_of h h2 (by intro z; cases z)⟩
end KJ
end

section
/-! records, events, numbers as data: repr, == -/
namespace KJ
open PySem PySem.Spec PyProof.Rows L2 KM
theorem snoc_or {α : Type} (l : List α) : l = [] ∨ ∃ m x, l = m ++ [x] := by
  rcases l.eq_nil_or_concat with h | ⟨m, x, h⟩
  · exact .inl h
  · exact .inr ⟨m, x, by rw [h, List.concat_eq_append]⟩
/-- data that may be shown and compared; k bounds its text, p its depth -/
structure Nc (d : PyData) (k p : Nat) : Prop where
  lay : d.canLay0 = true
  shw : d.showable = true
  dep : d.depth ≤ p
  len : d.shown.length ≤ k
theorem Nc.mono {d : PyData} {k p k' p' : Nat} (h : Nc d k p) (h1 : k ≤ k') (h2 : p ≤ p') : Nc d k' p' := ⟨h.lay, h.shw, Nat.le_trans h.dep h2, Nat.le_trans h.len h1⟩
theorem Nc.non : Nc .none 4 0 := ⟨rfl, rfl, Nat.le_refl _, by decide⟩
theorem Nc.int {i : Int} (h : i.natAbs < 10 ^ 9) : Nc (.int i) 10 0 := by
  refine ⟨rfl, ?_, Nat.le_refl _, ?_⟩
  · have : i.natAbs.log2 < 1920 := by
      by_cases h0 : i.natAbs = 0
      · rw [h0]; decide
      · exact (Nat.log2_lt h0).mpr (Nat.lt_of_lt_of_le h (Nat.le_trans (by decide : 10 ^ 9 ≤ 2 ^ 30) (Nat.pow_le_pow_right (by decide) (by decide))))
    simpa [PyData.showable] using this
  · show (Str.ofString (toString i)).length ≤ 10
    rw [PySem.ofString_length]
    exact int_text_length_le10 (k := 9) (by decide) h
theorem all_of {ds : List PyData} {p : Nat} (h : ∀ d ∈ ds, ∃ k, Nc d k p) : PyData.canLayAll0 ds = true ∧ PyData.showableAll ds = true ∧ PyData.depthAll ds ≤ p := by
  induction ds with
  | nil => exact ⟨rfl, rfl, Nat.zero_le _⟩
  | cons d ds ih =>
    obtain ⟨k, n⟩ := h d List.mem_cons_self
    obtain ⟨a, b, c⟩ := ih fun x hx => h x (List.mem_cons_of_mem _ hx)
    exact ⟨by simp [PyData.canLayAll0, n.lay, a], by simp [PyData.showableAll, n.shw, b], by have := n.dep; simp only [PyData.depthAll]; omega⟩
theorem sum_of {ds : List PyData} {p K : Nat} {f : PyData → Nat} (h : ∀ d ∈ ds, Nc d (f d) p) : ((PyData.shownAll ds).map (·.length)).sum + 2 * (PyData.shownAll ds).length ≤ (ds.map fun d => f d + 2).sum := by
  induction ds with
  | nil => simp [PyData.shownAll]
  | cons d ds ih =>
    have n := h d List.mem_cons_self
    have := ih fun x hx => h x (List.mem_cons_of_mem _ hx)
    have := n.len
    simp only [PyData.shownAll, List.map_cons, List.sum_cons, List.length_cons]
    omega
theorem Nc.tup {ds : List PyData} {p : Nat} {f : PyData → Nat} (h : ∀ d ∈ ds, Nc d (f d) p) : Nc (.tuple ds) ((ds.map fun d => f d + 2).sum + 3) (p + 1) := by
  obtain ⟨a, b, c⟩ := all_of fun d hd => ⟨_, h d hd⟩
  refine ⟨by simpa [PyData.canLay0] using a, by simpa [PyData.showable] using b, by simp only [PyData.depth]; omega, ?_⟩
  have h1 := tupleText_len_le (PyData.shownAll ds)
  have h2 := sum_of (K := 0) h
  simp only [PyData.shown]
  omega
theorem Nc.lst {ds : List PyData} {p : Nat} {f : PyData → Nat} (h : ∀ d ∈ ds, Nc d (f d) p) : Nc (.list ds) ((ds.map fun d => f d + 2).sum + 3) (p + 1) := by
  obtain ⟨a, b, c⟩ := all_of fun d hd => ⟨_, h d hd⟩
  refine ⟨by simpa [PyData.canLay0] using a, by simpa [PyData.showable] using b, by simp only [PyData.depth]; omega, ?_⟩
  have h1 := listText_len_le (PyData.shownAll ds)
  have h2 := sum_of (K := 0) h
  simp only [PyData.shown]
  omega
theorem sum_const {α : Type} (k : Nat) : ∀ l : List α, (l.map fun _ => k).sum = k * l.length
  | [] => by simp
  | _ :: l => by rw [List.map_cons, List.sum_cons, sum_const k l, List.length_cons, Nat.mul_add]; omega
def recD (r : List Int) : PyData := .tuple (r.map .int)
def recsD (rs : List (List Int)) : PyData := .tuple (rs.map recD)
def intsD (r : List Int) : PyData := .list (r.map .int)
def evD : Ev → PyData
  | none => .none
  | some (p, x) => .tuple [.int (p : Nat), .int x]
def evsD (es : List Ev) : PyData := .tuple (es.map evD)
theorem oct_abs {x : Int} (h : Oct x) : x.natAbs < 10 ^ 9 := by
  obtain ⟨h1, h2⟩ := h
  have : x.natAbs ≤ 255 := by omega
  exact Nat.lt_of_le_of_lt this (by decide)
theorem nc_rec {r : List Int} (h : ∀ x ∈ r, x.natAbs < 10 ^ 9) : Nc (recD r) (12 * r.length + 3) 1 := by
  have := Nc.tup (ds := r.map .int) (p := 0) (f := fun _ => 10) fun d hd => by
    obtain ⟨x, hx, rfl⟩ := List.mem_map.mp hd
    exact .int (h x hx)
  rw [sum_const, List.length_map] at this
  exact this
theorem nc_ints {r : List Int} (h : ∀ x ∈ r, x.natAbs < 10 ^ 9) : Nc (intsD r) (12 * r.length + 3) 1 := by
  have := Nc.lst (ds := r.map .int) (p := 0) (f := fun _ => 10) fun d hd => by
    obtain ⟨x, hx, rfl⟩ := List.mem_map.mp hd
    exact .int (h x hx)
  rw [sum_const, List.length_map] at this
  exact this
/-- records of octets, in all not too long -/
def RsOk (rs : List (List Int)) : Prop := (∀ r ∈ rs, ∀ x ∈ r, Oct x) ∧ size rs ≤ 100000
theorem nc_recs {rs : List (List Int)} (h : RsOk rs) : Nc (recsD rs) 1400003 2 := by
  have h1 : ∀ r ∈ rs, Nc (recD r) (12 * r.length + 3) 1 := fun r hr => nc_rec fun x hx => oct_abs (h.1 r hr x hx)
  have b : ∀ rs : List (List Int), (∀ r ∈ rs, Nc (recD r) (12 * r.length + 3) 1) → ((rs.map recD).map fun d => d.shown.length + 2).sum ≤ 14 * size rs := fun rs => by
    induction rs with
    | nil => intro _; simp [size]
    | cons r rs ih =>
      intro h
      have := ih fun r hr => h r (List.mem_cons_of_mem _ hr)
      have := (h r List.mem_cons_self).len
      rw [size_cons]
      simp only [List.map_cons, List.sum_cons]
      omega
  have t := Nc.tup (ds := rs.map recD) (p := 1) (f := fun d => d.shown.length) fun d hd => by
    obtain ⟨r, hr, rfl⟩ := List.mem_map.mp hd
    have n := h1 r hr
    exact ⟨n.lay, n.shw, n.dep, Nat.le_refl _⟩
  refine t.mono ?_ (Nat.le_refl _)
  have := b rs h1
  have := h.2
  omega
theorem nc_evs {es : List Ev} (h : ∀ p x, some (p, x) ∈ es → p < 10 ^ 9 ∧ x.natAbs < 10 ^ 9) : Nc (evsD es) (29 * es.length + 3) 2 := by
  have := Nc.tup (ds := es.map evD) (p := 1) (f := fun _ => 27) fun d hd => by
    obtain ⟨e, he, rfl⟩ := List.mem_map.mp hd
    rcases e with _ | ⟨p, x⟩
    · exact Nc.non.mono (by decide) (by decide)
    · have q := h p x he
      have := Nc.tup (ds := [.int ((p : Nat) : Int), .int x]) (p := 0) (f := fun _ => 10) fun d hd => by
        rcases List.mem_cons.mp hd with z | z
        · rw [z]; exact .int (by rw [Int.natAbs_natCast]; exact q.1)
        · rw [List.mem_singleton.mp z]; exact .int q.2
      exact this
  rw [sum_const, List.length_map] at this
  exact this
/-! in the heap -/
section
variable {K : PySem.W.Frag} {H : Hp}
theorem dp_ints : ∀ r : List Int, DpAll K H (r.map V.int) (r.map PyData.int)
  | [] => .nil
  | x :: r => .cons (.int x) (dp_ints r)
theorem dp_rec {x : V} {r : List Int} (h : RecV H x r) : Dp K H x (recD r) := by
  obtain ⟨a, rfl, e⟩ := h
  exact .tup (SqT.of e) (dp_ints r)
theorem dp_recsA : ∀ {xs : List V} {rs : List (List Int)}, RecsV H xs rs → DpAll K H xs (rs.map recD)
  | _, _, .nil => .nil
  | _, _, .cons a t => .cons (dp_rec a) (dp_recsA t)
theorem dp_recs {t : Addr} {rs : List (List Int)} (h : RecT H t rs) : Dp K H (.ref t) (recsD rs) := let ⟨xs, e, r⟩ := h; .tup (SqT.of e) (dp_recsA r)
theorem dp_ev {x : V} {e : Ev} (h : EvV H x e) : Dp K H x (evD e) := by
  rcases e with _ | ⟨p, y⟩
  · obtain rfl : x = .non := h
    exact .non
  · obtain ⟨a, rfl, e⟩ := h
    exact .tup (SqT.of e) (.cons (.int _) (.cons (.int _) .nil))
theorem dp_evsA : ∀ {xs : List V} {es : List Ev}, EvsV H xs es → DpAll K H xs (es.map evD)
  | _, _, .nil => .nil
  | _, _, .cons a t => .cons (dp_ev a) (dp_evsA t)
theorem dp_evs {t : Addr} {es : List Ev} (h : EvT H t es) : Dp K H (.ref t) (evsD es) := let ⟨xs, e, r⟩ := h; .tup (SqT.of e) (dp_evsA r)
theorem dp_il {a : Addr} {r : List Int} (h : H a = some (.lst (r.map V.int))) : Dp K H (.ref a) (intsD r) := .lst (SqL.of h) (dp_ints r)
theorem dp_it {a : Addr} {r : List Int} (h : H a = some (.tup (r.map V.int))) : Dp K H (.ref a) (recD r) := .tup (SqT.of h) (dp_ints r)
end
theorem Nc.shaped {d : PyData} {k p : Nat} (h : Nc d k p) (hp : p ≤ 64) : SeqAt.shaped d = true := by
  have h1 := h.lay
  have h2 : d.depth ≤ 64 := Nat.le_trans h.dep hp
  simp [SeqAt.shaped, h1, h2]
/-- what repr asks -/
theorem Nc.repr {K : PySem.W.Frag} {H : Hp} {a : Addr} {d : PyData} {k p : Nat} {Q : VK} (h : Nc d k p) (hd : Dp K H (.ref a) d) (q : Q (.str d.shown) H) (hp : p ≤ 8) (hk : k ≤ 16000000) : rRepr K [.ref a] H Q :=
  ⟨a, d, rfl, hd, h.shw, PyData.hasDict_of_canLay d h.lay, Nat.le_trans h.dep hp, Nat.le_trans h.len (by rw [sizeLine_eq]; omega), q⟩
theorem eqv_self {d : PyData} {k p : Nat} (h : Nc d k p) : PyData.eqv d d = true := by
  first
  | exact PySem.PyData.eqv_refl d h.lay
  | exact SeqAt.eqv_refl d h.lay
  | exact PySem.eqv_refl d h.lay
/-- == of two data, where they are known to be equal, or to be unlike in kind -/
theorem eqD_use {K : PySem.W.Frag} {H : Hp} {x y : V} {d e : PyData} {k p k' p' : Nat} {Q : VK} (nd : Nc d k p) (ne : Nc e k' p') (hx : Dp K H x d) (hy : Dp K H y e) (hp : p ≤ 64) (hp' : p' ≤ 64) (q : Q (.bl (PyData.eqv d e)) H) : rEqD K x y H Q :=
  ⟨d, e, hx, hy, nd.shaped hp, ne.shaped hp', q⟩
theorem neD_use {K : PySem.W.Frag} {H : Hp} {x y : V} {d e : PyData} {k p k' p' : Nat} {Q : VK} (nd : Nc d k p) (ne : Nc e k' p') (hx : Dp K H x d) (hy : Dp K H y e) (hp : p ≤ 64) (hp' : p' ≤ 64) (q : Q (.bl (!PyData.eqv d e)) H) : rNeD K x y H Q :=
  ⟨d, e, hx, hy, nd.shaped hp, ne.shaped hp', q⟩
theorem eqv_ints : ∀ {r s : List Int}, PyData.eqvAll (r.map .int) (s.map .int) = true → r = s
  | [], [], _ => rfl
  | [], _ :: _, h => by simp [PyData.eqvAll] at h
  | _ :: _, [], h => by simp [PyData.eqvAll] at h
  | x :: r, y :: s, h => by
    simp only [List.map_cons, PyData.eqvAll, PyData.eqv, Bool.and_eq_true, beq_iff_eq] at h
    rw [h.1, eqv_ints h.2]
theorem eqv_recsA : ∀ {rs ss : List (List Int)}, PyData.eqvAll (rs.map recD) (ss.map recD) = true → rs = ss
  | [], [], _ => rfl
  | [], _ :: _, h => by simp [PyData.eqvAll] at h
  | _ :: _, [], h => by simp [PyData.eqvAll] at h
  | x :: r, y :: s, h => by
    simp only [List.map_cons, PyData.eqvAll, recD, PyData.eqv, Bool.and_eq_true] at h
    rw [eqv_ints h.1, eqv_recsA h.2]
theorem eqv_recs {rs ss : List (List Int)} (h : PyData.eqv (recsD rs) (recsD ss) = true) : rs = ss := eqv_recsA (by simpa [recsD, PyData.eqv] using h)
theorem eqv_recs_iff {rs ss : List (List Int)} (h1 : RsOk rs) : PyData.eqv (recsD rs) (recsD ss) = decide (rs = ss) := by
  by_cases e : rs = ss
  · subst e
    rw [eqv_self (nc_recs h1)]; simp
  · rw [decide_eq_false e]
    cases q : PyData.eqv (recsD rs) (recsD ss) with
    | false => rfl
    | true => exact absurd (eqv_recs q) e
end KJ
end

section
namespace KJ
open PySem PySem.Spec PyProof.Rows L2 KM
section
variable {P : Program} {w : World} {K : PySem.W.Frag} {mg : Str → Option Value} {base : Heap}
def Sev (t : String) : Prop := t = "int" ∨ t = "bool" ∨ t = "str" ∨ t = "NoneType" ∨ t = "tuple"
def sp_is_integer (T : Tx P K mg) : Sp := fun vs H Q _ => ∃ v t, vs = [v] ∧ TyX K H v (.type t) ∧ Sev t ∧ Q (.bl (t == "int")) H
--N 2
theorem ok_is_integer (T : Tx P K mg) : FnOk P w K mg base (L2.CX P w) 1 T.f_is_integer T.d_is_integer ["value"] (sp_is_integer T) := by
  refine T.F_is_integer.ok (k := 0) sc_is_integer (fun vs H Q E h => by obtain ⟨_, _, rfl, _⟩ := h; rfl) (fun cdv A outer s H vs Q E hr h => ?_)
  refine ⟨_, PSs.nox (pss_one (ps_ret (pe_and (pe_callB call_isi rfl T.n_isinstance (by decide +kernel) (pa_cons (pv 0) (pa_cons (pe_bltn (v := .ty "int") rfl T.n_int (by decide +kernel) rfl) pa_nil))) (pe_one (pe_not (pe_callB call_isi rfl T.n_isinstance (by decide +kernel) (pa_cons (pv 0) (pa_cons (pe_bltn (v := .ty "bool") rfl T.n_bool (by decide +kernel) rfl) pa_nil)))))))), ?_⟩
  obtain ⟨v, t, rfl, ty, sv, q⟩ := h
  have k1 : PySem.W.kitOne K (.type t) (.type "int") = some (t == "int" || t == "bool") := by rcases sv with rfl | rfl | rfl | rfl | rfl <;> exact kit_ty (by decide +kernel)
  have k2 : PySem.W.kitOne K (.type t) (.type "bool") = some (t == "bool") := by rcases sv with rfl | rfl | rfl | rfl | rfl <;> exact kit_ty (by decide +kernel)
  refine ⟨_, rfl, v, .ty "int", _, _, _, rfl, .ty _, ty, k1, _, rfl, ?_⟩
  have q' : Q (.bl (!(t == "bool"))) H ∨ True := .inr trivial
  by_cases e : t = "int"
  · subst e
    refine iteT ⟨_, rfl, v, .ty "bool", _, _, _, rfl, .ty _, ty, k2, _, rfl, ?_⟩
    exact q
  · by_cases e2 : t = "bool"
    · subst e2
      exact iteT ⟨_, rfl, v, .ty "bool", _, _, _, rfl, .ty _, ty, k2, _, rfl, q⟩
    · have h1 : (t == "int") = false := by simpa using e
      have h2 : (t == "bool") = false := by simpa using e2
      rw [h1, h2]
      rw [h1] at q
      exact iteF q
def sp_half_start (T : Tx P K mg) : Sp := fun vs H Q _ => ∃ d c o e cells octs evs side, vs = [.ref d, .int ((side : Nat) : Int)] ∧ Dsk T H d c o e cells octs evs ∧ side ≤ 2 ∧ cells.length ≤ 20000 ∧ 1 ≤ cells.length ∧ Q (.int ((hs cells.length side : Nat) : Int)) H
--N 8
theorem ok_half_start (T : Tx P K mg) : FnOk P w K mg base (L2.CX P w) 1 T.f_half_start T.d_half_start ["disk", "side"] (sp_half_start T) := by
  refine T.F_half_start.ok (k := 0) sc_half_start (fun vs H Q E h => by obtain ⟨_, _, _, _, _, _, _, _, rfl, _⟩ := h; rfl) (fun cdv A outer s H vs Q E hr h => ?_)
  refine ⟨_, PSs.nox (pss_one (ps_ret (pe_op op_add pe_int (pe_op op_mul (pv 1) (pe_op op_fdiv (pe_op op_sub (pe_callB call_len_seq rfl T.n_len (by decide +kernel) (pa_cons (pe_fld (pv 0) rfl) pa_nil)) pe_int) pe_int))))), ?_⟩
  obtain ⟨d, c, o, e, cells, octs, evs, side, rfl, D, h1, h2, h3, q⟩ := h
  obtain ⟨dx, hd⟩ := D.ins
  refine ⟨_, rfl, _, rfl, d, _, dx, _, .ref c, rfl, hd, T.clD, T.nDcells, lk_cells .., c, _, rfl, .inr (SqT.of D.cel), _, _, rfl, rfl, _, _, rfl, rfl, ⟨by decide, by decide⟩, _, _, rfl, rfl, .inl ⟨by omega, by omega⟩, _, _, rfl, rfl, ?_⟩
  have e1 : (1 : Int) + (side : Int) * ((((cells.map V.int).length : Int) - 1) / 2) = ((hs cells.length side : Nat) : Int) := by
    unfold hs
    rw [List.length_map, Int.natCast_add, Int.natCast_mul, Int.natCast_ediv, Int.natCast_sub h3]
    rfl
  show Q (.int (1 + (side : Int) * ((((cells.map V.int).length : Int) - 1) / 2))) H
  rw [e1]
  exact q
def sp_Disk_look (T : Tx P K mg) : Sp := fun vs H Q _ => ∃ d c o e cells octs evs at_, vs = [.ref d, .int ((at_ : Nat) : Int)] ∧ Dsk T H d c o e cells octs evs ∧ at_ < octs.length ∧ Q (.int (octs.getD at_ 0)) H
--N 8
theorem ok_Disk_look (T : Tx P K mg) : FnOk P w K mg base (L2.CX P w) 1 T.f_Disk_look T.d_Disk_look ["self", "at"] (sp_Disk_look T) := by
  refine T.F_Disk_look.ok (k := 0) sc_Disk_look (fun vs H Q E h => by obtain ⟨_, _, _, _, _, _, _, _, rfl, _⟩ := h; rfl) (fun cdv A outer s H vs Q E hr h => ?_)
  refine ⟨_, PSs.nox (pss_one (ps_ret (pe_ix ix_list (pe_fld (pv 0) rfl) (pv 1) (fun _ _ => rfl)))), ?_⟩
  obtain ⟨d, c, o, e, cells, octs, evs, i, rfl, D, h1, q⟩ := h
  obtain ⟨dx, hd⟩ := D.ins
  exact ⟨_, rfl, d, _, dx, _, .ref o, rfl, hd, T.clD, T.nD_octets, lk_octets .., _, rfl, o, _, _, _, rfl, rfl, SqL.of D.oct, at_int h1, q⟩
def sp_Disk_put (T : Tx P K mg) : Sp := fun vs H Q _ => ∃ d c o e cells octs evs at_ x, vs = [.ref d, .int ((at_ : Nat) : Int), .int x] ∧ Dsk T H d c o e cells octs evs ∧ at_ < octs.length ∧ evs.length < 16000000 ∧
  ∀ H', Kp [o, e] H H' → Dsk T H' d c o e cells (octs.set at_ x) (evs ++ [some (at_, x)]) → Q .non H'
--N 9
theorem ok_Disk_put (T : Tx P K mg) : FnOk P w K mg base (L2.CX P w) 1 T.f_Disk_put T.d_Disk_put ["self", "at", "octet"] (sp_Disk_put T) := by
  refine T.F_Disk_put.ok (k := 0) sc_Disk_put (fun vs H Q E h => by obtain ⟨_, _, _, _, _, _, _, _, _, rfl, _⟩ := h; rfl) (fun cdv A outer s H vs Q E hr h => ?_)
  refine ⟨_, PSs.nox (pss_cons (ps_asg (pv 2) (pg_sub (pe_fld (pv 0) rfl) (pv 1) set_list))
 (pss_one (ps_expr (pe_bm PySem.F.plainAttrs_list PySem.F.slot_list_append PySem.F.type_list_append mt_append (pe_fld (pv 0) rfl) (pa_cons (pe_tup (pa_cons (pv 1) (pa_cons (pv 2) pa_nil))) pa_nil))))), ?_⟩
  obtain ⟨d, c, o, e, cells, octs, evs, i, x, rfl, D, h1, h2, q⟩ := h
  have dn := D.neq
  obtain ⟨⟨dx, hd⟩, hc, ho, ⟨xs, he, hv⟩, hne, hln⟩ := D
  refine ⟨_, rfl, _, rfl, d, _, dx, _, .ref o, rfl, hd, T.clD, T.nD_octets, lk_octets .., _, rfl, o, _, _, i, rfl, rfl, ho, ixn (by rw [List.length_map]; exact h1), ?_⟩
  rw [map_set]
  have k1 : Kp [o, e] H (upd H o (.lst ((octs.set i x).map V.int))) := Kp.set ho (by simp) (by intro _ z; cases z)
  have he1 : upd H o (.lst ((octs.set i x).map V.int)) e = some (.lst xs) := by rw [upd_ne hne.symm]; exact he
  have hd1 : upd H o (.lst ((octs.set i x).map V.int)) d = some (.ins T.CD dx (dFs c o e)) := k1.k _ _ hd (by simpa using dn)
  have ho1 : upd H o (.lst ((octs.set i x).map V.int)) o = some (.lst ((octs.set i x).map V.int)) := upd_same
  generalize upd H o (.lst ((octs.set i x).map V.int)) = H1 at *
  refine ⟨_, rfl, d, _, dx, _, .ref e, rfl, hd1, T.clD, T.nD_events, lk_events .., .inl ⟨rfl, _, SqL.of he1⟩, _, rfl, _, rfl, two_size, nw fun p H2 np k2 ep => ⟨e, xs, .ref p, rfl, rfl, k2.k _ _ he1 (by simp), ?_, ?_⟩⟩
  · rw [plen hv]; exact small16 h2
  · have he2 := k2.k _ _ he1 (by simp)
    have k3 : Kp [o, e] H2 (upd H2 e (.lst (xs ++ [.ref p]))) := Kp.set he2 (by simp) (by intro _ z; cases z)
    have k : Kp [o, e] H (upd H2 e (.lst (xs ++ [.ref p]))) := (k1.then0 k2).trans k3
    refine q _ k ⟨⟨dx, k.k _ _ hd (by simpa using dn)⟩, k.t _ _ hc, ?_, ⟨_, upd_same, papp (evs_kp k hv) (.cons ⟨p, rfl, k3.t _ _ ep⟩ .nil)⟩, hne, by rw [List.length_set]; exact hln⟩
    rw [upd_ne hne]
    exact k2.k _ _ ho1 (by simp)
def sp_Disk_flush (T : Tx P K mg) : Sp := fun vs H Q _ => ∃ d c o e cells octs evs, vs = [.ref d] ∧ Dsk T H d c o e cells octs evs ∧ evs.length < 16000000 ∧
  ∀ H', Kp [o, e] H H' → Dsk T H' d c o e cells octs (evs ++ [none]) → Q .non H'
--N 7
theorem ok_Disk_flush (T : Tx P K mg) : FnOk P w K mg base (L2.CX P w) 1 T.f_Disk_flush T.d_Disk_flush ["self"] (sp_Disk_flush T) := by
  refine T.F_Disk_flush.ok (k := 0) sc_Disk_flush (fun vs H Q E h => by obtain ⟨_, _, _, _, _, _, _, rfl, _⟩ := h; rfl) (fun cdv A outer s H vs Q E hr h => ?_)
  refine ⟨_, PSs.nox (pss_one (ps_expr (pe_bm PySem.F.plainAttrs_list PySem.F.slot_list_append PySem.F.type_list_append mt_append (pe_fld (pv 0) rfl) (pa_cons pe_non pa_nil)))), ?_⟩
  obtain ⟨d, c, o, e, cells, octs, evs, rfl, D, h2, q⟩ := h
  have dn := D.neq
  obtain ⟨⟨dx, hd⟩, hc, ho, ⟨xs, he, hv⟩, hne, hln⟩ := D
  refine ⟨_, rfl, d, _, dx, _, .ref e, rfl, hd, T.clD, T.nD_events, lk_events .., .inl ⟨rfl, _, SqL.of he⟩, e, xs, .non, rfl, rfl, he, by rw [plen hv]; exact small16 h2, ?_⟩
  have k : Kp [o, e] H (upd H e (.lst (xs ++ [.non]))) := Kp.set he (by simp) (by intro _ z; cases z)
  exact q _ k ⟨⟨dx, k.k _ _ hd (by simpa using dn)⟩, k.t _ _ hc, by rw [upd_ne hne]; exact ho, ⟨_, upd_same, papp (evs_kp k hv) (.cons rfl .nil)⟩, hne, hln⟩
def sp_Disk_events (T : Tx P K mg) : Sp := fun vs H Q _ => ∃ d c o e cells octs evs, vs = [.ref d] ∧ Dsk T H d c o e cells octs evs ∧
  ∀ H' t, Kp [] H H' → EvT H' t evs → Q (.ref t) H'
--N 7
theorem ok_Disk_events (T : Tx P K mg) : FnOk P w K mg base (L2.CX P w) 1 T.f_Disk_events T.d_Disk_events ["self"] (sp_Disk_events T) := by
  refine T.F_Disk_events.ok (k := 0) sc_Disk_events (fun vs H Q E h => by obtain ⟨_, _, _, _, _, _, _, rfl, _⟩ := h; rfl) (fun cdv A outer s H vs Q E hr h => ?_)
  refine ⟨_, PSs.nox (pss_one (ps_ret (pe_callTy call_tuple_of rfl T.n_tuple (by decide +kernel) (pa_cons (pe_fld (pv 0) rfl) pa_nil)))), ?_⟩
  obtain ⟨d, c, o, e, cells, octs, evs, rfl, D, q⟩ := h
  obtain ⟨⟨dx, hd⟩, hc, ho, ⟨xs, he, hv⟩, hne, hln⟩ := D
  refine ⟨_, rfl, d, _, dx, _, .ref e, rfl, hd, T.clD, T.nD_events, lk_events .., e, xs, rfl, .inl ⟨SqL.of he, nw fun p H1 np k1 ep => ?_⟩⟩
  exact q H1 p k1 ⟨xs, ep, evs_kp k1 hv⟩
def sp_put_end (T : Tx P K mg) : Sp := fun vs H Q _ => ∃ d c o e cells octs evs at_ stop, vs = [.ref d, .int ((at_ : Nat) : Int), .int ((stop : Nat) : Int)] ∧ Dsk T H d c o e cells octs evs ∧ stop ≤ octs.length ∧ evs.length < 16000000 ∧
  ∀ H', Kp [o, e] H H' → Dsk T H' d c o e cells (appl octs (evEnd at_ stop)) (evs ++ evEnd at_ stop) → Q .non H'
--N 9
theorem ok_put_end (T : Tx P K mg) : FnOk P w K mg base (L2.CX P w) 2 T.f_put_end T.d_put_end ["disk", "at", "stop"] (sp_put_end T) := by
  refine T.F_put_end.ok (k := 1) sc_put_end (fun vs H Q E h => by obtain ⟨_, _, _, _, _, _, _, _, _, rfl, _⟩ := h; rfl) (fun cdv A outer s H vs Q E hr h => ?_)
  refine ⟨_, PSs.nox (pss_one (ps_if (pt_cmpR op_lt (pv 1) (pv 2) (nomark _))
 (pss_one (ps_expr (pe_meth (pv 0) T.clD T.m_Disk_put (ok_Disk_put T) (hr.mono (by decide)) T.b_Disk_put .nil passL (pa_cons (pv 1) (pa_cons pe_int pa_nil)))))
 pss_nil)), ?_⟩
  obtain ⟨d, c, o, e, cells, octs, evs, i, stop, rfl, D, h1, h2, q⟩ := h
  refine ⟨_, rfl, _, rfl, _, _, rfl, rfl, _, rfl, ?_⟩
  by_cases hi : i < stop
  · rw [decide_eq_true (by omega)]
    obtain ⟨dx, hd⟩ := D.ins
    refine iteT ⟨_, rfl, d, dx, _, rfl, hd, lk_put .., _, rfl, ?_⟩
    refine ⟨d, c, o, e, cells, octs, evs, i, 0, rfl, D, by omega, h2, fun H' k D' => q H' k ?_⟩
    unfold evEnd
    rw [if_pos hi]
    exact D'
  · rw [decide_eq_false (by omega)]
    refine iteF (q H .refl ?_)
    unfold evEnd
    rw [if_neg hi, List.append_nil]
    exact D
end
end KJ
end

section
namespace KJ
open PySem PySem.Spec PyProof.Rows L2 KM
section
variable {P : Program} {w : World} {K : PySem.W.Frag} {mg : Str → Option Value} {base : Heap}
def Oth (H : Hp) (v : V) : Prop := v = .non ∨ (∃ k, v = .bl k) ∨ (∃ x, v = .str x) ∨ ∃ a xs, v = .ref a ∧ H a = some (.tup xs)
theorem Oth.ty {K : PySem.W.Frag} {H : Hp} {v : V} (h : Oth H v) : ∃ t, TyX K H v (.type t) ∧ Sev t ∧ (t == "int") = false := by
  rcases h with rfl | ⟨k, rfl⟩ | ⟨x, rfl⟩ | ⟨a, xs, rfl, e⟩
  · exact ⟨"NoneType", .base .non, by simp [Sev], by decide⟩
  · exact ⟨"bool", .base (.bl _), by simp [Sev], by decide⟩
  · exact ⟨"str", .base (.str _), by simp [Sev], by decide⟩
  · exact ⟨"tuple", .base (.tup e), by simp [Sev], by decide⟩
def sp_is_number (T : Tx P K mg) : Sp := fun vs H Q _ => ∃ v, vs = [v] ∧ ((∃ n : Int, v = .int n ∧ Q (.bl (decide (0 ≤ n))) H) ∨ (Oth H v ∧ Q (.bl false) H))
--N 1
theorem ok_is_number (T : Tx P K mg) : FnOk P w K mg base (L2.CX P w) 2 T.f_is_number T.d_is_number ["value"] (sp_is_number T) := by
  refine T.F_is_number.ok (k := 1) sc_is_number (fun vs H Q E h => by obtain ⟨_, rfl, _⟩ := h; rfl) (fun cdv A outer s H vs Q E hr h => ?_)
  refine ⟨_, PSs.nox (pss_one (ps_ret (pe_and (pe_call (ok_is_integer T) (hr.mono (by decide)) rfl T.g_is_integer T.F_is_integer.kp T.b_is_integer .nil passL (pa_cons (pv 0) pa_nil)) (pe_one (pe_cmpR op_ge (pv 0) pe_int (nomark _)))))), ?_⟩
  obtain ⟨v, rfl, h⟩ := h
  rcases h with ⟨n, rfl, q⟩ | ⟨o, q⟩
  · exact ⟨_, rfl, _, "int", rfl, .base (.int _), by simp [Sev], _, rfl, iteT ⟨_, rfl, _, _, rfl, rfl, q⟩⟩
  · obtain ⟨t, ty, sv, e⟩ := o.ty (K := K)
    refine ⟨_, rfl, _, t, rfl, ty, sv, _, rfl, ?_⟩
    rw [e]
    exact iteF q
theorem CV.oth {H : Hp} {v : V} {b : Bool} (h : CV H v b) : (∃ n, v = .int n ∧ b = (decide (0 ≤ n) && decide (n < 256))) ∨ (Oth H v ∧ b = false) := by
  rcases h with h | ⟨e, h⟩
  · exact .inl h
  · exact .inr ⟨h, e⟩
def sp_is_octet (T : Tx P K mg) : Sp := fun vs H Q _ => ∃ v b, vs = [v] ∧ CV H v b ∧ Q (.bl b) H
--N 2
theorem ok_is_octet (T : Tx P K mg) : FnOk P w K mg base (L2.CX P w) 3 T.f_is_octet T.d_is_octet ["value"] (sp_is_octet T) := by
  refine T.F_is_octet.ok (k := 2) sc_is_octet (fun vs H Q E h => by obtain ⟨_, _, rfl, _⟩ := h; rfl) (fun cdv A outer s H vs Q E hr h => ?_)
  refine ⟨_, PSs.nox (pss_one (ps_ret (pe_and (pe_call (ok_is_number T) (hr.mono (by decide)) rfl T.g_is_number T.F_is_number.kp T.b_is_number .nil passL (pa_cons (pv 0) pa_nil)) (pe_one (pe_cmpR op_lt (pv 0) (pe_glob (v := .int 256) rfl T.i_OCTETS ⟨_, rfl⟩) (nomark _)))))), ?_⟩
  obtain ⟨v, b, rfl, cv, q⟩ := h
  rcases cv.oth with ⟨n, rfl, rfl⟩ | ⟨o, rfl⟩
  · refine ⟨_, rfl, _, rfl, .inl ⟨n, rfl, _, rfl, ?_⟩⟩
    by_cases hn : 0 ≤ n
    · rw [decide_eq_true hn] at q ⊢
      exact iteT ⟨_, rfl, _, _, rfl, rfl, q⟩
    · rw [decide_eq_false hn] at q ⊢
      exact iteF q
  · exact ⟨_, rfl, _, rfl, .inr ⟨o, _, rfl, iteF q⟩⟩
def BadC (T : Tx P K mg) (H : Hp) (v : V) : Prop := (∃ t, TyX K H v (.type t) ∧ PySem.W.kitOne K (.type t) (.type "tuple") = some false) ∨ ∃ c xs bs, v = .ref c ∧ H c = some (.tup xs) ∧ Paired (CV H) xs bs ∧ (¬ (1 ≤ xs.length ∧ xs.length ≤ 20000) ∨ bs.all id = false)
def sp_Disk_init (T : Tx P K mg) : Sp := fun vs H Q E => ∃ d dx v, vs = [.ref d, v] ∧ H d = some (.ins T.CD dx []) ∧
  ((∃ c cells, v = .ref c ∧ H c = some (.tup (cells.map V.int)) ∧ 1 ≤ cells.length ∧ cells.length ≤ 20000 ∧ (∀ x ∈ cells, Oct x) ∧ ∀ H' o e, Kp [d] H H' → H o = none → H e = none → Dsk T H' d c o e cells cells [] → Q .non H') ∨
    (BadC T H v ∧ ∀ H' d', Kp [] H H' → H d' = none → H' d' = some (.xd [(("word" : Str), .str "cells")]) → E (.ref T.CR) (some d') H'))
theorem oct_cv {H : Hp} {x : Int} (h : Oct x) : CV H (.int x) true := .inl ⟨x, rfl, by rw [decide_eq_true h.1, decide_eq_true (by have := h.2; omega)]; rfl⟩
theorem octs_cv {H : Hp} : ∀ {cells : List Int}, (∀ x ∈ cells, Oct x) → Paired (CV H) (cells.map V.int) (List.replicate cells.length true)
  | [], _ => .nil
  | x :: r, h => .cons (oct_cv (h x List.mem_cons_self)) (octs_cv fun y hy => h y (List.mem_cons_of_mem _ hy))
--N 3
theorem ok_Disk_init (T : Tx P K mg) : FnOk P w K mg base (L2.CX P w) 4 T.f_Disk_init T.d_Disk_init ["self", "cells"] (sp_Disk_init T) := by
  refine T.F_Disk_init.ok (k := 3) sc_Disk_init (fun vs H Q E h => by obtain ⟨_, _, _, rfl, _⟩ := h; rfl) (fun cdv A outer s H vs Q E hr h => ?_)
  refine ⟨_, (pss_cons (ps_if (PW.pt (pw_or (pt_not (pt_val (pe_callB call_isi rfl T.n_isinstance (by decide +kernel) (pa_cons (pv 1) (pa_cons (pe_bltn (v := .ty "tuple") rfl T.n_tuple (by decide +kernel) rfl) pa_nil))))) (pw_or1 (pt_not (pt_chain op_le op_le pe_int (pe_callB call_len_seq rfl T.n_len (by decide +kernel) (pa_cons (pv 1) pa_nil)) (pe_glob (v := .int 20000) rfl T.i_MOST_CELLS ⟨_, rfl⟩))))))
 (pss_one (ps_raiseW rfl T.eR.T hr (takes_of rfl rfl rfl rfl) (pa_cons pe_str pa_nil)))
 pss_nil)
 (pss_cons (ps_if (pt_not (pt_val (pe_callB (cr_all rfl) rfl T.n_all (by decide +kernel) (pa_cons (pe_lc (own := [("cell", 2)]) (g := gName 2) (tt := tYes) rfl sc_Disk_init.nd (pi_tup (pv 1)) (blkOk_by (own := [("cell", 2)]) (N := ["self", "cells", "cell"]) (sc := defScope sDisk_init) (by decide +kernel)) (fun _ _ _ _ _ => pg_name (i := 2) sc_Disk_init.nd rfl (Or.inl rfl)) (fun _ _ _ _ _ => pts_nil) (fun _ _ _ _ _ => (pe_call (ok_is_octet T) (hr.mono (by decide)) rfl T.g_is_octet T.F_is_octet.kp T.b_is_octet .nil passL (pa_cons (pv 2) pa_nil)))) pa_nil))))
 (pss_one (ps_raiseW rfl T.eR.T hr (takes_of rfl rfl rfl rfl) (pa_cons pe_str pa_nil)))
 pss_nil)
 (pss_cons (ps_fld (pv 0) (pv 1) rfl)
 (pss_cons (ps_fld (pv 0) (pe_callTy call_list_of rfl T.n_list (by decide +kernel) (pa_cons (pv 1) pa_nil)) rfl)
 (pss_one (ps_fld (pv 0) (pe_lst pa_nil) rfl)))))), ?_⟩
  obtain ⟨d, dx, v, rfl, hd, h⟩ := h
  -- a tuple of things to look at: the tests
  have tup : ∀ (c : Addr) (xs : List V) (bs : List Bool), v = .ref c → H c = some (.tup xs) → Paired (CV H) xs bs → 1 ≤ xs.length → xs.length ≤ 20000 → ∀ Q' : Bool → Hp → Prop, (∀ H', Kp [] H H' → Q' (bs.all id) H') →
      tB (tCB (rAll K) (tCons (tLc (iTup K (tVar 1)) (gName 2) tYes (tCall (sp_is_octet T) [] E0 (tCons (tVar 2) tNil)) [2]) tNil)) [some (.ref d), some v, none] H Q' := by
    intro c xs bs ev hc pb h1 h2 Q' hQ
    subst ev
    have hl := plen pb
    refine ⟨_, rfl, c, rfl, ⟨_, SqT.of hc⟩, fun D nD => lc_tup (K := K) (a := c) (xs := xs) (fun i H' => Kp [] H H' ∧ H' D = some (.lst ((bs.take i).map V.bl))) ⟨Kp.new nD, upd_same⟩ (fun i H' _ z => SqT.of (z.1.t _ _ hc)) (fun i x H' hx z => ?_) fun H' z => ?_⟩
    · obtain ⟨b, hb, cv⟩ := pget pb hx
      have hi : i < bs.length := (List.getElem?_eq_some_iff.mp hb).1
      refine ⟨rfl, x, rfl, x, b, rfl, cv.kp z.1, _, z.2, ?_, ?_⟩
      · rw [List.length_map, List.length_take]; exact small16 (by omega)
      · refine ⟨z.1.then (Kp.set (S := [D]) z.2 (by simp) (by intro _ q; cases q)) (fun y hy => .inr (by rw [List.mem_singleton.mp hy]; exact nD)), ?_⟩
        rw [upd_same, List.take_add_one, hb, List.map_append]
        rfl
    · refine ⟨D, bs, rfl, SqL.of ?_, _, rfl, hQ H' z.1⟩
      rw [z.2, List.take_of_length_le (by omega)]
  rcases h with ⟨c, cells, rfl, hc, h1, h2, ho, q⟩ | ⟨bad, q⟩
  · refine ⟨_, rfl, _, .ty "tuple", _, _, _, rfl, .ty _, .base (.tup hc), kit_ty (r := true) (by decide +kernel), _, rfl, iteF ?_⟩
    refine ⟨_, rfl, c, _, rfl, .inr (SqT.of hc), _, _, rfl, rfl, _, rfl, ?_⟩
    rw [List.length_map, decide_eq_true (by omega)]
    refine iteT ⟨_, _, rfl, rfl, _, rfl, ?_⟩
    rw [decide_eq_true (by omega)]
    refine iteF ?_
    refine tup c _ _ rfl hc (octs_cv ho) (by rw [List.length_map]; exact h1) (by rw [List.length_map]; exact h2) _ fun H1 k1 => ?_
    have e : (List.replicate cells.length true).all id = true := by rw [List.all_eq_true]; intro x hx; exact (List.mem_replicate.mp hx).2
    rw [e]
    refine iteF ?_
    have hd1 := k1.k _ _ hd (by simp)
    have hc1 := k1.t _ _ hc
    refine ⟨_, rfl, _, rfl, d, _, dx, _, rfl, hd1, T.clD, T.nDcells, by decide, ?_⟩
    have k2 : Kp [d] H1 (upd H1 d (.ins T.CD dx (putF "cells" (.ref c) []))) := Kp.set hd1 (by simp) (by intro _ z; cases z)
    have hd2 : upd H1 d (.ins T.CD dx (putF "cells" (.ref c) [])) d = some (.ins T.CD dx (putF "cells" (.ref c) [])) := upd_same
    generalize upd H1 d (.ins T.CD dx (putF "cells" (.ref c) [])) = H2 at k2 hd2 ⊢
    refine ⟨_, rfl, c, _, rfl, .inr (SqT.of (k2.t _ _ hc1)), fun o no => ?_⟩
    have k3 : Kp [] H2 (upd H2 o (.lst (cells.map V.int))) := Kp.new no
    have eo : upd H2 o (.lst (cells.map V.int)) o = some (.lst (cells.map V.int)) := upd_same
    generalize upd H2 o (.lst (cells.map V.int)) = H3 at k3 eo ⊢
    have hd3 := k3.k _ _ hd2 (by simp)
    refine ⟨_, rfl, d, _, dx, _, rfl, hd3, T.clD, T.nD_octets, Nat.lt_of_le_of_lt (length_putF _ _ _) (by decide), ?_⟩
    have k4 : Kp [d] H3 (upd H3 d (.ins T.CD dx (putF "_octets" (.ref o) (putF "cells" (.ref c) [])))) := Kp.set hd3 (by simp) (by intro _ z; cases z)
    have hd4 : upd H3 d (.ins T.CD dx (putF "_octets" (.ref o) (putF "cells" (.ref c) []))) d = some (.ins T.CD dx (putF "_octets" (.ref o) (putF "cells" (.ref c) []))) := upd_same
    generalize upd H3 d (.ins T.CD dx (putF "_octets" (.ref o) (putF "cells" (.ref c) []))) = H4 at k4 hd4 ⊢
    have eo4 : H4 o = some (.lst (cells.map V.int)) := k4.k _ _ eo (by simpa using ne_of eo hd3 (by intro z; cases z))
    refine ⟨Nat.zero_le _, fun e ne => ?_⟩
    have k5 : Kp [] H4 (upd H4 e (.lst [])) := Kp.new ne
    have ee : upd H4 e (.lst []) e = some (.lst []) := upd_same
    generalize upd H4 e (.lst []) = H5 at k5 ee ⊢
    have hd5 := k5.k _ _ hd4 (by simp)
    refine ⟨_, rfl, d, _, dx, _, rfl, hd5, T.clD, T.nD_events, Nat.lt_of_le_of_lt (length_putF _ _ _) (Nat.lt_of_le_of_lt (Nat.succ_le_succ (length_putF _ _ _)) (by decide)), ?_⟩
    have k6 : Kp [d] H5 (upd H5 d (.ins T.CD dx (putF "_events" (.ref e) (putF "_octets" (.ref o) (putF "cells" (.ref c) []))))) := Kp.set hd5 (by simp) (by intro _ z; cases z)
    have eo5 := k5.k _ _ eo4 (by simp)
    have doo := ne_of eo5 hd5 (by intro z; cases z)
    have dee := ne_of ee hd5 (by intro z; cases z)
    have ka : Kp [d] H H4 := (((k1.mono (fun _ z => absurd z (by simp))).trans k2).then0 k3).trans k4
    have kb := (ka.then0 k5).trans k6
    have dn : ∀ {H' : Hp}, ∀ s ∈ [d], H' s ≠ none ∨ H s = none → True := fun _ _ _ => trivial
    have no' : H o = none := ((k1.mono (S' := [d]) (fun _ z => absurd z (by simp))).trans k2).fresh no (fun s hs => .inl (by rw [List.mem_singleton.mp hs, hd2]; simp))
    have ne' : H e = none := ka.fresh ne (fun s hs => .inl (by rw [List.mem_singleton.mp hs, hd4]; simp))
    refine q _ o e kb no' ne' ⟨⟨dx, upd_same⟩, kb.t _ _ hc, ?_, ⟨[], ?_, .nil⟩, ?_, rfl⟩
    · rw [upd_ne doo]; exact eo5
    · rw [upd_ne dee]; exact ee
    · exact fun z => by rw [z, ne] at eo4; cases eo4
  · have rs : ∀ H1, Kp [] H H1 → tMkW T.CR (tCons (tC (.str "cells")) tNil) [some (.ref d), some v, none] H1 (fun cls d H' => E cls d H') := fun H1 k1 =>
      ⟨_, rfl, nw fun p H2 np k2 ep => q H2 p (k1.then0 k2) (k1.fresh0 np) ep⟩
    rcases bad with ⟨t, ty, kt⟩ | ⟨c, xs, bs, rfl, hc, pb, hb⟩
    · exact ⟨_, rfl, _, .ty "tuple", _, _, _, rfl, .ty _, ty, kt, _, rfl, iteT (iteT (rs H .refl))⟩
    · refine ⟨_, rfl, _, .ty "tuple", _, _, _, rfl, .ty _, .base (.tup hc), kit_ty (r := true) (by decide +kernel), _, rfl, iteF ?_⟩
      refine ⟨_, rfl, c, _, rfl, .inr (SqT.of hc), _, _, rfl, rfl, _, rfl, ?_⟩
      by_cases h1 : 1 ≤ xs.length
      · rw [decide_eq_true (by omega)]
        refine iteT ⟨_, _, rfl, rfl, _, rfl, ?_⟩
        by_cases h2 : xs.length ≤ 20000
        · rw [decide_eq_true (by omega)]
          refine iteF ?_
          refine tup c xs bs rfl hc pb h1 h2 _ fun H1 k1 => ?_
          rw [hb.resolve_left fun z => z ⟨h1, h2⟩]
          exact iteT (rs H1 k1)
        · rw [decide_eq_false (by omega)]
          exact iteT (rs H .refl)
      · rw [decide_eq_false (by omega)]
        exact iteF ⟨_, rfl, iteT (rs H .refl)⟩
end
end KJ
end

section
namespace KJ
open PySem PySem.Spec PyProof.Rows L2 KM
section
variable {P : Program} {w : World} {K : PySem.W.Frag} {mg : Str → Option Value} {base : Heap}
def needs (rs : List (List Int)) : List Int := rs.map fun r => 3 + (((r.map V.int).length : Nat) : Int)
theorem needs_sum : ∀ rs : List (List Int), (needs rs).sum = ((size rs : Nat) : Int)
  | [] => rfl
  | r :: rs => by
    show 3 + (((r.map V.int).length : Nat) : Int) + (needs rs).sum = _
    rw [needs_sum rs, size_cons, List.length_map]
    omega
def sp_needed_cells (T : Tx P K mg) : Sp := fun vs H Q _ => ∃ t rs, vs = [.ref t] ∧ RecT H t rs ∧ rs.length < 16000000 ∧ ∀ H', Kp [] H H' → Q (.int ((size rs : Nat) : Int)) H'
--N 2
theorem ok_needed_cells (T : Tx P K mg) : FnOk P w K mg base (L2.CX P w) 1 T.f_needed_cells T.d_needed_cells ["records"] (sp_needed_cells T) := by
  refine T.F_needed_cells.ok (k := 0) sc_needed_cells (fun vs H Q E h => by obtain ⟨_, _, rfl, _⟩ := h; rfl) (fun cdv A outer s H vs Q E hr h => ?_)
  refine ⟨_, PSs.nox (pss_one (ps_ret (pe_callB (cr_sum rfl) rfl T.n_sum (by decide +kernel) (pa_cons (pe_lc (own := [("record", 1)]) (g := gName 1) (tt := tYes) rfl sc_needed_cells.nd (pi_tup (pv 0)) (blkOk_by (own := [("record", 1)]) (N := ["records", "record"]) (sc := defScope s_needed_cells) (by decide +kernel)) (fun _ _ _ _ _ => pg_name (i := 1) sc_needed_cells.nd rfl (Or.inl rfl)) (fun _ _ _ _ _ => pts_nil) (fun _ _ _ _ _ => (pe_op op_add (pe_glob (v := .int 3) rfl T.i_HEAD ⟨_, rfl⟩) (pe_callB (r := rLenS K) call_len_seq rfl T.n_len (by decide +kernel) (pa_cons (pv 1) pa_nil))))) pa_nil)))), ?_⟩
  obtain ⟨t, rs, rfl, ⟨xs, ht, hv⟩, hl, q⟩ := h
  have le := plen hv
  refine ⟨_, rfl, t, rfl, ⟨_, SqT.of ht⟩, fun D nD => lc_tup (K := K) (a := t) (xs := xs) (fun i H' => Kp [] H H' ∧ H' D = some (.lst ((needs (rs.take i)).map V.int))) ⟨Kp.new nD, upd_same⟩ (fun i H' _ z => SqT.of (z.1.t _ _ ht)) (fun i x H' hx z => ?_) fun H' z => ?_⟩
  · obtain ⟨r, hr, a, rfl, ha⟩ := pget hv hx
    have hi : i < rs.length := (List.getElem?_eq_some_iff.mp hr).1
    refine ⟨rfl, _, rfl, a, _, rfl, .inr (SqT.of (z.1.t _ _ ha)), _, _, rfl, rfl, _, z.2, ?_, ?_⟩
    · rw [List.length_map, needs, List.length_map, List.length_take]; exact small16 (by omega)
    · refine ⟨z.1.then (Kp.set (S := [D]) z.2 (by simp) (by intro _ q; cases q)) (fun y hy => .inr (by rw [List.mem_singleton.mp hy]; exact nD)), ?_⟩
      rw [upd_same, List.take_add_one, hr]
      unfold needs
      rw [List.map_append, List.map_append]
      rfl
  · refine ⟨D, needs rs, rfl, SqL.of ?_, ?_⟩
    · rw [z.2, List.take_of_length_le (by omega)]
    · rw [needs_sum]
      exact q H' z.1
def sp_put_record (T : Tx P K mg) : Sp := fun vs H Q _ => ∃ d c o e cells octs evs at_ t r, vs = [.ref d, .int ((at_ : Nat) : Int), .ref t] ∧ Dsk T H d c o e cells octs evs ∧ H t = some (.tup (r.map V.int)) ∧ at_ + 3 + r.length ≤ octs.length ∧ evs.length + r.length + 2 < 16000000 ∧
  ∀ H', Kp [o, e] H H' → Dsk T H' d c o e cells (appl octs (evPut at_ r)) (evs ++ evPut at_ r) → Q (.int ((at_ + 3 + r.length : Nat) : Int)) H'
--N 10
theorem ok_put_record (T : Tx P K mg) : FnOk P w K mg base (L2.CX P w) 2 T.f_put_record T.d_put_record ["disk", "at", "record"] (sp_put_record T) := by
  refine T.F_put_record.ok (k := 1) sc_put_record (fun vs H Q E h => by obtain ⟨_, _, _, _, _, _, _, _, _, _, rfl, _⟩ := h; rfl) (fun cdv A outer s H vs Q E hr h => ?_)
  refine ⟨_, PSs.nox (pss_cons (ps_expr (pe_meth (pv 0) T.clD T.m_Disk_put (ok_Disk_put T) (hr.mono (by decide)) T.b_Disk_put .nil passL (pa_cons (pe_op op_add (pv 1) pe_int) (pa_cons (pe_op op_fdiv (pe_callB call_len_seq rfl T.n_len (by decide +kernel) (pa_cons (pv 2) pa_nil)) (pe_glob (v := .int 256) rfl T.i_OCTETS ⟨_, rfl⟩)) pa_nil))))
 (pss_cons (ps_expr (pe_meth (pv 0) T.clD T.m_Disk_put (ok_Disk_put T) (hr.mono (by decide)) T.b_Disk_put .nil passL (pa_cons (pe_op op_add (pv 1) pe_int) (pa_cons (pe_op op_mod (pe_callB call_len_seq rfl T.n_len (by decide +kernel) (pa_cons (pv 2) pa_nil)) (pe_glob (v := .int 256) rfl T.i_OCTETS ⟨_, rfl⟩)) pa_nil))))
 (pss_cons (ps_for PassesOwn.never rfl (pi_enumT rfl T.n_enumerate (pa_cons (pv 2) pa_nil)) (pg_tup rfl (pgs_cons (pg_name (i := 3) sc_put_record.nd rfl (Or.inl rfl)) (pgs_cons (pg_name (i := 4) sc_put_record.nd rfl (Or.inl rfl)) pgs_nil)))
 (pss_one (ps_expr (pe_meth (pv 0) T.clD T.m_Disk_put (ok_Disk_put T) (hr.mono (by decide)) T.b_Disk_put .nil passL (pa_cons (pe_op op_add (pe_op op_add (pv 1) (pe_glob (v := .int 3) rfl T.i_HEAD ⟨_, rfl⟩)) (pv 3)) (pa_cons (pv 4) pa_nil))))))
 (pss_one (ps_ret (pe_op op_add (pe_op op_add (pv 1) (pe_glob (v := .int 3) rfl T.i_HEAD ⟨_, rfl⟩)) (pe_callB call_len_seq rfl T.n_len (by decide +kernel) (pa_cons (pv 2) pa_nil)))))))), ?_⟩
  obtain ⟨d, c, o, e, cells, octs, evs, i, t, r, rfl, D, ht, h1, h2, q⟩ := h
  have lr : (r.map V.int).length = r.length := List.length_map _
  obtain ⟨dx, hd⟩ := D.ins
  have c1 : (((r.map V.int).length : Nat) : Int) / 256 = ((r.length / 256 : Nat) : Int) := by rw [lr]; rfl
  have c2 : (((r.map V.int).length : Nat) : Int) % 256 = ((r.length % 256 : Nat) : Int) := by rw [lr]; rfl
  refine ⟨_, rfl, d, dx, _, rfl, hd, lk_put .., _, rfl, _, _, rfl, rfl, _, rfl, t, _, rfl, .inr (SqT.of ht), _, _, rfl, rfl, ⟨by decide, by decide⟩, ?_⟩
  refine ⟨d, c, o, e, cells, octs, evs, i + 1, ((r.length / 256 : Nat) : Int), by rw [← c1]; rfl, D, by omega, by omega, fun H1 k1 D1 => ?_⟩
  obtain ⟨dx1, hd1⟩ := D1.ins
  refine ⟨_, rfl, d, dx1, _, rfl, hd1, lk_put .., _, rfl, _, _, rfl, rfl, _, rfl, t, _, rfl, .inr (SqT.of (k1.t _ _ ht)), _, _, rfl, rfl, (by show (0 : Int) < 256; decide), ?_⟩
  refine ⟨d, c, o, e, cells, _, _, i + 2, ((r.length % 256 : Nat) : Int), by rw [← c2]; rfl, D1, by rw [List.length_set]; omega, by rw [List.length_append]; simp only [List.length_cons, List.length_nil]; omega, fun H2 k2 D2 => ?_⟩
  have k12 := k1.trans k2
  -- the octets, one by one
  refine ⟨_, rfl, t, _, rfl, SqT.of (k12.t _ _ ht), for_enumT (K := K) (a := t) (xs := r.map V.int) (fun j σ H' => (∃ a b, σ = [some (.ref d), some (.int ((i : Nat) : Int)), some (.ref t), a, b]) ∧ Kp [o, e] H H' ∧
    Dsk T H' d c o e cells (appl ((octs.set (i + 1) ((r.length / 256 : Nat) : Int)).set (i + 2) ((r.length % 256 : Nat) : Int)) (datEv (i + 3) (r.take j))) (evs ++ [some (i + 1, ((r.length / 256 : Nat) : Int))] ++ [some (i + 2, ((r.length % 256 : Nat) : Int))] ++ datEv (i + 3) (r.take j)))
    ⟨⟨none, none, rfl⟩, k12, by rw [List.take_zero]; simpa [datEv, appl] using D2⟩ (fun j σ H' _ z => SqT.of (z.2.1.t _ _ ht)) (fun j x p σ H' hx z np => ?_) fun σ H' z => ?_⟩
  · obtain ⟨⟨a, b, rfl⟩, k, D'⟩ := z
    rw [List.getElem?_map] at hx
    cases hy : r[j]? with
    | none => rw [hy] at hx; cases hx
    | some y =>
      rw [hy] at hx
      obtain rfl : V.int y = x := Option.some.inj hx
      have hj : j < r.length := (List.getElem?_eq_some_iff.mp hy).1
      have lt : (r.take j).length = j := by rw [List.length_take]; omega
      have k3 : Kp [] H' (upd H' p (.tup [.int ((j : Nat) : Int), .int y])) := Kp.new np
      have ep : upd H' p (.tup [.int ((j : Nat) : Int), .int y]) p = some (.tup [.int ((j : Nat) : Int), .int y]) := upd_same
      generalize upd H' p (.tup [.int ((j : Nat) : Int), .int y]) = H3 at k3 ep ⊢
      have D3 := D'.kp0 k3
      obtain ⟨dx3, hd3⟩ := D3.ins
      refine ⟨p, _, rfl, SqT.of ep, rfl, _, _, rfl, _, _, rfl, rfl, ?_⟩
      refine ⟨_, rfl, d, dx3, _, rfl, hd3, lk_put .., _, rfl, _, _, rfl, rfl, _, rfl, _, _, rfl, rfl, _, rfl, ?_⟩
      have dl : ∀ (l : List Int) (a : Nat), (datEv a l).length = l.length := fun l => by
        induction l with
        | nil => intro a; rfl
        | cons y l ih => intro a; show (datEv (a + 1) l).length + 1 = _; rw [ih]; rfl
      refine ⟨d, c, o, e, cells, _, _, i + 3 + j, y, rfl, D3, ?_, ?_, fun H4 k4 D4 => ⟨⟨_, _, rfl⟩, (k.then0 k3).trans k4, ?_⟩⟩
      · rw [appl_length, List.length_set, List.length_set]; omega
      · simp only [List.length_append, List.length_cons, List.length_nil, dl, lt]; omega
      · rw [List.take_add_one, hy]
        show Dsk T H4 d c o e cells (appl _ (datEv (i + 3) (r.take j ++ [y]))) (_ ++ datEv (i + 3) (r.take j ++ [y]))
        rw [datEv_snoc, lt, appl_append, ← List.append_assoc]
        exact D4
  · obtain ⟨⟨a, b, rfl⟩, k, D'⟩ := z
    rw [lr, List.take_of_length_le (Nat.le_refl _)] at D'
    refine ⟨_, rfl, _, _, rfl, rfl, _, rfl, t, _, rfl, .inr (SqT.of (k.t _ _ ht)), _, _, rfl, rfl, ?_⟩
    rw [lr]
    refine q H' k ?_
    simpa [evPut, appl, app1, List.append_assoc] using D'
end
end KJ
end

section
namespace KJ
open PySem PySem.Spec PyProof.Rows L2 KM
section
variable {P : Program} {w : World} {K : PySem.W.Frag} {mg : Str → Option Value} {base : Heap}
theorem chn_rest {c : List Int} {stop a m : Nat} {rs : List (List Int)} (h : Chn c stop a rs m) : ∀ {ss : List (List Int)} {e : Nat}, Par c stop a ss e → ∃ ss' e', Par c stop m ss' e' := by
  induction h with
  | nil a => intro ss e q; exact ⟨ss, e, q⟩
  | cons g t ih =>
    intro ss e q
    obtain ⟨q, f⟩ := q
    cases q with
    | nil => exact absurd ⟨by have := g.room; omega, g.mark⟩ f
    | cons g' t' =>
      obtain rfl := g.uniq g'
      exact ih ⟨t', f⟩
theorem par_next {c : List Int} {stop m e : Nat} {ss : List (List Int)} (h : Par c stop m ss e) (h1 : m < stop) (h2 : 0 < c.getD m 0) : ∃ r, RecAt c stop m r := by
  obtain ⟨q, f⟩ := h
  cases q with
  | nil => exact absurd ⟨h1, h2⟩ f
  | cons g t => exact ⟨_, g⟩
theorem oct_at {c : List Int} (ho : ∀ x ∈ c, Oct x) (i : Nat) : Oct (c.getD i 0) := by
  by_cases h : i < c.length
  · rw [List.getD_eq_getElem?_getD, List.getElem?_eq_getElem h]
    exact ho _ (List.getElem_mem h)
  · rw [getD_out c i (by omega)]; constructor <;> decide
def sp_records_from (T : Tx P K mg) : Sp := fun vs H Q E => ∃ d c o e cells octs evs start_ stop, vs = [.ref d, .int ((start_ : Nat) : Int), .int ((stop : Nat) : Int)] ∧ Dsk T H d c o e cells octs evs ∧ start_ ≤ stop ∧ stop ≤ octs.length ∧ octs.length ≤ 20000 ∧ (∀ x ∈ octs, Oct x) ∧
  (∀ rs e' H' t r, Par octs stop start_ rs e' → Kp [] H H' → H r = none → H' t = some (.tup [.ref r, .int ((e' : Nat) : Int)]) → (∃ xs, H' r = some (.lst xs) ∧ RecsV H' xs rs) → Q (.ref t) H') ∧
  ((∀ rs e', ¬ Par octs stop start_ rs e') → ∀ H' d', Kp [] H H' → H d' = none → H' d' = some (.xd [(("word" : Str), .str "journal")]) → E (.ref T.CB) (some d') H')
--N 9
theorem ok_records_from (T : Tx P K mg) : FnOk P w K mg base (L2.CX P w) 2 T.f_records_from T.d_records_from ["disk", "start", "stop"] (sp_records_from T) := by
  refine T.F_records_from.ok (k := 1) sc_records_from (fun vs H Q E h => by obtain ⟨_, _, _, _, _, _, _, _, _, rfl, _⟩ := h; rfl) (fun cdv A outer s H vs Q E hr h => ?_)
  refine ⟨_, (pss_cons (ps_par (i := 3) (j := 4) rfl sc_records_from.nd rfl rfl (by decide) rfl rfl (pa_cons (pe_lst pa_nil) (pa_cons (pv 1) pa_nil)) (by rfl))
 (pss_cons (ps_while (passes_of rfl) (PW.pt (pw_and (pt_cmpR op_lt (pv 4) (pv 2) (nomark _)) (pw_and1 (pt_cmpR op_gt (pe_meth (pv 0) T.clD T.m_Disk_look (ok_Disk_look T) (hr.mono (by decide)) T.b_Disk_look .nil passL (pa_cons (pv 4) pa_nil)) pe_int (nomark _)))))
 (pss_cons (ps_set (i := 5) sc_records_from.nd rfl (Or.inl rfl) (pe_op op_add (pv 4) (pe_glob (v := .int 3) rfl T.i_HEAD ⟨_, rfl⟩)))
 (pss_cons (ps_if (pt_cmpR op_gt (pv 5) (pv 2) (nomark _))
 (pss_one (ps_raiseW rfl T.eB.T hr (takes_of rfl rfl rfl rfl) (pa_cons pe_str pa_nil)))
 pss_nil)
 (pss_cons (ps_set (i := 6) sc_records_from.nd rfl (Or.inl rfl) (pe_op op_add (pe_op op_add (pv 5) (pe_op op_mul (pe_meth (pv 0) T.clD T.m_Disk_look (ok_Disk_look T) (hr.mono (by decide)) T.b_Disk_look .nil passL (pa_cons (pe_op op_add (pv 4) pe_int) pa_nil)) (pe_glob (v := .int 256) rfl T.i_OCTETS ⟨_, rfl⟩))) (pe_meth (pv 0) T.clD T.m_Disk_look (ok_Disk_look T) (hr.mono (by decide)) T.b_Disk_look .nil passL (pa_cons (pe_op op_add (pv 4) pe_int) pa_nil))))
 (pss_cons (ps_if (pt_cmpR op_gt (pv 6) (pv 2) (nomark _))
 (pss_one (ps_raiseW rfl T.eB.T hr (takes_of rfl rfl rfl rfl) (pa_cons pe_str pa_nil)))
 pss_nil)
 (pss_cons (ps_expr (pe_bm PySem.F.plainAttrs_list PySem.F.slot_list_append PySem.F.type_list_append mt_append (pv 3) (pa_cons (pe_callTy call_tuple_of rfl T.n_tuple (by decide +kernel) (pa_cons (pe_lc (own := [("place", 7)]) (g := gName 7) (tt := tYes) rfl sc_records_from.nd (pi_range2 rfl T.n_range (pa_cons (pv 5) (pa_cons (pv 6) pa_nil))) (blkOk_by (own := [("place", 7)]) (N := ["disk", "start", "stop", "found", "at", "first", "behind", "place"]) (sc := defScope s_records_from) (by decide +kernel)) (fun _ _ _ _ _ => pg_name (i := 7) sc_records_from.nd rfl (Or.inl rfl)) (fun _ _ _ _ _ => pts_nil) (fun _ _ _ _ _ => (pe_meth (pv 0) T.clD T.m_Disk_look (ok_Disk_look T) (hr.mono (by decide)) T.b_Disk_look .nil passL (pa_cons (pv 7) pa_nil)))) pa_nil)) pa_nil)))
 (pss_one (ps_set (i := 4) sc_records_from.nd rfl (Or.inl rfl) (pv 6)))))))))
 (pss_one (ps_ret (pe_tup (pa_cons (pv 3) (pa_cons (pv 4) pa_nil))))))), ?_⟩
  obtain ⟨d, c, o, e, cells, octs, evs, start_, stop, rfl, D, h1, h2, h3, ho, q, qE⟩ := h
  refine ⟨Nat.zero_le _, fun fo nfo => ?_⟩
  have k0 : Kp [] H (upd H fo (.lst [])) := Kp.new nfo
  have e0 : upd H fo (.lst []) fo = some (.lst []) := upd_same
  generalize upd H fo (.lst []) = H0 at k0 e0 ⊢
  refine ⟨_, rfl, _, _, rfl, ?_⟩
  refine ⟨fun m σ H' => ∃ (i : Nat) (xs : List V) (rs : List (List Int)) (a5 a6 a7 : Option V), m = stop - i ∧ σ = [some (.ref d), some (.int ((start_ : Nat) : Int)), some (.int ((stop : Nat) : Int)), some (.ref fo), some (.int ((i : Nat) : Int)), a5, a6, a7] ∧
    Kp [] H H' ∧ H' fo = some (.lst xs) ∧ RecsV H' xs rs ∧ Chn octs stop start_ rs i ∧ i ≤ stop ∧ rs.length ≤ i, ⟨_, start_, [], [], none, none, none, rfl, rfl, k0, e0, .nil, .nil _, h1, Nat.zero_le _⟩, ?_⟩
  rintro m σ H1 ⟨i, xs, rs, a5, a6, a7, rfl, rfl, k1, e1, rv, ch, hi, hl⟩
  have D1 := D.kp0 k1
  obtain ⟨dx, hd⟩ := D1.ins
  have fin : ¬ (i < stop ∧ 0 < octs.getD i 0) → ∀ H2, Kp [] H1 H2 → (tRet (tTup (tCons (tVar 3) (tCons (tVar 4) tNil)))) { nx := fun _ H' => Q .non H', rt := Q } [some (.ref d), some (.int ((start_ : Nat) : Int)), some (.int ((stop : Nat) : Int)), some (.ref fo), some (.int ((i : Nat) : Int)), a5, a6, a7] H2 := fun hf H2 k2 => by
    refine ⟨_, rfl, _, rfl, two_size, fun t nt => ?_⟩
    have k3 : Kp [] H2 (upd H2 t (.tup [.ref fo, .int ((i : Nat) : Int)])) := Kp.new nt
    have e3 : upd H2 t (.tup [.ref fo, .int ((i : Nat) : Int)]) t = some (.tup [.ref fo, .int ((i : Nat) : Int)]) := upd_same
    generalize upd H2 t (.tup [.ref fo, .int ((i : Nat) : Int)]) = H3 at k3 e3 ⊢
    exact q rs i H3 t fo ⟨ch, hf⟩ ((k1.trans k2).trans k3) nfo e3 ⟨xs, k3.k _ _ (k2.k _ _ e1 (by simp)) (by simp), recs_kp k3 (recs_kp k2 rv)⟩
  refine ⟨_, rfl, _, rfl, _, _, rfl, rfl, _, rfl, ?_⟩
  by_cases hs : i < stop
  · rw [decide_eq_true (by omega)]
    refine iteT ⟨_, rfl, d, dx, _, rfl, hd, lk_look .., _, rfl, ?_⟩
    refine ⟨d, c, o, e, cells, octs, evs, i, rfl, D1, by omega, _, _, rfl, rfl, _, rfl, ?_⟩
    by_cases hm : 0 < octs.getD i 0
    · rw [decide_eq_true hm]
      have no : (∀ r, ¬ RecAt octs stop i r) → ∀ ss e', ¬ Par octs stop start_ ss e' := fun f ss e' p => by
        obtain ⟨s2, e2, p2⟩ := chn_rest ch p
        obtain ⟨r, hr⟩ := par_next p2 hs hm
        exact f r hr
      refine ⟨fun σ' H' => ∃ m', m' < stop - i ∧ ∃ (i : Nat) (xs : List V) (rs : List (List Int)) (a5 a6 a7 : Option V), m' = stop - i ∧ σ' = [some (.ref d), some (.int ((start_ : Nat) : Int)), some (.int ((stop : Nat) : Int)), some (.ref fo), some (.int ((i : Nat) : Int)), a5, a6, a7] ∧
        Kp [] H H' ∧ H' fo = some (.lst xs) ∧ RecsV H' xs rs ∧ Chn octs stop start_ rs i ∧ i ≤ stop ∧ rs.length ≤ i, fun σ' H' z => z, ?_⟩
      refine ⟨_, rfl, _, _, rfl, rfl, ?_⟩
      refine ⟨_, rfl, _, rfl, _, _, rfl, rfl, _, rfl, ?_⟩
      have rs_ : ∀ H2 (τ : L2.St), Kp [] H1 H2 → (∀ r, ¬ RecAt octs stop i r) → tMkW T.CB (tCons (tC (.str "journal")) tNil) τ H2 (fun cls d H' => E cls d H') := fun H2 τ k2 f => by
        refine ⟨_, rfl, fun p np => ?_⟩
        have k3 : Kp [] H2 (upd H2 p (.xd [(("word" : Str), .str "journal")])) := Kp.new np
        have e3 : upd H2 p (.xd [(("word" : Str), .str "journal")]) p = some (.xd [(("word" : Str), .str "journal")]) := upd_same
        generalize upd H2 p (.xd [(("word" : Str), .str "journal")]) = H3 at k3 e3 ⊢
        exact qE (no f) H3 p ((k1.trans k2).then0 k3) ((k1.trans k2).fresh0 np) e3
      by_cases hf : i + 3 ≤ stop
      · rw [decide_eq_false (by omega)]
        refine iteF ?_
        have o1 := oct_at ho (i + 1)
        have o2 := oct_at ho (i + 2)
        obtain ⟨b1, e1'⟩ : ∃ b1 : Nat, octs.getD (i + 1) 0 = (b1 : Int) := ⟨(octs.getD (i + 1) 0).toNat, by have := o1.1; omega⟩
        obtain ⟨b2, e2'⟩ : ∃ b2 : Nat, octs.getD (i + 2) 0 = (b2 : Int) := ⟨(octs.getD (i + 2) 0).toNat, by have := o2.1; omega⟩
        have l1 : b1 ≤ 255 := by have := o1.2; omega
        have l2 : b2 ≤ 255 := by have := o2.2; omega
        refine ⟨_, rfl, _, rfl, d, dx, _, rfl, hd, lk_look .., _, rfl, _, _, rfl, rfl, d, c, o, e, cells, octs, evs, i + 1, rfl, D1, by omega, ?_⟩
        rw [e1']
        refine ⟨_, _, rfl, rfl, .inl ⟨by omega, by omega⟩, _, _, rfl, rfl, _, rfl, d, dx, _, rfl, hd, lk_look .., _, rfl, _, _, rfl, rfl, d, c, o, e, cells, octs, evs, i + 2, rfl, D1, by omega, ?_⟩
        rw [e2']
        refine ⟨_, _, rfl, rfl, ?_⟩
        have eb : (((i : Nat) : Int) + 3 + (b1 : Int) * 256 + (b2 : Int)) = ((i + 3 + (b1 * 256 + b2) : Nat) : Int) := by omega
        simp only [gName]
        rw [eb]
        refine ⟨_, rfl, _, rfl, _, _, rfl, rfl, _, rfl, ?_⟩
        have len_ : ∀ {r}, RecAt octs stop i r → r.length = b1 * 256 + b2 := fun {r} h => by
          have := h.len
          rw [e1', e2'] at this
          omega
        by_cases hb : i + 3 + (b1 * 256 + b2) ≤ stop
        · rw [decide_eq_false (by omega)]
          refine iteF ?_
          generalize el : b1 * 256 + b2 = n at *
          let r : List Int := (List.range n).map fun j => octs.getD (i + 3 + j) 0
          have lr : r.length = n := by simp [r]
          have hr : RecAt octs stop i r := ⟨hm, by rw [lr]; exact hb, by rw [e1', e2', lr]; omega, fun j hj => by
            rw [lr] at hj
            rw [List.getD_eq_getElem?_getD (l := r), List.getElem?_eq_getElem (by rw [lr]; exact hj)]
            simp [r]⟩
          refine ⟨_, rfl, .inl ⟨rfl, _, SqL.of e1⟩, ?_⟩
          refine ⟨_, rfl, _, rfl, _, _, rfl, ⟨by omega, by omega, by omega, by omega⟩, fun L nL => ?_⟩
          have en : ((((i + 3 + n : Nat) : Int) - (((i : Nat) : Int) + 3)).toNat) = n := by omega
          rw [en]
          refine lc_range (lo := ((i : Nat) : Int) + 3) (n := n) (fun j H' => Kp [] H1 H' ∧ H' L = some (.lst ((r.take j).map V.int))) ⟨Kp.new nL, upd_same⟩ (fun j H' hj z => ?_) fun H' z => ?_
          · have D2 := D1.kp0 z.1
            obtain ⟨dx2, hd2⟩ := D2.ins
            refine ⟨rfl, _, rfl, d, dx2, _, rfl, hd2, lk_look .., _, rfl, d, c, o, e, cells, octs, evs, i + 3 + j, rfl, D2, by omega, _, z.2, ?_, ?_⟩
            · rw [List.length_map, List.length_take]; exact small16 (by omega)
            · refine ⟨z.1.then (Kp.set (S := [L]) z.2 (by simp) (by intro _ q; cases q)) (fun y hy => .inr (by rw [List.mem_singleton.mp hy]; exact nL)), ?_⟩
              have ej : r[j]? = some (octs.getD (i + 3 + j) 0) := by simp [r, hj]
              rw [upd_same, List.take_add_one, ej, List.map_append]
              rfl
          · have eL : H' L = some (.lst (r.map V.int)) := by rw [z.2, List.take_of_length_le (by omega)]
            refine ⟨L, _, rfl, .inl ⟨SqL.of eL, fun t nt => ?_⟩⟩
            have k3 : Kp [] H' (upd H' t (.tup (r.map V.int))) := Kp.new nt
            have e3 : upd H' t (.tup (r.map V.int)) t = some (.tup (r.map V.int)) := upd_same
            generalize upd H' t (.tup (r.map V.int)) = H3 at k3 e3 ⊢
            have k13 := z.1.trans k3
            have f3 := k13.k _ _ e1 (by simp)
            refine ⟨fo, xs, .ref t, rfl, rfl, f3, by rw [plen rv]; exact small16 (by omega), ?_⟩
            have k4 : Kp [fo] H3 (upd H3 fo (.lst (xs ++ [.ref t]))) := Kp.set f3 (by simp) (by intro _ z; cases z)
            have e4 : upd H3 fo (.lst (xs ++ [.ref t])) fo = some (.lst (xs ++ [.ref t])) := upd_same
            have kk : Kp [] H (upd H3 fo (.lst (xs ++ [.ref t]))) := (k1.trans k13).then k4 (fun y hy => .inr (by rw [List.mem_singleton.mp hy]; exact nfo))
            refine ⟨_, rfl, _, by omega, i + 3 + n, xs ++ [.ref t], rs ++ [r], _, _, _, rfl, rfl, kk, e4, papp (recs_kp k4 (recs_kp k13 rv)) (.cons ⟨t, rfl, k4.t _ _ e3⟩ .nil), ?_, hb, ?_⟩
            · have := ch.append (.cons hr (.nil _))
              rw [lr] at this
              exact this
            · rw [List.length_append, List.length_singleton]; omega
        · rw [decide_eq_true (by omega)]
          exact iteT (rs_ H1 _ .refl fun r hr => by have := hr.room; have := len_ hr; omega)
      · rw [decide_eq_true (by omega)]
        exact iteT (rs_ H1 _ .refl fun r hr => by have := hr.room; omega)
    · rw [decide_eq_false hm]
      exact fin (fun z => hm z.2) H1 .refl
  · rw [decide_eq_false (by omega)]
    exact iteF (fin (fun z => hs z.1) H1 .refl)
end
end KJ
end

section
namespace KJ
open PySem PySem.Spec PyProof.Rows L2 KM
section
variable {P : Program} {w : World} {K : PySem.W.Frag} {mg : Str → Option Value} {base : Heap}
def sp_Journal_init (T : Tx P K mg) : Sp := fun vs H Q E => ∃ j jx d c o e cells octs evs, vs = [.ref j, .ref d] ∧ H j = some (.ins T.CJ jx []) ∧ Dsk T H d c o e cells octs evs ∧ 1 ≤ cells.length ∧ cells.length ≤ 20000 ∧ (∀ x ∈ octs, Oct x) ∧
  (∀ rs H' r, Jp octs rs → Kp [j] H H' → H r = none → Jrn T H' j d r (sideOf octs) rs (hs octs.length (sideOf octs) + size rs) → Q .non H') ∧
  ((∀ rs, ¬ Jp octs rs) → ∀ H' d', Kp [j] H H' → H d' = none → H' d' = some (.xd [(("word" : Str), .str "journal")]) → E (.ref T.CB) (some d') H')
--N 9
theorem ok_Journal_init (T : Tx P K mg) : FnOk P w K mg base (L2.CX P w) 3 T.f_Journal_init T.d_Journal_init ["self", "disk"] (sp_Journal_init T) := by
  refine T.F_Journal_init.ok (k := 2) sc_Journal_init (fun vs H Q E h => by obtain ⟨_, _, _, _, _, _, _, _, _, rfl, _⟩ := h; rfl) (fun cdv A outer s H vs Q E hr h => ?_)
  refine ⟨_, (pss_cons (ps_fld (pv 0) (pv 1) rfl)
 (pss_cons (ps_fld (pv 0) (pe_op op_mod (pe_meth (pv 1) T.clD T.m_Disk_look (ok_Disk_look T) (hr.mono (by decide)) T.b_Disk_look .nil passL (pa_cons pe_int pa_nil)) pe_int) rfl)
 (pss_one (ps_asg (pe_call (ok_records_from T) (hr.mono (by decide)) rfl T.g_records_from T.F_records_from.kp T.b_records_from .nil (passes_call (takes_of rfl rfl rfl rfl) (fun _ _ _ _ h => h)) (pa_cons (pv 1) (pa_cons (pe_call (ok_half_start T) (hr.mono (by decide)) rfl T.g_half_start T.F_half_start.kp T.b_half_start .nil passL (pa_cons (pv 1) (pa_cons (pe_fld (pv 0) rfl) pa_nil))) (pa_cons (pe_call (ok_half_start T) (hr.mono (by decide)) rfl T.g_half_start T.F_half_start.kp T.b_half_start .nil passL (pa_cons (pv 1) (pa_cons (pe_op op_add (pe_fld (pv 0) rfl) pe_int) pa_nil))) pa_nil)))) (pg_tup rfl (pgs_cons (pg_fld (pv 0)) (pgs_cons (pg_fld (pv 0)) pgs_nil))))))), ?_⟩
  obtain ⟨j, jx, d, c, o, e, cells, octs, evs, rfl, hj, D, h1, h2, ho, q, qE⟩ := h
  have ln := D.ln
  refine ⟨_, rfl, _, rfl, j, _, jx, _, rfl, hj, T.clJ, T.nJdisk, by decide, ?_⟩
  have k1 : Kp [j] H (upd H j (.ins T.CJ jx (putF "disk" (.ref d) []))) := Kp.set hj (by simp) (by intro _ z; cases z)
  have hj1 : upd H j (.ins T.CJ jx (putF "disk" (.ref d) [])) j = some (.ins T.CJ jx (putF "disk" (.ref d) [])) := upd_same
  generalize upd H j (.ins T.CJ jx (putF "disk" (.ref d) [])) = H1 at k1 hj1 ⊢
  obtain ⟨dx, hd⟩ := D.ins
  have djd : d ≠ j := ne_of hd hj (by intro z; exact T.neDJ (HO.ins.inj z).1)
  have djo : o ≠ j := ne_of D.oct hj (by intro z; cases z)
  have dje : e ≠ j := let ⟨_, he, _⟩ := D.evl; ne_of he hj (by intro z; cases z)
  have D1 : Dsk T H1 d c o e cells octs evs := D.kp k1 (by simpa using djd) (by simpa using djo) (by simpa using dje)
  obtain ⟨dx1, hd1⟩ := D1.ins
  refine ⟨_, rfl, d, dx1, _, rfl, hd1, lk_look .., d, c, o, e, cells, octs, evs, 0, rfl, D1, by omega, _, _, rfl, rfl, (by show (0 : Int) < 2; decide), ?_⟩
  simp only [tVar]
  rw [← sideOf_int]
  refine ⟨_, rfl, j, _, jx, _, rfl, hj1, T.clJ, T.nJ_side, Nat.lt_of_le_of_lt (length_putF _ _ _) (by decide), ?_⟩
  have k2 : Kp [j] H1 (upd H1 j (.ins T.CJ jx (putF "_side" (.int ((sideOf octs : Nat) : Int)) (putF "disk" (.ref d) [])))) := Kp.set hj1 (by simp) (by intro _ z; cases z)
  have hj2 : upd H1 j (.ins T.CJ jx (putF "_side" (.int ((sideOf octs : Nat) : Int)) (putF "disk" (.ref d) []))) j = some (.ins T.CJ jx (putF "_side" (.int ((sideOf octs : Nat) : Int)) (putF "disk" (.ref d) []))) := upd_same
  generalize upd H1 j (.ins T.CJ jx (putF "_side" (.int ((sideOf octs : Nat) : Int)) (putF "disk" (.ref d) []))) = H2 at k2 hj2 ⊢
  have D2 : Dsk T H2 d c o e cells octs evs := D1.kp k2 (by simpa using djd) (by simpa using djo) (by simpa using dje)
  have lks : List.lookup ("_side" : Str) (putF "_side" (.int ((sideOf octs : Nat) : Int)) (putF "disk" (.ref d) [])) = some (.int ((sideOf octs : Nat) : Int)) := by rw [lookup_putF, if_pos rfl]
  have sl := sideOf_lt octs
  refine ⟨_, rfl, _, rfl, _, rfl, j, _, jx, _, _, rfl, hj2, T.clJ, T.nJ_side, lks, d, c, o, e, cells, octs, evs, sideOf octs, rfl, D2, by omega, h2, h1, ?_⟩
  refine ⟨_, rfl, _, rfl, j, _, jx, _, _, rfl, hj2, T.clJ, T.nJ_side, lks, _, _, rfl, rfl, d, c, o, e, cells, octs, evs, sideOf octs + 1, rfl, D2, by omega, h2, h1, ?_⟩
  have k12 := k1.trans k2
  refine ⟨d, c, o, e, cells, octs, evs, hs cells.length (sideOf octs), hs cells.length (sideOf octs + 1), rfl, D2, hs_mono _ (Nat.le_succ _), by rw [ln]; exact hs_le h1 (by omega), by rw [ln]; exact h2, ho, fun rs e' H3 t r p k3 nr et hr => ?_, fun no H3 d' k3 nd ed => ?_⟩
  · rw [← ln] at p
    have ee := p.ch.fin
    subst ee
    have hj3 := k3.k _ _ hj2 (by simp)
    refine ⟨t, _, rfl, SqT.of et, rfl, _, _, rfl, ?_⟩
    refine ⟨_, rfl, j, _, jx, _, rfl, hj3, T.clJ, T.nJ_records, Nat.lt_of_le_of_lt (length_putF _ _ _) (Nat.lt_of_le_of_lt (Nat.succ_le_succ (length_putF _ _ _)) (by decide)), ?_⟩
    have k4 : Kp [j] H3 (upd H3 j (.ins T.CJ jx (putF "_records" (.ref r) (putF "_side" (.int ((sideOf octs : Nat) : Int)) (putF "disk" (.ref d) []))))) := Kp.set hj3 (by simp) (by intro _ z; cases z)
    have hj4 : upd H3 j (.ins T.CJ jx (putF "_records" (.ref r) (putF "_side" (.int ((sideOf octs : Nat) : Int)) (putF "disk" (.ref d) [])))) j = some (.ins T.CJ jx (putF "_records" (.ref r) (putF "_side" (.int ((sideOf octs : Nat) : Int)) (putF "disk" (.ref d) [])))) := upd_same
    generalize upd H3 j (.ins T.CJ jx (putF "_records" (.ref r) (putF "_side" (.int ((sideOf octs : Nat) : Int)) (putF "disk" (.ref d) [])))) = H4 at k4 hj4 ⊢
    refine ⟨_, _, rfl, _, rfl, j, _, jx, _, rfl, hj4, T.clJ, T.nJ_end, Nat.lt_of_le_of_lt (length_putF _ _ _) (Nat.lt_of_le_of_lt (Nat.succ_le_succ (length_putF _ _ _)) (Nat.lt_of_le_of_lt (Nat.succ_le_succ (Nat.succ_le_succ (length_putF _ _ _))) (by decide))), rfl, ?_⟩
    have k5 : Kp [j] H4 (upd H4 j (.ins T.CJ jx (putF "_end" (.int ((hs octs.length (sideOf octs) + size rs : Nat) : Int)) (putF "_records" (.ref r) (putF "_side" (.int ((sideOf octs : Nat) : Int)) (putF "disk" (.ref d) [])))))) := Kp.set hj4 (by simp) (by intro _ z; cases z)
    have kb := ((k12.then0 k3).trans k4).trans k5
    obtain ⟨xs, er, rv⟩ := hr
    have rj : r ≠ j := ne_of er hj3 (by intro z; cases z)
    have hjn : ∀ s ∈ [j], H2 s ≠ none ∨ H s = none := fun s hs => .inl (by rw [List.mem_singleton.mp hs, hj2]; simp)
    refine q rs _ r p kb (k12.fresh nr hjn) ⟨⟨jx, upd_same⟩, xs, ?_, recs_kp k5 (recs_kp k4 rv)⟩
    rw [upd_ne rj]
    exact k4.k _ _ er (by simpa using rj)
  · have hjn : ∀ s ∈ [j], H2 s ≠ none ∨ H s = none := fun s hs => .inl (by rw [List.mem_singleton.mp hs, hj2]; simp)
    refine qE (fun rs p => ?_) H3 d' (k12.then0 k3) (k12.fresh nd hjn) ed
    unfold Jp at p
    rw [ln] at p
    exact no rs _ p
def sp_Journal_records (T : Tx P K mg) : Sp := fun vs H Q _ => ∃ j d r side rs e_, vs = [.ref j] ∧ Jrn T H j d r side rs e_ ∧ ∀ H' t, Kp [] H H' → RecT H' t rs → Q (.ref t) H'
--N 6
theorem ok_Journal_records (T : Tx P K mg) : FnOk P w K mg base (L2.CX P w) 1 T.f_Journal_records T.d_Journal_records ["self"] (sp_Journal_records T) := by
  refine T.F_Journal_records.ok (k := 0) sc_Journal_records (fun vs H Q E h => by obtain ⟨_, _, _, _, _, _, rfl, _⟩ := h; rfl) (fun cdv A outer s H vs Q E hr h => ?_)
  refine ⟨_, PSs.nox (pss_one (ps_ret (pe_callTy call_tuple_of rfl T.n_tuple (by decide +kernel) (pa_cons (pe_fld (pv 0) rfl) pa_nil)))), ?_⟩
  obtain ⟨j, d, r, side, rs, e_, rfl, J, q⟩ := h
  obtain ⟨⟨jx, hj⟩, xs, hr, rv⟩ := J
  refine ⟨_, rfl, j, _, jx, _, _, rfl, hj, T.clJ, T.nJ_records, lk_records .., r, xs, rfl, .inl ⟨SqL.of hr, fun t nt => ?_⟩⟩
  have k1 : Kp [] H (upd H t (.tup xs)) := Kp.new nt
  have e1 : upd H t (.tup xs) t = some (.tup xs) := upd_same
  generalize upd H t (.tup xs) = H1 at k1 e1 ⊢
  exact q H1 t k1 ⟨xs, e1, recs_kp k1 rv⟩
/-- a journal on its disk, between two calls -/
structure JS (T : Tx P K mg) (H : Hp) (j d c o e r : Addr) (cells octs : List Int) (evs : List Ev) (rs : List (List Int)) : Prop where
  D : Dsk T H d c o e cells octs evs
  J : Jrn T H j d r (sideOf octs) rs (hs octs.length (sideOf octs) + size rs)
  ro : r ≠ o
  re : r ≠ e
  jp : Jp octs rs
  oc : ∀ x ∈ octs, Oct x
  n1 : 1 ≤ cells.length
  n2 : cells.length ≤ 20000
  st : pend evs = []
  ev : EvOk cells.length evs
theorem JS.kp {T : Tx P K mg} {S : List Addr} {H H' : Hp} (a : Kp S H H') {j d c o e r : Addr} {cells octs : List Int} {evs : List Ev} {rs : List (List Int)} (h : JS T H j d c o e r cells octs evs rs) (hj : j ∉ S) (hd : d ∉ S) (ho : o ∉ S) (he : e ∉ S) (hr : r ∉ S) : JS T H' j d c o e r cells octs evs rs :=
  ⟨h.D.kp a hd ho he, h.J.kp a hj hr, h.ro, h.re, h.jp, h.oc, h.n1, h.n2, h.st, h.ev⟩
theorem JS.kp0 {T : Tx P K mg} {H H' : Hp} (a : Kp [] H H') {j d c o e r : Addr} {cells octs : List Int} {evs : List Ev} {rs : List (List Int)} (h : JS T H j d c o e r cells octs evs rs) : JS T H' j d c o e r cells octs evs rs := h.kp a (by simp) (by simp) (by simp) (by simp) (by simp)
theorem JS.ne {T : Tx P K mg} {H : Hp} {j d c o e r : Addr} {cells octs : List Int} {evs : List Ev} {rs : List (List Int)} (h : JS T H j d c o e r cells octs evs rs) : j ≠ o ∧ j ≠ e ∧ j ≠ r ∧ d ≠ o ∧ d ≠ e ∧ d ≠ r ∧ o ≠ e ∧ r ≠ o ∧ r ≠ e ∧ d ≠ j := by
  obtain ⟨dx, hd⟩ := h.D.ins
  obtain ⟨jx, hj⟩ := h.J.ins
  obtain ⟨xs, he, _⟩ := h.D.evl
  obtain ⟨ys, hr, _⟩ := h.J.lst
  have ho := h.D.oct
  exact ⟨ne_of hj ho (by intro z; cases z), ne_of hj he (by intro z; cases z), ne_of hj hr (by intro z; cases z), ne_of hd ho (by intro z; cases z), ne_of hd he (by intro z; cases z), ne_of hd hr (by intro z; cases z), h.D.ne, h.ro, h.re, ne_of hd hj (by intro z; have := (HO.ins.inj z).1; exact T.neDJ this)⟩
theorem in4oe {j o e r b : Addr} (h : b ∈ [o, e]) : b ∈ [j, o, e, r] := by
  rcases List.mem_cons.mp h with z | z
  · simp [z]
  · simp [List.mem_singleton.mp z]
theorem in4j {j o e r b : Addr} (h : b ∈ [j]) : b ∈ [j, o, e, r] := by simp [List.mem_singleton.mp h]
theorem in4r {j o e r b : Addr} (h : b ∈ [r]) : b ∈ [j, o, e, r] := by simp [List.mem_singleton.mp h]
end
end KJ
end

section
namespace KJ
open PySem PySem.Spec PyProof.Rows L2 KM
section
variable {P : Program} {w : World} {K : PySem.W.Frag} {mg : Str → Option Value} {base : Heap}
def roomJ (octs : List Int) (rs : List (List Int)) (k : Nat) : Prop := hs octs.length (sideOf octs) + size rs + k ≤ hs octs.length (sideOf octs + 1)
def sp_Journal_write (T : Tx P K mg) : Sp := fun vs H Q E => ∃ j t d c o e r cells octs evs rs x, vs = [.ref j, .ref t] ∧ JS T H j d c o e r cells octs evs rs ∧ H t = some (.tup (x.map V.int)) ∧ (∀ y ∈ x, Oct y) ∧ x.length < 65536 ∧ evs.length + x.length + 10 < 16000000 ∧ rs.length < 15000000 ∧
  (roomJ octs rs (3 + x.length) → ∀ H' E', Kp [j, o, e, r] H H' → JS T H' j d c o e r cells (appl octs E') (evs ++ E') (rs ++ [x]) → Safe octs E' rs (rs ++ [x]) → E'.length ≤ x.length + 10 → pend E' = [] → Q .non H') ∧
  (¬ roomJ octs rs (3 + x.length) → ∀ H' d', Kp [] H H' → H d' = none → H' d' = some (.xd [(("word" : Str), .str "room")]) → E (.ref T.CR) (some d') H')
--N 12
theorem ok_Journal_write (T : Tx P K mg) : FnOk P w K mg base (L2.CX P w) 3 T.f_Journal_write T.d_Journal_write ["self", "record"] (sp_Journal_write T) := by
  refine T.F_Journal_write.ok (k := 2) sc_Journal_write (fun vs H Q E h => by obtain ⟨_, _, _, _, _, _, _, _, _, _, _, _, rfl, _⟩ := h; rfl) (fun cdv A outer s H vs Q E hr h => ?_)
  refine ⟨_, (pss_cons (ps_par (i := 2) (j := 3) rfl sc_Journal_write.nd rfl rfl (by decide) rfl rfl (pa_cons (pe_fld (pv 0) rfl) (pa_cons (pe_call (ok_half_start T) (hr.mono (by decide)) rfl T.g_half_start T.F_half_start.kp T.b_half_start .nil passL (pa_cons (pe_fld (pv 0) rfl) (pa_cons (pe_op op_add (pe_fld (pv 0) rfl) pe_int) pa_nil))) pa_nil)) (by rfl))
 (pss_cons (ps_if (pt_cmpR op_gt (pe_op op_add (pv 2) (pe_call (ok_needed_cells T) (hr.mono (by decide)) rfl T.g_needed_cells T.F_needed_cells.kp T.b_needed_cells .nil passL (pa_cons (pe_tup (pa_cons (pv 1) pa_nil)) pa_nil))) (pv 3) (nomark _))
 (pss_one (ps_raiseW rfl T.eR.T hr (takes_of rfl rfl rfl rfl) (pa_cons pe_str pa_nil)))
 pss_nil)
 (pss_cons (ps_set (i := 4) sc_Journal_write.nd rfl (Or.inl rfl) (pe_call (ok_put_record T) (hr.mono (by decide)) rfl T.g_put_record T.F_put_record.kp T.b_put_record .nil passL (pa_cons (pe_fld (pv 0) rfl) (pa_cons (pv 2) (pa_cons (pv 1) pa_nil)))))
 (pss_cons (ps_expr (pe_call (ok_put_end T) (hr.mono (by decide)) rfl T.g_put_end T.F_put_end.kp T.b_put_end .nil passL (pa_cons (pe_fld (pv 0) rfl) (pa_cons (pv 4) (pa_cons (pv 3) pa_nil)))))
 (pss_cons (ps_expr (pe_meth0 (pe_fld (pv 0) rfl) T.clD T.m_Disk_flush (ok_Disk_flush T) (hr.mono (by decide)) T.b_Disk_flush .nil passL))
 (pss_cons (ps_expr (pe_meth (pe_fld (pv 0) rfl) T.clD T.m_Disk_put (ok_Disk_put T) (hr.mono (by decide)) T.b_Disk_put .nil passL (pa_cons (pv 2) (pa_cons (pe_glob (v := .int 1) rfl T.i_MARK ⟨_, rfl⟩) pa_nil))))
 (pss_cons (ps_expr (pe_meth0 (pe_fld (pv 0) rfl) T.clD T.m_Disk_flush (ok_Disk_flush T) (hr.mono (by decide)) T.b_Disk_flush .nil passL))
 (pss_cons (ps_expr (pe_bm PySem.F.plainAttrs_list PySem.F.slot_list_append PySem.F.type_list_append mt_append (pe_fld (pv 0) rfl) (pa_cons (pv 1) pa_nil)))
 (pss_one (ps_fld (pv 0) (pv 4) rfl)))))))))), ?_⟩
  obtain ⟨j, t, d, c, o, e, r, cells, octs, evs, rs, x, rfl, S, ht, hx, hx2, hl, hl2, q, qE⟩ := h
  have N := S.ne
  have n1 := S.n1
  have n2 := S.n2
  have ln := S.D.ln
  have sl := sideOf_lt octs
  obtain ⟨jx, hj⟩ := S.J.ins
  refine ⟨_, rfl, j, _, jx, _, _, rfl, hj, T.clJ, T.nJ_end, lk_end .., ?_⟩
  refine ⟨_, rfl, j, _, jx, _, _, rfl, hj, T.clJ, T.nJdisk, lk_disk .., _, rfl, j, _, jx, _, _, rfl, hj, T.clJ, T.nJ_side, lk_side .., _, _, rfl, rfl, ?_⟩
  refine ⟨d, c, o, e, cells, octs, evs, sideOf octs + 1, rfl, S.D, by omega, n2, n1, _, _, rfl, ?_⟩
  refine ⟨_, rfl, _, rfl, Nat.le_trans (show 1 ≤ 2 by decide) two_size, fun t1 nt1 => ?_⟩
  have k1 : Kp [] H (upd H t1 (.tup [.ref t])) := Kp.new nt1
  have et1 : upd H t1 (.tup [.ref t]) t1 = some (.tup [.ref t]) := upd_same
  generalize upd H t1 (.tup [.ref t]) = H1 at k1 et1 ⊢
  refine ⟨t1, [x], rfl, ⟨_, et1, .cons ⟨t, rfl, k1.t _ _ ht⟩ .nil⟩, (show 1 < 16000000 by decide), fun H2 k2 => ?_⟩
  have k12 := k1.trans k2
  have S2 := S.kp0 k12
  have e1 : size [x] = 3 + x.length := rfl
  rw [e1]
  refine ⟨_, _, rfl, rfl, _, rfl, _, _, rfl, rfl, _, rfl, ?_⟩
  by_cases room : roomJ octs rs (3 + x.length)
  · have room' := room
    unfold roomJ at room'
    have hp := hs_pos octs.length (sideOf octs)
    have hle : hs octs.length (sideOf octs + 1) ≤ octs.length := hs_le (by omega) (by omega)
    have sf := safe_write (by omega) S.jp S.oc hx hx2 room'
    have ws := write_side (c := octs) (e := hs octs.length (sideOf octs) + size rs) (stop := hs octs.length (sideOf octs + 1)) hx hx2 (by omega)
    have wo := write_oct (c := octs) (e := hs octs.length (sideOf octs) + size rs) (stop := hs octs.length (sideOf octs + 1)) hx hx2 S.oc
    have wl := evWrite_length (hs octs.length (sideOf octs) + size rs) (hs octs.length (sideOf octs + 1)) x
    have wk := write_ok (n := cells.length) (e := hs octs.length (sideOf octs) + size rs) (stop := hs octs.length (sideOf octs + 1)) hx hx2 (by omega) (by omega)
    have wp : pend (evWrite (hs octs.length (sideOf octs) + size rs) (hs octs.length (sideOf octs + 1)) x) = [] := pend_tail _ _ _
    have ea : ∀ evs : List Ev, ((((evs ++ evPut (hs octs.length (sideOf octs) + size rs) x) ++ evEnd (hs octs.length (sideOf octs) + size rs + 3 + x.length) (hs octs.length (sideOf octs + 1))) ++ [none]) ++ [some (hs octs.length (sideOf octs) + size rs, 1)]) ++ [none] = evs ++ evWrite (hs octs.length (sideOf octs) + size rs) (hs octs.length (sideOf octs + 1)) x := fun evs => by unfold evWrite; simp [List.append_assoc]
    have eo : (appl (appl octs (evPut (hs octs.length (sideOf octs) + size rs) x)) (evEnd (hs octs.length (sideOf octs) + size rs + 3 + x.length) (hs octs.length (sideOf octs + 1)))).set (hs octs.length (sideOf octs) + size rs) 1 = appl octs (evWrite (hs octs.length (sideOf octs) + size rs) (hs octs.length (sideOf octs + 1)) x) := by unfold evWrite; rw [appl_tail, appl_append]
    have ek : hs octs.length (sideOf octs) + size (rs ++ [x]) = hs octs.length (sideOf octs) + size rs + 3 + x.length := by rw [size_snoc]; omega
    rw [← ln]
    generalize evWrite (hs octs.length (sideOf octs) + size rs) (hs octs.length (sideOf octs + 1)) x = W at *
    generalize ee : hs octs.length (sideOf octs) + size rs = en at *
    generalize es : hs octs.length (sideOf octs + 1) = st at *
    rw [decide_eq_false (by omega)]
    refine iteF ?_
    obtain ⟨jx2, hj2⟩ := S2.J.ins
    rw [ee] at hj2
    refine ⟨_, rfl, j, _, jx2, _, _, rfl, hj2, T.clJ, T.nJdisk, lk_disk .., _, rfl, _, rfl, ?_⟩
    have hel := evEnd_length (en + 3 + x.length) st
    refine ⟨d, c, o, e, cells, octs, evs, en, t, x, rfl, S2.D, k12.t _ _ ht, by omega, by omega, fun H3 k3 D3 => ?_⟩
    have k3' : Kp [j, o, e, r] H2 H3 := k3.mono fun b hb => .inl (in4oe hb)
    have hj3 := k3.k _ _ hj2 (by simp [N])
    refine ⟨_, rfl, j, _, jx2, _, _, rfl, hj3, T.clJ, T.nJdisk, lk_disk .., _, rfl, _, rfl, ?_⟩
    refine ⟨d, c, o, e, cells, _, _, en + 3 + x.length, st, rfl, D3, by rw [appl_length]; omega, by rw [List.length_append, evPut_length]; omega, fun H4 k4 D4 => ?_⟩
    have hj4 := k4.k _ _ hj3 (by simp [N])
    obtain ⟨dx4, hd4⟩ := D4.ins
    refine ⟨_, rfl, j, _, jx2, _, _, rfl, hj4, T.clJ, T.nJdisk, lk_disk .., d, dx4, _, rfl, hd4, lk_flush .., ?_⟩
    refine ⟨d, c, o, e, cells, _, _, rfl, D4, by simp only [List.length_append, evPut_length]; omega, fun H5 k5 D5 => ?_⟩
    have hj5 := k5.k _ _ hj4 (by simp [N])
    obtain ⟨dx5, hd5⟩ := D5.ins
    refine ⟨_, rfl, j, _, jx2, _, _, rfl, hj5, T.clJ, T.nJdisk, lk_disk .., d, dx5, _, rfl, hd5, lk_put .., _, rfl, ?_⟩
    refine ⟨d, c, o, e, cells, _, _, en, 1, rfl, D5, by rw [appl_length, appl_length]; omega, by simp only [List.length_append, evPut_length, List.length_cons, List.length_nil]; omega, fun H6 k6 D6 => ?_⟩
    have hj6 := k6.k _ _ hj5 (by simp [N])
    obtain ⟨dx6, hd6⟩ := D6.ins
    refine ⟨_, rfl, j, _, jx2, _, _, rfl, hj6, T.clJ, T.nJdisk, lk_disk .., d, dx6, _, rfl, hd6, lk_flush .., ?_⟩
    refine ⟨d, c, o, e, cells, _, _, rfl, D6, by simp only [List.length_append, evPut_length, List.length_cons, List.length_nil]; omega, fun H7 k7 D7 => ?_⟩
    have hj7 := k7.k _ _ hj6 (by simp [N])
    have k27 := (((k3.trans k4).trans k5).trans k6).trans k7
    obtain ⟨xs, hr2, rv⟩ := S2.J.lst
    have hr7 := k27.k _ _ hr2 (by simp [N])
    refine ⟨_, rfl, j, _, jx2, _, _, rfl, hj7, T.clJ, T.nJ_records, lk_records .., .inl ⟨rfl, _, SqL.of hr7⟩, _, rfl, r, xs, .ref t, rfl, rfl, hr7, by rw [plen rv]; exact small16 (by omega), ?_⟩
    have k8 : Kp [r] H7 (upd H7 r (.lst (xs ++ [.ref t]))) := Kp.set hr7 (by simp) (by intro _ z; cases z)
    have hr8 : upd H7 r (.lst (xs ++ [.ref t])) r = some (.lst (xs ++ [.ref t])) := upd_same
    generalize upd H7 r (.lst (xs ++ [.ref t])) = H8 at k8 hr8 ⊢
    have hj8 := k8.k _ _ hj7 (by simp [N])
    refine ⟨_, rfl, _, rfl, j, _, jx2, _, rfl, hj8, T.clJ, T.nJ_end, (by show 4 < 1000; decide), ?_⟩
    have k9 : Kp [j] H8 (upd H8 j (.ins T.CJ jx2 (putF "_end" (.int ((en + 3 + x.length : Nat) : Int)) (jFs d (sideOf octs) r en)))) := Kp.set hj8 (by simp) (by intro _ z; cases z)
    have pj : putF "_end" (.int ((en + 3 + x.length : Nat) : Int)) (jFs d (sideOf octs) r en) = jFs d (sideOf octs) r (en + 3 + x.length) := rfl
    have k29 : Kp [j, o, e, r] H2 (upd H8 j (.ins T.CJ jx2 (putF "_end" (.int ((en + 3 + x.length : Nat) : Int)) (jFs d (sideOf octs) r en)))) :=
      ((k27.mono (S' := [j, o, e, r]) fun b hb => .inl (in4oe hb)).trans (k8.mono fun b hb => .inl (in4r hb))).trans (k9.mono fun b hb => .inl (in4j hb))
    have kk := (k12.mono (S' := [j, o, e, r]) fun b hb => absurd hb (by simp)).trans k29
    refine q room _ W kk ⟨?_, ⟨⟨jx2, ?_⟩, xs ++ [.ref t], ?_, ?_⟩, N.2.2.2.2.2.2.2.1, N.2.2.2.2.2.2.2.2.1, ?_, wo, n1, n2, ?_, S.ev.append wk⟩ sf (by omega) wp
    · have D8 := (D7.kp k8 (by simp [N]) (by simp [N.2.2.2.2.2.2.2.1.symm]) (by simp [N.2.2.2.2.2.2.2.2.1.symm])).kp k9 (by simp [N]) (by simp [N.1.symm]) (by simp [N.2.1.symm])
      rw [← eo, ← ea]
      exact D8
    · rw [upd_same, pj, ws, appl_length, ek]
    · rw [upd_ne N.2.2.1.symm]; exact hr8
    · exact papp (recs_kp k9 (recs_kp k8 (recs_kp k27 rv))) (.cons ⟨t, rfl, kk.t _ _ ht⟩ .nil)
    · exact sf.fin _ (cut_self wo)
    · rw [pend_settled S.st, wp]
  · have room' := room
    unfold roomJ at room'
    rw [← ln, decide_eq_true (by omega)]
    refine iteT ⟨_, rfl, fun p np => ?_⟩
    have k3 : Kp [] H2 (upd H2 p (.xd [(("word" : Str), .str "room")])) := Kp.new np
    have e3 : upd H2 p (.xd [(("word" : Str), .str "room")]) p = some (.xd [(("word" : Str), .str "room")]) := upd_same
    generalize upd H2 p (.xd [(("word" : Str), .str "room")]) = H3 at k3 e3 ⊢
    exact qE room H3 p (k12.trans k3) (k12.fresh0 np) e3
end
end KJ
end

section
namespace KJ
open PySem PySem.Spec PyProof.Rows L2 KM
section
variable {P : Program} {w : World} {K : PySem.W.Frag} {mg : Str → Option Value} {base : Heap}
def sp_Journal_drop (T : Tx P K mg) : Sp := fun vs H Q E => ∃ j d c o e r cells octs evs rs, vs = [.ref j] ∧ JS T H j d c o e r cells octs evs rs ∧ evs.length + 10 < 16000000 ∧
  (∀ rs' x, rs = rs' ++ [x] → ∀ H' E', Kp [j, o, e, r] H H' → JS T H' j d c o e r cells (appl octs E') (evs ++ E') rs' → Safe octs E' rs rs' → E'.length ≤ 10 → pend E' = [] → Q .non H') ∧
  (rs = [] → ∀ H' d', Kp [] H H' → H d' = none → H' d' = some (.xd [(("word" : Str), .str "records")]) → E (.ref T.CR) (some d') H')
--N 10
theorem ok_Journal_drop (T : Tx P K mg) : FnOk P w K mg base (L2.CX P w) 2 T.f_Journal_drop T.d_Journal_drop ["self"] (sp_Journal_drop T) := by
  refine T.F_Journal_drop.ok (k := 1) sc_Journal_drop (fun vs H Q E h => by obtain ⟨_, _, _, _, _, _, _, _, _, _, rfl, _⟩ := h; rfl) (fun cdv A outer s H vs Q E hr h => ?_)
  refine ⟨_, (pss_cons (ps_if (pt_cmpR (op_eqD hr.units) (pe_fld (pv 0) rfl) (pe_lst pa_nil) (nomark _))
 (pss_one (ps_raiseW rfl T.eR.T hr (takes_of rfl rfl rfl rfl) (pa_cons pe_str pa_nil)))
 pss_nil)
 (pss_cons (ps_set (i := 1) sc_Journal_drop.nd rfl (Or.inl rfl) (pe_op op_sub (pe_fld (pv 0) rfl) (pe_call (ok_needed_cells T) (hr.mono (by decide)) rfl T.g_needed_cells T.F_needed_cells.kp T.b_needed_cells .nil passL (pa_cons (pe_tup (pa_cons (pe_ix ix_list (pe_fld (pv 0) rfl) (pe_un un_neg pe_int) (fun _ _ => rfl)) pa_nil)) pa_nil))))
 (pss_cons (ps_expr (pe_meth (pe_fld (pv 0) rfl) T.clD T.m_Disk_put (ok_Disk_put T) (hr.mono (by decide)) T.b_Disk_put .nil passL (pa_cons (pv 1) (pa_cons pe_int pa_nil))))
 (pss_cons (ps_expr (pe_meth0 (pe_fld (pv 0) rfl) T.clD T.m_Disk_flush (ok_Disk_flush T) (hr.mono (by decide)) T.b_Disk_flush .nil passL))
 (pss_cons (ps_expr (pe_bm0 PySem.F.plainAttrs_list PySem.F.slot_list_pop PySem.F.type_list_pop mt_pop (pe_fld (pv 0) rfl)))
 (pss_one (ps_fld (pv 0) (pv 1) rfl))))))), ?_⟩
  obtain ⟨j, d, c, o, e, r, cells, octs, evs, rs, rfl, S, hl, q, qE⟩ := h
  have N := S.ne
  have n1 := S.n1
  have n2 := S.n2
  have ln := S.D.ln
  have sl := sideOf_lt octs
  obtain ⟨jx, hj⟩ := S.J.ins
  obtain ⟨xs, hr, rv⟩ := S.J.lst
  have hs2 := S.jp.room
  have hle : hs octs.length (sideOf octs + 1) ≤ octs.length := hs_le (by omega) (by omega)
  have ok : RsOk rs := ⟨rec_oct S.jp.ch (fun i => oct_at S.oc i), by omega⟩
  refine ⟨_, rfl, j, _, jx, _, _, rfl, hj, T.clJ, T.nJ_records, lk_records .., Nat.zero_le _, fun l nl => ?_⟩
  have k1 : Kp [] H (upd H l (.lst [])) := Kp.new nl
  have el : upd H l (.lst []) l = some (.lst []) := upd_same
  generalize upd H l (.lst []) = H1 at k1 el ⊢
  have hr1 := k1.k _ _ hr (by simp)
  have rv1 := recs_kp k1 rv
  have S1 := S.kp0 k1
  have nl := Nc.lst (ds := rs.map recD) (p := 1) (f := fun d => d.shown.length) fun d hd => by
    obtain ⟨x, hx, rfl⟩ := List.mem_map.mp hd
    have n := nc_rec (r := x) fun y hy => oct_abs (ok.1 x hx y hy)
    exact ⟨n.lay, n.shw, n.dep, Nat.le_refl _⟩
  refine eqD_use nl (Nc.lst (ds := []) (p := 0) (f := fun _ => 0) (fun d hd => absurd hd (by simp))) (.lst (SqL.of hr1) (dp_recsA rv1)) (.lst (SqL.of el) .nil) (by decide) (by decide) ⟨_, rfl, ?_⟩
  rcases snoc_or rs with rfl | ⟨rs', x, rfl⟩
  · refine iteT ⟨_, rfl, fun p np => ?_⟩
    have k2 : Kp [] H1 (upd H1 p (.xd [(("word" : Str), .str "records")])) := Kp.new np
    have e2 : upd H1 p (.xd [(("word" : Str), .str "records")]) p = some (.xd [(("word" : Str), .str "records")]) := upd_same
    generalize upd H1 p (.xd [(("word" : Str), .str "records")]) = H2 at k2 e2 ⊢
    exact qE rfl H2 p (k1.trans k2) (k1.fresh0 np) e2
  · have ev : PyData.eqv (.list ((rs' ++ [x]).map recD)) (.list []) = false := by
      cases rs' <;> simp [PyData.eqv, PyData.eqvAll]
    rw [ev]
    refine iteF ?_
    obtain ⟨jx1, hj1⟩ := S1.J.ins
    have lx := plen rv1
    rw [List.length_append, List.length_singleton] at lx
    -- the last record
    obtain ⟨ys, y, ey, ry, rys⟩ : ∃ ys y, xs = ys ++ [y] ∧ RecV H1 y x ∧ RecsV H1 ys rs' := by
      rcases snoc_or xs with rfl | ⟨ys, y, rfl⟩
      · simp at lx
      · have l2 : ys.length = rs'.length := by simp at lx; exact lx
        have t := ptake rs'.length rv1
        rw [List.take_append_of_le_length (by omega), List.take_append_of_le_length (Nat.le_refl _), List.take_of_length_le (by omega), List.take_of_length_le (Nat.le_refl _)] at t
        obtain ⟨b, hb, rb⟩ := pget (i := ys.length) (x := y) rv1 (by simp)
        rw [l2] at hb
        simp at hb
        exact ⟨ys, y, rfl, hb ▸ rb, t⟩
    subst ey
    obtain ⟨a, rfl, ea⟩ := ry
    have hn : RecAt octs (hs octs.length (sideOf octs + 1)) (hs octs.length (sideOf octs) + size rs') x := by
      obtain ⟨m, c1, c2, c3⟩ := S.jp.ch.snoc
      have := c1.fin
      rw [← this]
      exact c2
    have room := hn.room
    have hp := hs_pos octs.length (sideOf octs)
    have sf := safe_drop (by omega) S.jp
    have ds := drop_side (c := octs) (a := hs octs.length (sideOf octs) + size rs') (by omega)
    have do_ := drop_oct (c := octs) (a := hs octs.length (sideOf octs) + size rs') S.oc
    have sz := size_snoc rs' x
    refine ⟨_, rfl, j, _, jx1, _, _, rfl, hj1, T.clJ, T.nJ_end, lk_end .., _, rfl, j, _, jx1, _, _, rfl, hj1, T.clJ, T.nJ_records, lk_records .., _, rfl, r, _, _, .ref a, rfl, rfl, SqL.of hr1, atI_last _ _, Nat.le_trans (show 1 ≤ 2 by decide) two_size, fun t nt => ?_⟩
    have k2 : Kp [] H1 (upd H1 t (.tup [.ref a])) := Kp.new nt
    have et : upd H1 t (.tup [.ref a]) t = some (.tup [.ref a]) := upd_same
    generalize upd H1 t (.tup [.ref a]) = H2 at k2 et ⊢
    refine ⟨t, [x], rfl, ⟨_, et, .cons ⟨a, rfl, k2.t _ _ ea⟩ .nil⟩, (show 1 < 16000000 by decide), fun H3 k3 => ?_⟩
    have e1 : size [x] = 3 + x.length := rfl
    rw [e1]
    have eat : (((hs octs.length (sideOf octs) + size (rs' ++ [x]) : Nat) : Int) - ((3 + x.length : Nat) : Int)) = ((hs octs.length (sideOf octs) + size rs' : Nat) : Int) := by omega
    refine ⟨_, _, rfl, rfl, ?_⟩
    simp only [gName]
    rw [eat]
    generalize ee : hs octs.length (sideOf octs) + size rs' = en at *
    have k13 := k2.trans k3
    have S3 := S1.kp0 k13
    obtain ⟨jx3, hj3⟩ := S3.J.ins
    obtain ⟨dx3, hd3⟩ := S3.D.ins
    refine ⟨_, rfl, j, _, jx3, _, _, rfl, hj3, T.clJ, T.nJdisk, lk_disk .., d, dx3, _, rfl, hd3, lk_put .., _, rfl, ?_⟩
    refine ⟨d, c, o, e, cells, _, _, en, 0, rfl, S3.D, by omega, by omega, fun H4 k4 D4 => ?_⟩
    have hj4 := k4.k _ _ hj3 (by simp [N])
    obtain ⟨dx4, hd4⟩ := D4.ins
    refine ⟨_, rfl, j, _, jx3, _, _, rfl, hj4, T.clJ, T.nJdisk, lk_disk .., d, dx4, _, rfl, hd4, lk_flush .., ?_⟩
    refine ⟨d, c, o, e, cells, _, _, rfl, D4, by simp only [List.length_append, List.length_cons, List.length_nil]; omega, fun H5 k5 D5 => ?_⟩
    have hj5 := k5.k _ _ hj4 (by simp [N])
    have k35 := k4.trans k5
    have hr3 : H3 r = some (.lst (ys ++ [.ref a])) := k13.k _ _ hr1 (by simp)
    have hr5 := k35.k _ _ hr3 (by simp [N])
    refine ⟨_, rfl, j, _, jx3, _, _, rfl, hj5, T.clJ, T.nJ_records, lk_records .., .inl ⟨rfl, _, SqL.of hr5⟩, r, _, .ref a, rfl, rfl, hr5, by simp, ?_⟩
    rw [List.dropLast_concat]
    have k6 : Kp [r] H5 (upd H5 r (.lst ys)) := Kp.set hr5 (by simp) (by intro _ z; cases z)
    have hr6 : upd H5 r (.lst ys) r = some (.lst ys) := upd_same
    generalize upd H5 r (.lst ys) = H6 at k6 hr6 ⊢
    have hj6 := k6.k _ _ hj5 (by simp [N])
    refine ⟨_, rfl, _, rfl, j, _, jx3, _, rfl, hj6, T.clJ, T.nJ_end, (by show 4 < 1000; decide), ?_⟩
    have k7 : Kp [j] H6 (upd H6 j (.ins T.CJ jx3 (putF "_end" (.int ((en : Nat) : Int)) (jFs d (sideOf octs) r (hs octs.length (sideOf octs) + size (rs' ++ [x])))))) := Kp.set hj6 (by simp) (by intro _ z; cases z)
    have pj : putF "_end" (.int ((en : Nat) : Int)) (jFs d (sideOf octs) r (hs octs.length (sideOf octs) + size (rs' ++ [x]))) = jFs d (sideOf octs) r en := rfl
    have k37 := ((k35.mono (S' := [j, o, e, r]) fun b hb => .inl (in4oe hb)).trans (k6.mono fun b hb => .inl (in4r hb))).trans (k7.mono fun b hb => .inl (in4j hb))
    have kk := ((k1.trans k13).mono (S' := [j, o, e, r]) fun b hb => absurd hb (by simp)).trans k37
    refine q rs' x rfl _ (evDrop en) kk ⟨?_, ⟨⟨jx3, ?_⟩, ys, ?_, ?_⟩, N.2.2.2.2.2.2.2.1, N.2.2.2.2.2.2.2.2.1, ?_, do_, n1, n2, ?_, S.ev.append (drop_ok (by omega))⟩ sf (by show 2 ≤ 10; decide) rfl
    · have D7 := (D5.kp k6 (by simp [N]) (by simp [N.2.2.2.2.2.2.2.1.symm]) (by simp [N.2.2.2.2.2.2.2.2.1.symm])).kp k7 (by simp [N]) (by simp [N.1.symm]) (by simp [N.2.1.symm])
      rw [List.append_assoc] at D7
      exact D7
    · rw [upd_same, pj, ds, appl_length, ee]
    · rw [upd_ne N.2.2.1.symm]; exact hr6
    · exact recs_kp k37 (recs_kp k13 rys)
    · exact sf.fin _ (cut_self do_)
    · rw [pend_settled S.st]; rfl
end
end KJ
end

section
namespace KJ
open PySem PySem.Spec PyProof.Rows L2 KM
section
variable {P : Program} {w : World} {K : PySem.W.Frag} {mg : Str → Option Value} {base : Heap}
def roomR (octs : List Int) (ss : List (List Int)) : Prop := hs octs.length (1 - sideOf octs) + size ss ≤ hs octs.length (1 - sideOf octs + 1)
def sp_Journal_renew (T : Tx P K mg) : Sp := fun vs H Q E => ∃ j t d c o e r cells octs evs rs ss, vs = [.ref j, .ref t] ∧ JS T H j d c o e r cells octs evs rs ∧ RecT H t ss ∧ (∀ x ∈ ss, (∀ y ∈ x, Oct y) ∧ x.length < 65536) ∧ evs.length + 50000 < 16000000 ∧ ss.length < 15000000 ∧
  (roomR octs ss → ∀ H' E' r', Kp [j, o, e] H H' → H r' = none → JS T H' j d c o e r' cells (appl octs E') (evs ++ E') ss → Safe octs E' rs ss → E'.length ≤ 20010 → pend E' = [] → Q .non H') ∧
  (¬ roomR octs ss → ∀ H' d', Kp [] H H' → H d' = none → H' d' = some (.xd [(("word" : Str), .str "room")]) → E (.ref T.CR) (some d') H')
theorem in3oe {j o e b : Addr} (h : b ∈ [o, e]) : b ∈ [j, o, e] := by
  rcases List.mem_cons.mp h with z | z
  · simp [z]
  · simp [List.mem_singleton.mp z]
theorem in3j {j o e b : Addr} (h : b ∈ [j]) : b ∈ [j, o, e] := by simp [List.mem_singleton.mp h]
--N 12
theorem ok_Journal_renew (T : Tx P K mg) : FnOk P w K mg base (L2.CX P w) 3 T.f_Journal_renew T.d_Journal_renew ["self", "records"] (sp_Journal_renew T) := by
  refine T.F_Journal_renew.ok (k := 2) sc_Journal_renew (fun vs H Q E h => by obtain ⟨_, _, _, _, _, _, _, _, _, _, _, _, rfl, _⟩ := h; rfl) (fun cdv A outer s H vs Q E hr h => ?_)
  refine ⟨_, (pss_cons (ps_set (i := 2) sc_Journal_renew.nd rfl (Or.inl rfl) (pe_op op_sub pe_int (pe_fld (pv 0) rfl)))
 (pss_cons (ps_par (i := 3) (j := 4) rfl sc_Journal_renew.nd rfl rfl (by decide) rfl rfl (pa_cons (pe_call (ok_half_start T) (hr.mono (by decide)) rfl T.g_half_start T.F_half_start.kp T.b_half_start .nil passL (pa_cons (pe_fld (pv 0) rfl) (pa_cons (pv 2) pa_nil))) (pa_cons (pe_call (ok_half_start T) (hr.mono (by decide)) rfl T.g_half_start T.F_half_start.kp T.b_half_start .nil passL (pa_cons (pe_fld (pv 0) rfl) (pa_cons (pe_op op_add (pv 2) pe_int) pa_nil))) pa_nil)) (by rfl))
 (pss_cons (ps_if (pt_cmpR op_gt (pe_op op_add (pv 3) (pe_call (ok_needed_cells T) (hr.mono (by decide)) rfl T.g_needed_cells T.F_needed_cells.kp T.b_needed_cells .nil passL (pa_cons (pv 1) pa_nil))) (pv 4) (nomark _))
 (pss_one (ps_raiseW rfl T.eR.T hr (takes_of rfl rfl rfl rfl) (pa_cons pe_str pa_nil)))
 pss_nil)
 (pss_cons (ps_for (passes_of rfl) rfl (pi_tup (pv 1)) (pg_name (i := 5) sc_Journal_renew.nd rfl (Or.inl rfl))
 (pss_cons (ps_expr (pe_meth (pe_fld (pv 0) rfl) T.clD T.m_Disk_put (ok_Disk_put T) (hr.mono (by decide)) T.b_Disk_put .nil passL (pa_cons (pv 3) (pa_cons (pe_glob (v := .int 1) rfl T.i_MARK ⟨_, rfl⟩) pa_nil))))
 (pss_one (ps_set (i := 3) sc_Journal_renew.nd rfl (Or.inl rfl) (pe_call (ok_put_record T) (hr.mono (by decide)) rfl T.g_put_record T.F_put_record.kp T.b_put_record .nil passL (pa_cons (pe_fld (pv 0) rfl) (pa_cons (pv 3) (pa_cons (pv 5) pa_nil))))))))
 (pss_cons (ps_expr (pe_call (ok_put_end T) (hr.mono (by decide)) rfl T.g_put_end T.F_put_end.kp T.b_put_end .nil passL (pa_cons (pe_fld (pv 0) rfl) (pa_cons (pv 3) (pa_cons (pv 4) pa_nil)))))
 (pss_cons (ps_expr (pe_meth0 (pe_fld (pv 0) rfl) T.clD T.m_Disk_flush (ok_Disk_flush T) (hr.mono (by decide)) T.b_Disk_flush .nil passL))
 (pss_cons (ps_expr (pe_meth (pe_fld (pv 0) rfl) T.clD T.m_Disk_put (ok_Disk_put T) (hr.mono (by decide)) T.b_Disk_put .nil passL (pa_cons pe_int (pa_cons (pv 2) pa_nil))))
 (pss_cons (ps_expr (pe_meth0 (pe_fld (pv 0) rfl) T.clD T.m_Disk_flush (ok_Disk_flush T) (hr.mono (by decide)) T.b_Disk_flush .nil passL))
 (pss_one (ps_asg (pe_tup (pa_cons (pv 2) (pa_cons (pe_callTy call_list_of rfl T.n_list (by decide +kernel) (pa_cons (pv 1) pa_nil)) (pa_cons (pv 3) pa_nil)))) (pg_tup rfl (pgs_cons (pg_fld (pv 0)) (pgs_cons (pg_fld (pv 0)) (pgs_cons (pg_fld (pv 0)) pgs_nil)))))))))))))), ?_⟩
  obtain ⟨j, t, d, c, o, e, r, cells, octs, evs, rs, ss, rfl, S, ht, hss, hl, hl2, q, qE⟩ := h
  have N := S.ne
  have n1 := S.n1
  have n2 := S.n2
  have ln := S.D.ln
  have sl := sideOf_lt octs
  obtain ⟨jx, hj⟩ := S.J.ins
  obtain ⟨xs, et, rvt⟩ := ht
  refine ⟨_, rfl, j, _, jx, _, _, rfl, hj, T.clJ, T.nJ_side, lk_side .., _, _, rfl, rfl, ?_⟩
  have es1 : (1 : Int) - ((sideOf octs : Nat) : Int) = ((1 - sideOf octs : Nat) : Int) := by omega
  simp only [gName]
  rw [es1]
  refine ⟨_, rfl, j, _, jx, _, _, rfl, hj, T.clJ, T.nJdisk, lk_disk .., _, rfl, d, c, o, e, cells, octs, evs, 1 - sideOf octs, rfl, S.D, by omega, n2, n1, ?_⟩
  refine ⟨_, rfl, j, _, jx, _, _, rfl, hj, T.clJ, T.nJdisk, lk_disk .., _, rfl, _, _, rfl, rfl, d, c, o, e, cells, octs, evs, 1 - sideOf octs + 1, rfl, S.D, by omega, n2, n1, _, _, rfl, ?_⟩
  refine ⟨_, rfl, _, rfl, t, ss, rfl, ⟨xs, et, rvt⟩, by omega, fun H1 k1 => ?_⟩
  have S1 := S.kp0 k1
  refine ⟨_, _, rfl, rfl, _, rfl, _, _, rfl, rfl, _, rfl, ?_⟩
  rw [← ln]
  by_cases room : roomR octs ss
  · have room' := room
    unfold roomR at room'
    have sf := safe_renew rfl (by omega) S.jp hss room'
    have nsd := renew_side (c := octs) (a := hs octs.length (1 - sideOf octs)) (stop := hs octs.length (1 - sideOf octs + 1)) (s := 1 - sideOf octs) (rs := ss) (by omega) (by omega)
    have no := renew_oct (c := octs) (a := hs octs.length (1 - sideOf octs)) (stop := hs octs.length (1 - sideOf octs + 1)) (s := 1 - sideOf octs) hss (by omega) S.oc
    have wl := evRenew_length (hs octs.length (1 - sideOf octs)) (hs octs.length (1 - sideOf octs + 1)) (1 - sideOf octs) ss
    have wk := renew_ok (n := cells.length) (a := hs octs.length (1 - sideOf octs)) (stop := hs octs.length (1 - sideOf octs + 1)) (s := 1 - sideOf octs) hss room' (by have := hs_le (n := octs.length) (s := 1 - sideOf octs + 1) (by omega) (by omega); omega) (by omega) (by omega)
    have wp : pend (evRenew (hs octs.length (1 - sideOf octs)) (hs octs.length (1 - sideOf octs + 1)) (1 - sideOf octs) ss) = [] := pend_tail _ _ _
    have hle : hs octs.length (1 - sideOf octs + 1) ≤ octs.length := hs_le (by omega) (by omega)
    have hp := hs_pos octs.length (1 - sideOf octs)
    have ea : ∀ evs : List Ev, ((((evs ++ evRecs (hs octs.length (1 - sideOf octs)) ss) ++ evEnd (hs octs.length (1 - sideOf octs) + size ss) (hs octs.length (1 - sideOf octs + 1))) ++ [none]) ++ [some (0, ((1 - sideOf octs : Nat) : Int))]) ++ [none] = evs ++ evRenew (hs octs.length (1 - sideOf octs)) (hs octs.length (1 - sideOf octs + 1)) (1 - sideOf octs) ss := fun evs => by unfold evRenew; simp [List.append_assoc]
    have eo : (appl (appl octs (evRecs (hs octs.length (1 - sideOf octs)) ss)) (evEnd (hs octs.length (1 - sideOf octs) + size ss) (hs octs.length (1 - sideOf octs + 1)))).set 0 ((1 - sideOf octs : Nat) : Int) = appl octs (evRenew (hs octs.length (1 - sideOf octs)) (hs octs.length (1 - sideOf octs + 1)) (1 - sideOf octs) ss) := by unfold evRenew; rw [appl_tail, appl_append]
    generalize evRenew (hs octs.length (1 - sideOf octs)) (hs octs.length (1 - sideOf octs + 1)) (1 - sideOf octs) ss = W at *
    generalize eside : 1 - sideOf octs = sd at *
    generalize ea0 : hs octs.length sd = a at *
    generalize est : hs octs.length (sd + 1) = st at *
    rw [decide_eq_false (by omega)]
    refine iteF ?_
    have lx := plen rvt
    refine ⟨_, rfl, t, rfl, ⟨_, SqT.of (k1.t _ _ et)⟩, for_tup (K := K) (a := t) (xs := xs) (fun i σ H' => (∃ a5, σ = [some (.ref j), some (.ref t), some (.int ((sd : Nat) : Int)), some (.int ((a + size (ss.take i) : Nat) : Int)), some (.int ((st : Nat) : Int)), a5]) ∧ Kp [o, e] H1 H' ∧
      Dsk T H' d c o e cells (appl octs (evRecs a (ss.take i))) (evs ++ evRecs a (ss.take i))) ⟨⟨none, rfl⟩, .refl, by simpa [evRecs, appl] using S1.D⟩ (fun i σ H' _ z => SqT.of (z.2.1.t _ _ (k1.t _ _ et))) (fun i x σ H' hx z => ?_) fun σ H' z => ?_⟩
    · obtain ⟨⟨a5, rfl⟩, k, D⟩ := z
      obtain ⟨y, hy, b, rfl, eb⟩ := pget rvt hx
      have hi : i < ss.length := (List.getElem?_eq_some_iff.mp hy).1
      have hmem : y ∈ ss := List.mem_of_getElem? hy
      have tk : ss.take (i + 1) = ss.take i ++ [y] := by rw [List.take_add_one, hy]; rfl
      have sz1 : size (ss.take i) + (3 + y.length) ≤ size ss := by
        have e1 := size_append (ss.take (i + 1)) (ss.drop (i + 1))
        rw [List.take_append_drop, tk, size_snoc] at e1
        omega
      obtain ⟨jx2, hj2⟩ := S1.J.ins
      have hj3 := k.k _ _ hj2 (by simp [N])
      obtain ⟨dx3, hd3⟩ := D.ins
      have rl := evRecs_length (ss.take i) a
      refine ⟨_, rfl, j, _, jx2, _, _, rfl, hj3, T.clJ, T.nJdisk, lk_disk .., d, dx3, _, rfl, hd3, lk_put .., _, rfl, ?_⟩
      refine ⟨d, c, o, e, cells, _, _, a + size (ss.take i), 1, rfl, D, by rw [appl_length]; omega, by rw [List.length_append, rl]; omega, fun H3 k3 D3 => ?_⟩
      have hj4 := k3.k _ _ hj3 (by simp [N])
      refine ⟨_, rfl, j, _, jx2, _, _, rfl, hj4, T.clJ, T.nJdisk, lk_disk .., _, rfl, _, rfl, ?_⟩
      refine ⟨d, c, o, e, cells, _, _, a + size (ss.take i), b, y, rfl, D3, k3.t _ _ (k.t _ _ (k1.t _ _ eb)), by rw [List.length_set, appl_length]; omega, by simp only [List.length_append, rl, List.length_cons, List.length_nil]; omega, fun H4 k4 D4 => ⟨⟨some (.ref b), ?_⟩, (k.trans k3).trans k4, ?_⟩⟩
      · rw [tk, size_snoc, show a + (size (ss.take i) + (3 + y.length)) = a + size (ss.take i) + 3 + y.length by omega]
        rfl
      · rw [tk, evRecs_snoc]
        have e1 : appl octs (evRecs a (ss.take i) ++ some (a + size (ss.take i), 1) :: evPut (a + size (ss.take i)) y) = appl ((appl octs (evRecs a (ss.take i))).set (a + size (ss.take i)) 1) (evPut (a + size (ss.take i)) y) := by rw [appl_append]; rfl
        rw [e1, ← List.append_assoc]
        have e2 : (evs ++ evRecs a (ss.take i)) ++ some (a + size (ss.take i), 1) :: evPut (a + size (ss.take i)) y = ((evs ++ evRecs a (ss.take i)) ++ [some (a + size (ss.take i), 1)]) ++ evPut (a + size (ss.take i)) y := by simp
        rw [e2]
        exact D4
    · obtain ⟨⟨a5, rfl⟩, k, D⟩ := z
      rw [lx, List.take_of_length_le (Nat.le_refl _)] at D
      rw [lx, List.take_of_length_le (Nat.le_refl _)]
      obtain ⟨jx2, hj2⟩ := S1.J.ins
      have hj3 := k.k _ _ hj2 (by simp [N])
      have rl := evRecs_length ss a
      have hel := evEnd_length (a + size ss) st
      refine ⟨_, rfl, j, _, jx2, _, _, rfl, hj3, T.clJ, T.nJdisk, lk_disk .., _, rfl, _, rfl, ?_⟩
      refine ⟨d, c, o, e, cells, _, _, a + size ss, st, rfl, D, by rw [appl_length]; omega, by rw [List.length_append, rl]; omega, fun H4 k4 D4 => ?_⟩
      have hj4 := k4.k _ _ hj3 (by simp [N])
      obtain ⟨dx4, hd4⟩ := D4.ins
      refine ⟨_, rfl, j, _, jx2, _, _, rfl, hj4, T.clJ, T.nJdisk, lk_disk .., d, dx4, _, rfl, hd4, lk_flush .., ?_⟩
      refine ⟨d, c, o, e, cells, _, _, rfl, D4, by simp only [List.length_append, rl]; omega, fun H5 k5 D5 => ?_⟩
      have hj5 := k5.k _ _ hj4 (by simp [N])
      obtain ⟨dx5, hd5⟩ := D5.ins
      refine ⟨_, rfl, j, _, jx2, _, _, rfl, hj5, T.clJ, T.nJdisk, lk_disk .., d, dx5, _, rfl, hd5, lk_put .., _, rfl, ?_⟩
      refine ⟨d, c, o, e, cells, _, _, 0, ((sd : Nat) : Int), rfl, D5, by rw [appl_length, appl_length]; omega, by simp only [List.length_append, rl, List.length_cons, List.length_nil]; omega, fun H6 k6 D6 => ?_⟩
      have hj6 := k6.k _ _ hj5 (by simp [N])
      obtain ⟨dx6, hd6⟩ := D6.ins
      refine ⟨_, rfl, j, _, jx2, _, _, rfl, hj6, T.clJ, T.nJdisk, lk_disk .., d, dx6, _, rfl, hd6, lk_flush .., ?_⟩
      refine ⟨d, c, o, e, cells, _, _, rfl, D6, by simp only [List.length_append, rl, List.length_cons, List.length_nil]; omega, fun H7 k7 D7 => ?_⟩
      have hj7 := k7.k _ _ hj6 (by simp [N])
      have k17 := ((((k.trans k4).trans k5).trans k6).trans k7)
      have et7 := k17.t _ _ (k1.t _ _ et)
      refine ⟨_, rfl, _, rfl, t, xs, rfl, .inr (SqT.of et7), fun l nl => ?_⟩
      have k8 : Kp [] H7 (upd H7 l (.lst xs)) := Kp.new nl
      have el : upd H7 l (.lst xs) l = some (.lst xs) := upd_same
      generalize upd H7 l (.lst xs) = H8 at k8 el ⊢
      refine ⟨_, rfl, Nat.le_trans (show 3 ≤ 16000000 by decide) (by rw [sizeLine_eq]; decide), fun p np => ?_⟩
      have k9 : Kp [] H8 (upd H8 p (.tup [.int ((sd : Nat) : Int), .ref l, .int ((a + size ss : Nat) : Int)])) := Kp.new np
      have ep : upd H8 p (.tup [.int ((sd : Nat) : Int), .ref l, .int ((a + size ss : Nat) : Int)]) p = some (.tup [.int ((sd : Nat) : Int), .ref l, .int ((a + size ss : Nat) : Int)]) := upd_same
      generalize upd H8 p (.tup [.int ((sd : Nat) : Int), .ref l, .int ((a + size ss : Nat) : Int)]) = H9 at k9 ep ⊢
      have hj9 := k9.k _ _ (k8.k _ _ hj7 (by simp)) (by simp)
      have el9 := k9.k _ _ el (by simp)
      have D9 := (D7.kp0 k8).kp0 k9
      have rv7 := recs_kp k17 (recs_kp k1 rvt)
      have nlo : l ≠ o := fun z => by rw [z, D7.oct] at nl; cases nl
      have nle : l ≠ e := fun z => by
        obtain ⟨ys, he, _⟩ := D7.evl
        rw [z, he] at nl; cases nl
      have nlj : l ≠ j := fun z => by rw [z, hj7] at nl; cases nl
      refine ⟨p, _, rfl, SqT.of ep, rfl, _, _, rfl, _, rfl, j, _, jx2, _, rfl, hj9, T.clJ, T.nJ_side, (by show 4 < 1000; decide), ?_⟩
      have ka : Kp [j] H9 (upd H9 j (.ins T.CJ jx2 (putF "_side" (.int ((sd : Nat) : Int)) (jFs d (sideOf octs) r (hs octs.length (sideOf octs) + size rs))))) := Kp.set hj9 (by simp) (by intro _ z; cases z)
      have hja : upd H9 j (.ins T.CJ jx2 (putF "_side" (.int ((sd : Nat) : Int)) (jFs d (sideOf octs) r (hs octs.length (sideOf octs) + size rs)))) j = some (.ins T.CJ jx2 (putF "_side" (.int ((sd : Nat) : Int)) (jFs d (sideOf octs) r (hs octs.length (sideOf octs) + size rs)))) := upd_same
      generalize upd H9 j (.ins T.CJ jx2 (putF "_side" (.int ((sd : Nat) : Int)) (jFs d (sideOf octs) r (hs octs.length (sideOf octs) + size rs)))) = Ha at ka hja ⊢
      refine ⟨_, _, rfl, _, rfl, j, _, jx2, _, rfl, hja, T.clJ, T.nJ_records, (by show 4 < 1000; decide), ?_⟩
      have kb : Kp [j] Ha (upd Ha j (.ins T.CJ jx2 (putF "_records" (.ref l) (putF "_side" (.int ((sd : Nat) : Int)) (jFs d (sideOf octs) r (hs octs.length (sideOf octs) + size rs)))))) := Kp.set hja (by simp) (by intro _ z; cases z)
      have hjb : upd Ha j (.ins T.CJ jx2 (putF "_records" (.ref l) (putF "_side" (.int ((sd : Nat) : Int)) (jFs d (sideOf octs) r (hs octs.length (sideOf octs) + size rs))))) j = some (.ins T.CJ jx2 (putF "_records" (.ref l) (putF "_side" (.int ((sd : Nat) : Int)) (jFs d (sideOf octs) r (hs octs.length (sideOf octs) + size rs))))) := upd_same
      generalize upd Ha j (.ins T.CJ jx2 (putF "_records" (.ref l) (putF "_side" (.int ((sd : Nat) : Int)) (jFs d (sideOf octs) r (hs octs.length (sideOf octs) + size rs))))) = Hb at kb hjb ⊢
      refine ⟨_, _, rfl, _, rfl, j, _, jx2, _, rfl, hjb, T.clJ, T.nJ_end, (by show 4 < 1000; decide), rfl, ?_⟩
      have kc : Kp [j] Hb (upd Hb j (.ins T.CJ jx2 (putF "_end" (.int ((a + size ss : Nat) : Int)) (putF "_records" (.ref l) (putF "_side" (.int ((sd : Nat) : Int)) (jFs d (sideOf octs) r (hs octs.length (sideOf octs) + size rs))))))) := Kp.set hjb (by simp) (by intro _ z; cases z)
      have pj : putF "_end" (.int ((a + size ss : Nat) : Int)) (putF "_records" (.ref l) (putF "_side" (.int ((sd : Nat) : Int)) (jFs d (sideOf octs) r (hs octs.length (sideOf octs) + size rs)))) = jFs d sd l (a + size ss) := rfl
      have k9c := (ka.trans kb).trans kc
      have k19 := (k17.then0 k8).then0 k9
      have kk := ((k1.mono (S' := [j, o, e]) fun b hb => absurd hb (by simp)).trans (k19.mono fun b hb => .inl (in3oe hb))).trans (k9c.mono fun b hb => .inl (in3j hb))
      have nlH : H l = none := (((k1.mono (S' := [o, e]) fun b hb => absurd hb (by simp)).trans k17)).fresh nl fun s hs => .inl (by
        obtain ⟨ys, he, _⟩ := D7.evl
        rcases List.mem_cons.mp hs with z | z
        · rw [z, D7.oct]; simp
        · rw [List.mem_singleton.mp z, he]; simp)
      refine q room _ W l kk nlH ⟨?_, ⟨⟨jx2, ?_⟩, xs, ?_, ?_⟩, nlo, nle, ?_, no, n1, n2, ?_, S.ev.append wk⟩ sf (by omega) wp
      · have D10 := D9.kp k9c (by simp [N]) (by simp [N.1.symm]) (by simp [N.2.1.symm])
        rw [← eo, ← ea]
        exact D10
      · rw [upd_same, pj, nsd, appl_length, ea0]
      · exact k9c.k _ _ el9 (by simpa using nlj)
      · exact recs_kp k9c (recs_kp k9 (recs_kp k8 rv7))
      · exact sf.fin _ (cut_self no)
      · rw [pend_settled S.st, wp]
  · have room' := room
    unfold roomR at room'
    rw [decide_eq_true (by omega)]
    refine iteT ⟨_, rfl, fun p np => ?_⟩
    have k2 : Kp [] H1 (upd H1 p (.xd [(("word" : Str), .str "room")])) := Kp.new np
    have e2 : upd H1 p (.xd [(("word" : Str), .str "room")]) p = some (.xd [(("word" : Str), .str "room")]) := upd_same
    generalize upd H1 p (.xd [(("word" : Str), .str "room")]) = H2 at k2 e2 ⊢
    exact qE room H2 p (k1.trans k2) (k1.fresh0 np) e2
end
end KJ
end

section
namespace KJ
open PySem PySem.Spec PyProof.Rows L2 KM
section
variable {P : Program} {w : World} {K : PySem.W.Frag} {mg : Str → Option Value} {base : Heap}
theorem cutV_map (ns : List Int) (lo hi : Option Int) : ∃ ms : List Int, cutV (ns.map V.int) lo hi = ms.map V.int ∧ ms.length ≤ ns.length ∧ ∀ x ∈ ms, x ∈ ns := by
  refine ⟨(ns.drop (HT.sIx (ns.map V.int).length 0 lo)).take (HT.sIx (ns.map V.int).length (ns.map V.int).length hi - HT.sIx (ns.map V.int).length 0 lo), ?_, ?_, fun x hx => List.mem_of_mem_drop (List.mem_of_mem_take hx)⟩
  · unfold cutV
    rw [List.map_take, List.map_drop]
  · rw [List.length_take, List.length_drop]; omega
def stirf (c : Int) : Int := 2 * (if c < 0 then -c else c) + (if decide (c < 0) = true then 1 else 0)
theorem stirf_nn (c : Int) : 0 ≤ stirf c := by unfold stirf; split <;> split <;> omega
def sp_heap (T : Tx P K mg) : Sp := fun vs H Q _ => ∃ (a : Addr) (ns : List Int), vs = [.ref a] ∧ SqL K H a (ns.map V.int) ∧ ns.length ≤ 63 ∧ ∀ H' L A, Kp [] H H' → H L = none → H A = none → L ≠ A → Hd H' L A → Q (.ref L) H'
--N 2
theorem ok_heap (T : Tx P K mg) : FnOk P w K mg base (L2.CX P w) 1 T.f_heap T.d_heap ["_law_script"] (sp_heap T) := by
  refine T.F_heap.ok (k := 0) sc_heap (fun vs H Q E h => by obtain ⟨_, _, rfl, _⟩ := h; rfl) (fun cdv A outer s H vs Q E hr h => ?_)
  refine ⟨_, PSs.nox (pss_cons (ps_par (i := 1) (j := 2) rfl sc_heap.nd rfl rfl (by decide) rfl rfl (pa_cons (pe_lc (own := [("_law_cell", 3)]) (g := gName 3) (tt := tYes) rfl sc_heap.nd (pi_list (pe_slice sl_list (pv 0) po_none (po_some pe_int))) (blkOk_by (own := [("_law_cell", 3)]) (N := ["_law_script", "_law_cells", "_law_stir", "_law_cell"]) (sc := defScope s_heap) (by decide +kernel)) (fun _ _ _ _ _ => pg_name (i := 3) sc_heap.nd rfl (Or.inl rfl)) (fun _ _ _ _ _ => pts_nil) (fun _ _ _ _ _ => (pe_op op_add (pe_op op_mul pe_int (pe_callB call_abs rfl T.n_abs (by decide +kernel) (pa_cons (pv 3) pa_nil))) (pe_callTy call_int1 rfl T.n_int (by decide +kernel) (pa_cons (pe_cmpR op_lt (pv 3) pe_int (nomark _)) pa_nil))))) (pa_cons pe_int pa_nil)) (by rfl))
 (pss_cons (ps_for PassesOwn.never rfl (pi_list (pv 1)) (pg_name (i := 3) sc_heap.nd rfl (Or.inl rfl))
 (pss_one (ps_set (i := 2) sc_heap.nd rfl (Or.inl rfl) (pe_op op_mod (pe_callTy call_int1 rfl T.n_int (by decide +kernel) (pa_cons (pe_op op_add (pe_op op_add (pe_op op_mul (pv 2) pe_int) (pe_op op_mod (pe_callTy call_int1 rfl T.n_int (by decide +kernel) (pa_cons (pv 3) pa_nil)) pe_int)) pe_int) pa_nil)) pe_int))))
 (pss_one (ps_ret (pe_lst (pa_cons (pe_revL (pe_lc (own := [("_law_cell", 3)]) (g := gName 3) rfl sc_heap.nd (pi_list (pv 1)) (blkOk_by (own := [("_law_cell", 3)]) (N := ["_law_script", "_law_cells", "_law_stir", "_law_cell"]) (sc := defScope s_heap) (by decide +kernel)) (fun _ _ _ _ _ => pg_name (i := 3) sc_heap.nd rfl (Or.inl rfl)) (fun _ _ _ _ _ => (pts_one (pt_cmpR op_ge (pv 3) (pe_op op_pow pe_int pe_int) (nomark _)))) (fun _ _ _ _ _ => (pv 3)))) (pa_cons (pv 2) pa_nil))))))), ?_⟩
  obtain ⟨a, ns, rfl, ha, hl, q⟩ := h
  refine ⟨_, rfl, _, rfl, a, _, rfl, ha, fun p np => ?_⟩
  obtain ⟨ms, em, lm, _⟩ := cutV_map ns none (some 60)
  rw [em]
  have k1 : Kp [] H (upd H p (.lst (ms.map V.int))) := Kp.new np
  have ep : upd H p (.lst (ms.map V.int)) p = some (.lst (ms.map V.int)) := upd_same
  generalize upd H p (.lst (ms.map V.int)) = H1 at k1 ep ⊢
  refine ⟨p, rfl, ⟨_, SqL.of ep⟩, fun D nD => lc_list (K := K) (a := p) (xs := ms.map V.int) (fun i H' => Kp [] H1 H' ∧ H' D = some (.lst (((ms.map stirf).take i).map V.int))) ⟨Kp.new nD, upd_same⟩ (fun i H' _ z => SqL.of (z.1.k _ _ ep (by simp))) (fun i x H' hx z => ?_) fun H' z => ?_⟩
  · rw [List.getElem?_map] at hx
    cases hy : ms[i]? with
    | none => rw [hy] at hx; cases hx
    | some y =>
      rw [hy] at hx
      obtain rfl : V.int y = x := Option.some.inj hx
      have hi : i < ms.length := (List.getElem?_eq_some_iff.mp hy).1
      refine ⟨rfl, _, rfl, _, rfl, _, _, rfl, rfl, .inl ⟨by decide, by decide⟩, _, rfl, _, _, rfl, rfl, .inr ⟨_, rfl, _, _, rfl, rfl, _, z.2, ?_, ?_⟩⟩
      · rw [List.length_map, List.length_take, List.length_map]; exact small16 (by omega)
      · refine ⟨z.1.then (Kp.set (S := [D]) z.2 (by simp) (by intro _ q; cases q)) (fun y hy => .inr (by rw [List.mem_singleton.mp hy]; exact nD)), ?_⟩
        rw [upd_same, List.take_add_one, List.getElem?_map, hy, List.map_append]
        rfl
  · have eD : H' D = some (.lst ((ms.map stirf).map V.int)) := by rw [z.2, List.length_map, List.take_of_length_le (by rw [List.length_map]; exact Nat.le_refl _)]
    have nn : ∀ x ∈ ms.map stirf, 0 ≤ x := fun x hx => by
      obtain ⟨y, _, rfl⟩ := List.mem_map.mp hx
      exact stirf_nn y
    have ll : (ms.map stirf).length ≤ 63 := by rw [List.length_map]; omega
    have kD := k1.trans z.1
    have nD' : H D = none := k1.fresh0 nD
    generalize ms.map stirf = cs at *
    refine ⟨_, _, rfl, ?_⟩
    refine ⟨_, rfl, D, rfl, ⟨_, SqL.of eD⟩, for_list (K := K) (a := D) (xs := cs.map V.int) (fun i σ H2 => H2 = H' ∧ ∃ st a3, σ = [some (.ref a), some (.ref D), some (.int st), a3] ∧ 0 ≤ st ∧ st < 2147483647) ⟨rfl, _, none, rfl, by decide, by decide⟩ (fun i σ H2 _ z => by rw [z.1]; exact SqL.of eD) (fun i x σ H2 hx z => ?_) fun σ H2 z => ?_⟩
    · obtain ⟨rfl, st, a3, rfl, s1, s2⟩ := z
      rw [List.getElem?_map] at hx
      cases hy : cs[i]? with
      | none => rw [hy] at hx; cases hx
      | some y =>
        rw [hy] at hx
        obtain rfl : V.int y = x := Option.some.inj hx
        refine ⟨_, rfl, _, _, rfl, rfl, .inl ⟨by omega, by omega⟩, _, rfl, .inl ⟨_, rfl, _, _, rfl, rfl, (by show (0 : Int) < 2147483563; decide), _, _, rfl, rfl, _, _, rfl, rfl, .inl ⟨_, rfl, _, _, rfl, rfl, (by show (0 : Int) < 2147483647; decide), rfl, _, _, rfl, Int.emod_nonneg _ (by decide), Int.emod_lt_of_pos _ (by decide)⟩⟩⟩
    · obtain ⟨rfl, st, a3, rfl, s1, s2⟩ := z
      refine ⟨_, rfl, D, rfl, ⟨_, SqL.of eD⟩, fun B nB => lc_list (K := K) (a := D) (xs := cs.map V.int) (fun i H3 => Kp [] H2 H3 ∧ H3 B = some (.lst (((cs.take i).filter fun x => decide (1000000000000000000 ≤ x)).map V.int))) ⟨Kp.new nB, upd_same⟩ (fun i H3 _ z => SqL.of (z.1.k _ _ eD (by simp))) (fun i x H3 hx z => ?_) fun H3 z => ?_⟩
      · rw [List.getElem?_map] at hx
        cases hy : cs[i]? with
        | none => rw [hy] at hx; cases hx
        | some y =>
          rw [hy] at hx
          obtain rfl : V.int y = x := Option.some.inj hx
          have hi : i < cs.length := (List.getElem?_eq_some_iff.mp hy).1
          have et : (cs.take (i + 1)).filter (fun x => decide (1000000000000000000 ≤ x)) = (cs.take i).filter (fun x => decide (1000000000000000000 ≤ x)) ++ (if decide (1000000000000000000 ≤ y) = true then [y] else []) := by
            rw [List.take_add_one, hy, List.filter_append]
            show _ ++ [y].filter _ = _
            rw [List.filter_cons, List.filter_nil]
          refine ⟨rfl, _, rfl, _, _, rfl, rfl, ⟨by decide, by decide, by decide⟩, _, _, rfl, rfl, _, rfl, ?_⟩
          show if decide (1000000000000000000 ≤ y) = true then _ else _
          by_cases hb : 1000000000000000000 ≤ y
          · rw [decide_eq_true hb] at et ⊢
            refine iteT ⟨_, rfl, _, z.2, ?_, ?_⟩
            · rw [List.length_map]
              have := List.length_filter_le (fun x : Int => decide (1000000000000000000 ≤ x)) (cs.take i)
              rw [List.length_take] at this
              exact small16 (by omega)
            · refine ⟨z.1.then (Kp.set (S := [B]) z.2 (by simp) (by intro _ q; cases q)) (fun y hy => .inr (by rw [List.mem_singleton.mp hy]; exact nB)), ?_⟩
              rw [upd_same, et, List.map_append]
              rfl
          · rw [decide_eq_false hb] at et ⊢
            refine iteF ⟨z.1, ?_⟩
            rw [z.2, et]
            simp
      · have eB := z.2
        rw [List.length_map, List.take_of_length_le (Nat.le_refl _)] at eB
        refine ⟨B, _, rfl, SqL.of eB, fun R nR => ?_⟩
        rw [← List.map_reverse]
        have k4 : Kp [] H3 (upd H3 R (.lst ((cs.filter fun x => decide (1000000000000000000 ≤ x)).reverse.map V.int))) := Kp.new nR
        have eR : upd H3 R (.lst ((cs.filter fun x => decide (1000000000000000000 ≤ x)).reverse.map V.int)) R = some (.lst ((cs.filter fun x => decide (1000000000000000000 ≤ x)).reverse.map V.int)) := upd_same
        generalize upd H3 R (.lst ((cs.filter fun x => decide (1000000000000000000 ≤ x)).reverse.map V.int)) = H4 at k4 eR ⊢
        refine ⟨_, rfl, two_size, fun L nL => ?_⟩
        have k5 : Kp [] H4 (upd H4 L (.lst [.ref R, .int st])) := Kp.new nL
        have eL : upd H4 L (.lst [.ref R, .int st]) L = some (.lst [.ref R, .int st]) := upd_same
        generalize upd H4 L (.lst [.ref R, .int st]) = H5 at k5 eL ⊢
        have k3 := kD.trans z.1
        have eR5 := k5.k _ _ eR (by simp)
        refine q H5 L R ((k3.trans k4).trans k5) ((k3.trans k4).fresh0 nL) (k3.fresh0 nR) (fun e => by rw [e, eR] at nL; cases nL) ⟨st, _, eL, eR5, s1, s2, fun n hn => ?_, ?_⟩
        · have h1 := (List.mem_filter.mp (List.mem_reverse.mp hn)).1
          exact nn n h1
        · rw [List.length_reverse]
          have := List.length_filter_le (fun x : Int => decide (1000000000000000000 ≤ x)) cs
          omega
end
end KJ
end

section
namespace KJ
open PySem PySem.Spec PyProof.Rows L2 KM
section
variable {P : Program} {w : World} {K : PySem.W.Frag} {mg : Str → Option Value} {base : Heap}
theorem shp_ints (ns : List Int) : SeqAt.shaped (.list (ns.map PyData.int)) = true := by
  have h : PyData.canLayAll0 (ns.map PyData.int) = true ∧ PyData.depthAll (ns.map PyData.int) ≤ 0 := by
    induction ns with
    | nil => exact ⟨rfl, Nat.le_refl _⟩
    | cons x ns ih => exact ⟨by simp [PyData.canLayAll0, PyData.canLay0, ih.1], by have := ih.2; simp only [List.map_cons, PyData.depthAll, PyData.depth]; omega⟩
  have h2 : (PyData.list (ns.map .int)).canLay0 = true := by simpa [PyData.canLay0] using h.1
  have h3 : (PyData.list (ns.map .int)).depth ≤ 64 := by have := h.2; simp only [PyData.depth]; omega
  simp [SeqAt.shaped, h2, h3]
theorem eqv_nil (ns : List Int) : PyData.eqv (.list (ns.map .int)) (.list []) = ns.isEmpty := by cases ns <;> simp [PyData.eqv, PyData.eqvAll]
def sp_draw (T : Tx P K mg) : Sp := fun vs H Q _ => ∃ (L : Addr) (m : Nat), vs = [.ref L, .int ((m : Nat) : Int)] ∧ ∃ A, Hd H L A ∧ 1 ≤ m ∧ m < 1073741824 ∧ ∀ H' (k : Nat), Kp [L, A] H H' → Hd H' L A → k < m → Q (.int ((k : Nat) : Int)) H'
theorem mod_nat {m : Nat} (h : 1 ≤ m) (x : Int) : ∃ k : Nat, x % ((m : Nat) : Int) = ((k : Nat) : Int) ∧ k < m := by
  have h1 := Int.emod_nonneg x (show ((m : Nat) : Int) ≠ 0 by omega)
  have h2 := Int.emod_lt_of_pos x (show (0 : Int) < ((m : Nat) : Int) by omega)
  exact ⟨(x % ((m : Nat) : Int)).toNat, by omega, by omega⟩
--N 2
theorem ok_draw (T : Tx P K mg) : FnOk P w K mg base (L2.CX P w) 1 T.f_draw T.d_draw ["_law_heap_here", "_law_many"] (sp_draw T) := by
  refine T.F_draw.ok (k := 0) sc_draw (fun vs H Q E h => by obtain ⟨_, _, rfl, _⟩ := h; rfl) (fun cdv A outer s H vs Q E hr h => ?_)
  refine ⟨_, PSs.nox (pss_cons (ps_while PassesOwn.never (PW.pt (pw_and (pt_cmpR (op_neD hr.units) (pe_ix ix_list (pv 0) pe_int (fun _ _ => rfl)) (pe_lst pa_nil) (nomark _)) (pw_and1 (pt_cmpR op_eq (pe_ix ix_list (pe_ix ix_list (pv 0) pe_int (fun _ _ => rfl)) (pe_un un_neg pe_int) (fun _ _ => rfl)) pe_int (nomark _)))))
 (pss_one (ps_expr (pe_bm0 PySem.F.plainAttrs_list PySem.F.slot_list_pop PySem.F.type_list_pop mt_pop (pe_ix ix_list (pv 0) pe_int (fun _ _ => rfl))))))
 (pss_cons (ps_if (pt_cmpR (op_neD hr.units) (pe_ix ix_list (pv 0) pe_int (fun _ _ => rfl)) (pe_lst pa_nil) (nomark _))
 (pss_cons (ps_set (i := 2) sc_draw.nd rfl (Or.inl rfl) (pe_bm0 PySem.F.plainAttrs_list PySem.F.slot_list_pop PySem.F.type_list_pop mt_pop (pe_ix ix_list (pv 0) pe_int (fun _ _ => rfl))))
 (pss_cons (ps_expr (pe_bm PySem.F.plainAttrs_list PySem.F.slot_list_append PySem.F.type_list_append mt_append (pe_ix ix_list (pv 0) pe_int (fun _ _ => rfl)) (pa_cons (pe_op op_fdiv (pv 2) (pv 1)) pa_nil)))
 (pss_one (ps_ret (pe_op op_mod (pe_callTy call_int1 rfl T.n_int (by decide +kernel) (pa_cons (pv 2) pa_nil)) (pv 1))))))
 pss_nil)
 (pss_cons (ps_asg (pe_op op_mod (pe_callTy call_int1 rfl T.n_int (by decide +kernel) (pa_cons (pe_op op_add (pe_op op_mul (pe_ix ix_list (pv 0) pe_int (fun _ _ => rfl)) pe_int) pe_int) pa_nil)) pe_int) (pg_sub (pv 0) pe_int set_list))
 (pss_one (ps_ret (pe_op op_mod (pe_callTy call_int1 rfl T.n_int (by decide +kernel) (pa_cons (pe_op op_fdiv (pe_ix ix_list (pv 0) pe_int (fun _ _ => rfl)) pe_int) pa_nil)) (pv 1))))))), ?_⟩
  obtain ⟨L, m, rfl, A, ⟨st, ns, eL, eA, s1, s2, nn, nl⟩, m1, m2, q⟩ := h
  have neq : L ≠ A := fun e => by
    rw [e, eA] at eL
    cases ns with
    | nil => simp at eL
    | cons x ns => simp at eL
  refine ⟨fun k σ H' => ∃ ms : List Int, k = ms.length ∧ σ = [some (.ref L), some (.int ((m : Nat) : Int)), none] ∧ Kp [L, A] H H' ∧ H' L = some (.lst [.ref A, .int st]) ∧ H' A = some (.lst (ms.map V.int)) ∧ (∀ n ∈ ms, 0 ≤ n) ∧ ms.length ≤ 63, ⟨_, ns, rfl, rfl, .refl, eL, eA, nn, nl⟩, ?_⟩
  rintro _ σ H1 ⟨ms, rfl, rfl, k1, eL1, eA1, nn1, nl1⟩
  refine ⟨_, rfl, L, _, _, _, rfl, rfl, SqL.of eL1, (atI_nat (j := 0) rfl), Nat.zero_le _, fun p np => ?_⟩
  have k2 : Kp [] H1 (upd H1 p (.lst [])) := Kp.new np
  have ep : upd H1 p (.lst []) p = some (.lst []) := upd_same
  generalize upd H1 p (.lst []) = H2 at k2 ep ⊢
  have eA2 := k2.k _ _ eA1 (by simp)
  have eL2 := k2.k _ _ eL1 (by simp)
  refine ⟨_, _, .lst (SqL.of eA2) (dp_ints ms), .lst (SqL.of ep) .nil, shp_ints ms, shp_ints [], _, rfl, ?_⟩
  rw [eqv_nil]
  -- behind the loop, with the numbers ms
  have back : ∀ H2, Kp [L, A] H H2 → H2 L = some (.lst [.ref A, .int st]) → H2 A = some (.lst (ms.map V.int)) → _ := fun H2 (k2 : Kp [L, A] H H2) (eL2 : H2 L = some (.lst [.ref A, .int st])) (eA2 : H2 A = some (.lst (ms.map V.int))) =>
    (show (tSeq (tIfS (tTest (tOp (rNeD K) (tOp (rIxL K) (tVar 0) (tC (.int 0))) (tLst tNil)))
        (tSeq (tAsg (tBM0 K "list" rPop (tOp (rIxL K) (tVar 0) (tC (.int 0)))) (gName 2))
          (tSeq (tDrop (tBM K "list" rAppend (tOp (rIxL K) (tVar 0) (tC (.int 0))) (tCons (tOp (rI CDiv fun i j => .int (i / j)) (tVar 2) (tVar 1)) tNil)))
            (tRet (tOp (rI (fun _ j => 0 < j) fun i j => .int (i % j)) (tCB (fun xs H Q => (∃ i, xs = [.int i] ∧ Q (.int i) H) ∨ ∃ k, xs = [.bl k] ∧ Q (.int (if k then 1 else 0)) H) (tCons (tVar 2) tNil)) (tVar 1))))) tNext)
      (tSeq (tAsg (tOp (rI (fun _ j => 0 < j) fun i j => .int (i % j)) (tCB (fun xs H Q => (∃ i, xs = [.int i] ∧ Q (.int i) H) ∨ ∃ k, xs = [.bl k] ∧ Q (.int (if k then 1 else 0)) H) (tCons (tOp (rI0 fun i j => .int (i + j)) (tOp (rI CMul fun i j => .int (i * j)) (tOp (rIxL K) (tVar 0) (tC (.int 1))) (tC (.int 69621))) (tC (.int 59))) tNil)) (tC (.int 2147483647))) (gSub (tVar 0) (tC (.int 1)) rSetL))
        (tRet (tOp (rI (fun _ j => 0 < j) fun i j => .int (i % j)) (tCB (fun xs H Q => (∃ i, xs = [.int i] ∧ Q (.int i) H) ∨ ∃ k, xs = [.bl k] ∧ Q (.int (if k then 1 else 0)) H) (tCons (tOp (rI CDiv fun i j => .int (i / j)) (tOp (rIxL K) (tVar 0) (tC (.int 1))) (tC (.int 32))) tNil)) (tVar 1)))))
      { nx := fun _ H' => Q .non H', rt := Q } [some (.ref L), some (.int ((m : Nat) : Int)), none] H2 from by
    refine ⟨_, rfl, L, _, _, _, rfl, rfl, SqL.of eL2, (atI_nat (j := 0) rfl), Nat.zero_le _, fun p np => ?_⟩
    have k3 : Kp [] H2 (upd H2 p (.lst [])) := Kp.new np
    have ep : upd H2 p (.lst []) p = some (.lst []) := upd_same
    generalize upd H2 p (.lst []) = H3 at k3 ep ⊢
    have eA3 := k3.k _ _ eA2 (by simp)
    have eL3 := k3.k _ _ eL2 (by simp)
    refine ⟨_, _, .lst (SqL.of eA3) (dp_ints ms), .lst (SqL.of ep) .nil, shp_ints ms, shp_ints [], _, rfl, ?_⟩
    rw [eqv_nil]
    have k03 := k2.then0 k3
    rcases snoc_or ms with rfl | ⟨ys, y, rfl⟩
    · refine iteF ?_
      refine ⟨_, rfl, L, _, _, _, rfl, rfl, SqL.of eL3, (atI_nat (j := 1) rfl), _, _, rfl, rfl, .inl ⟨by omega, by omega⟩, _, _, rfl, rfl, .inl ⟨_, rfl, _, _, rfl, rfl, (by show (0 : Int) < 2147483647; decide), _, rfl, L, _, _, 1, rfl, rfl, eL3, rfl, ?_⟩⟩
      have k4' : Kp [L] H3 (upd H3 L (.lst ([V.ref A, V.int st].set 1 ((fun i j => V.int (i % j)) (st * 69621 + 59) 2147483647)))) := Kp.set eL3 (by simp) (by intro _ z; cases z)
      have eL4 : upd H3 L (.lst ([V.ref A, V.int st].set 1 ((fun i j => V.int (i % j)) (st * 69621 + 59) 2147483647))) L = some (.lst ([V.ref A, V.int st].set 1 ((fun i j => V.int (i % j)) (st * 69621 + 59) 2147483647))) := upd_same
      generalize upd H3 L (.lst ([V.ref A, V.int st].set 1 ((fun i j => V.int (i % j)) (st * 69621 + 59) 2147483647))) = H4 at k4' eL4 ⊢
      have eL4 : H4 L = some (.lst [.ref A, .int ((st * 69621 + 59) % 2147483647)]) := eL4
      have eA4 : H4 A = some (.lst (([] : List Int).map V.int)) := k4'.k _ _ eA3 (by simpa using neq.symm)
      have k4 : Kp [L, A] H3 H4 := k4'.mono fun b hb => .inl (by simp [List.mem_singleton.mp hb])
      have t1 := Int.emod_nonneg (st * 69621 + 59) (show (2147483647 : Int) ≠ 0 by decide)
      have t2 := Int.emod_lt_of_pos (st * 69621 + 59) (show (0 : Int) < 2147483647 by decide)
      generalize (st * 69621 + 59) % 2147483647 = s3 at *
      obtain ⟨k, ek, hk⟩ := mod_nat m1 (s3 / 32)
      refine ⟨_, rfl, L, _, _, _, rfl, rfl, SqL.of eL4, (atI_nat (j := 1) rfl), _, _, rfl, rfl, ⟨by decide, by decide⟩, .inl ⟨_, rfl, _, rfl, _, _, rfl, rfl, (by show (0 : Int) < ((m : Nat) : Int); omega), ?_⟩⟩
      show Q (.int (s3 / 32 % ((m : Nat) : Int))) H4
      rw [ek]
      exact q H4 k (k03.trans k4) ⟨s3, [], eL4, eA4, t1, t2, fun n hn => absurd hn (by simp), by simp⟩ hk
    · have ne : (ys ++ [y]).isEmpty = false := by cases ys <;> rfl
      rw [ne]
      refine iteT ?_
      have nny := nn1 y (by simp)
      refine ⟨_, rfl, L, _, _, _, rfl, rfl, SqL.of eL3, (atI_nat (j := 0) rfl), .inl ⟨rfl, _, SqL.of eA3⟩, A, _, .int y, rfl, rfl, eA3, by simp, ?_⟩
      rw [List.map_append, List.map_singleton, List.dropLast_concat]
      have k4' : Kp [A] H3 (upd H3 A (.lst (ys.map V.int))) := Kp.set eA3 (by simp) (by intro _ z; cases z)
      have eA4 : upd H3 A (.lst (ys.map V.int)) A = some (.lst (ys.map V.int)) := upd_same
      generalize upd H3 A (.lst (ys.map V.int)) = H4 at k4' eA4 ⊢
      have eL4 : H4 L = some (.lst [.ref A, .int st]) := k4'.k _ _ eL3 (by simpa using neq)
      have k4 : Kp [L, A] H3 H4 := k4'.mono fun b hb => .inl (by simp [List.mem_singleton.mp hb])
      refine ⟨_, rfl, L, _, _, _, rfl, rfl, SqL.of eL4, (atI_nat (j := 0) rfl), .inl ⟨rfl, _, SqL.of eA4⟩, _, rfl, _, rfl, _, _, rfl, rfl, ⟨by omega, by omega⟩, A, _, _, rfl, rfl, eA4, by rw [List.length_map]; rw [List.length_append] at nl1; exact small16 (by omega), ?_⟩
      have k5' : Kp [A] H4 (upd H4 A (.lst (ys.map V.int ++ [.int (y / ((m : Nat) : Int))]))) := Kp.set eA4 (by simp) (by intro _ z; cases z)
      have eA5 : upd H4 A (.lst (ys.map V.int ++ [.int (y / ((m : Nat) : Int))])) A = some (.lst (ys.map V.int ++ [.int (y / ((m : Nat) : Int))])) := upd_same
      generalize upd H4 A (.lst (ys.map V.int ++ [.int (y / ((m : Nat) : Int))])) = H5 at k5' eA5 ⊢
      have eL5 : H5 L = some (.lst [.ref A, .int st]) := k5'.k _ _ eL4 (by simpa using neq)
      have k5 : Kp [L, A] H4 H5 := k5'.mono fun b hb => .inl (by simp [List.mem_singleton.mp hb])
      obtain ⟨k, ek, hk⟩ := mod_nat m1 y
      refine ⟨_, rfl, .inl ⟨_, rfl, _, rfl, _, _, rfl, rfl, (by show (0 : Int) < ((m : Nat) : Int); omega), ?_⟩⟩
      show Q (.int (y % ((m : Nat) : Int))) H5
      rw [ek]
      refine q H5 k ((k03.trans k4).trans k5) ⟨st, ys ++ [y / ((m : Nat) : Int)], eL5, by rw [List.map_append]; exact eA5, s1, s2, fun n hn => ?_, by simpa using nl1⟩ hk
      rcases List.mem_append.mp hn with z | z
      · exact nn1 n (List.mem_append_left _ z)
      · rw [List.mem_singleton.mp z]
        exact Int.ediv_nonneg nny (by omega))
  rcases snoc_or ms with rfl | ⟨ys, y, rfl⟩
  · exact iteF (back H2 (k1.then0 k2) eL2 eA2)
  · have ne : (ys ++ [y]).isEmpty = false := by cases ys <;> rfl
    rw [ne]
    refine iteT ⟨_, rfl, L, _, _, _, rfl, rfl, SqL.of eL2, (atI_nat (j := 0) rfl), _, rfl, A, _, _, .int y, rfl, rfl, SqL.of eA2, by rw [List.map_append]; exact atI_last _ _, rfl, _, rfl, ?_⟩
    rw [dec_int]
    by_cases hy : y = 0
    · rw [show (y == 0) = true by simpa using hy]
      refine ⟨fun σ' H' => ∃ m' : Nat, m' < (ys ++ [y]).length ∧ ∃ ms : List Int, m' = ms.length ∧ σ' = [some (.ref L), some (.int ((m : Nat) : Int)), none] ∧ Kp [L, A] H H' ∧ H' L = some (.lst [.ref A, .int st]) ∧ H' A = some (.lst (ms.map V.int)) ∧ (∀ n ∈ ms, 0 ≤ n) ∧ ms.length ≤ 63, fun σ' H' z => z, ?_⟩
      refine ⟨_, rfl, L, _, _, _, rfl, rfl, SqL.of eL2, (atI_nat (j := 0) rfl), .inl ⟨rfl, _, SqL.of eA2⟩, A, _, .int y, rfl, rfl, eA2, by simp, ?_⟩
      rw [List.map_append, List.map_singleton, List.dropLast_concat]
      have k3' : Kp [A] H2 (upd H2 A (.lst (ys.map V.int))) := Kp.set eA2 (by simp) (by intro _ z; cases z)
      have eA3 : upd H2 A (.lst (ys.map V.int)) A = some (.lst (ys.map V.int)) := upd_same
      generalize upd H2 A (.lst (ys.map V.int)) = H3 at k3' eA3 ⊢
      have eL3 : H3 L = some (.lst [.ref A, .int st]) := k3'.k _ _ eL2 (by simpa using neq)
      have k3 : Kp [L, A] H2 H3 := k3'.mono fun b hb => .inl (by simp [List.mem_singleton.mp hb])
      exact ⟨_, by rw [List.length_append, List.length_singleton]; exact Nat.lt_succ_self _, ys, rfl, rfl, (k1.then0 k2).trans k3, eL3, eA3, fun n hn => nn1 n (List.mem_append_left _ hn), by rw [List.length_append] at nl1; omega⟩
    · rw [show (y == 0) = false by simpa using hy]
      exact back H2 (k1.then0 k2) eL2 eA2
end
end KJ
end

section
namespace KJ
open PySem PySem.Spec PyProof.Rows L2 KM
section
variable {P : Program} {w : World} {K : PySem.W.Frag} {mg : Str → Option Value} {base : Heap}
theorem inLA1 {L A b : Addr} (h : b ∈ [L]) : b ∈ [L, A] := by simp [List.mem_singleton.mp h]
def sp_pick (T : Tx P K mg) : Sp := fun vs H Q _ => ∃ (L s : Addr) (xs : List V), vs = [.ref L, .ref s] ∧ ∃ A, Hd H L A ∧ H s = some (.lst xs) ∧ 1 ≤ xs.length ∧ xs.length < 1073741824 ∧ s ≠ L ∧ s ≠ A ∧ ∀ H' x, Kp [L, A] H H' → Hd H' L A → x ∈ xs → Q x H'
--N 3
theorem ok_pick (T : Tx P K mg) : FnOk P w K mg base (L2.CX P w) 2 T.f_pick T.d_pick ["_law_heap_here", "_law_some"] (sp_pick T) := by
  refine T.F_pick.ok (k := 1) sc_pick (fun vs H Q E h => by obtain ⟨_, _, _, rfl, _⟩ := h; rfl) (fun cdv A outer s H vs Q E hr h => ?_)
  refine ⟨_, PSs.nox (pss_one (ps_ret (pe_ix ix_list (pv 1) (pe_call (ok_draw T) (hr.mono (by decide)) rfl T.g_draw T.F_draw.kp T.b_draw .nil passL (pa_cons (pv 0) (pa_cons (pe_callB call_len_seq rfl T.n_len (by decide +kernel) (pa_cons (pv 1) pa_nil)) pa_nil))) (fun _ _ => rfl)))), ?_⟩
  obtain ⟨L, s, xs, rfl, A, hd, es, l1, l2, nL, nA, q⟩ := h
  refine ⟨_, rfl, _, rfl, _, rfl, s, xs, rfl, .inl (SqL.of es), L, xs.length, rfl, A, hd, l1, l2, fun H1 k k1 hd1 hk => ?_⟩
  have es1 := k1.k _ _ es (by simp [nL, nA])
  exact ⟨s, xs, _, xs[k], rfl, rfl, SqL.of es1, atI_nat (List.getElem?_eq_getElem hk), q H1 _ k1 hd1 (List.getElem_mem hk)⟩
theorem Hd.nn {H : Hp} {L A p : Addr} (h : Hd H L A) (np : H p = none) : p ≠ L ∧ p ≠ A := by
  obtain ⟨st, ns, e1, e2, _⟩ := h
  refine ⟨fun z => ?_, fun z => ?_⟩
  · rw [z, e1] at np; cases np
  · rw [z, e2] at np; cases np
theorem Hd.ne {H : Hp} {L A : Addr} (h : Hd H L A) : L ≠ A := by
  obtain ⟨st, ns, e1, e2, _⟩ := h
  intro e
  rw [e, e2] at e1
  cases ns with
  | nil => simp at e1
  | cons x ns => simp at e1
theorem Hd.kp0 {H H' : Hp} (a : Kp [] H H') {L A : Addr} (h : Hd H L A) : Hd H' L A := h.kp a (by simp) (by simp)
theorem kLA {H H' : Hp} {L A : Addr} (a : Kp [] H H') : Kp [L, A] H H' := a.mono fun _ z => absurd z (by simp)
def sp_octet (T : Tx P K mg) : Sp := fun vs H Q _ => ∃ (L : Addr), vs = [.ref L] ∧ ∃ A, Hd H L A ∧ ∀ H' x, Kp [L, A] H H' → Hd H' L A → Oct x → Q (.int x) H'
--N 1
theorem ok_octet (T : Tx P K mg) : FnOk P w K mg base (L2.CX P w) 3 T.f_octet T.d_octet ["_law_heap_here"] (sp_octet T) := by
  refine T.F_octet.ok (k := 2) sc_octet (fun vs H Q E h => by obtain ⟨_, rfl, _⟩ := h; rfl) (fun cdv A outer s H vs Q E hr h => ?_)
  refine ⟨_, PSs.nox (pss_cons (ps_set (i := 1) sc_octet.nd rfl (Or.inl rfl) (pe_call (ok_draw T) (hr.mono (by decide)) rfl T.g_draw T.F_draw.kp T.b_draw .nil passL (pa_cons (pv 0) (pa_cons pe_int pa_nil))))
 (pss_cons (ps_if (pt_cmpR op_eq (pv 1) pe_int (nomark _))
 (pss_one (ps_ret (pe_call (ok_pick T) (hr.mono (by decide)) rfl T.g_pick T.F_pick.kp T.b_pick .nil passL (pa_cons (pv 0) (pa_cons (pe_lst (pa_cons pe_int (pa_cons pe_int (pa_cons pe_int (pa_cons pe_int (pa_cons pe_int (pa_cons pe_int pa_nil))))))) pa_nil)))))
 pss_nil)
 (pss_one (ps_ret (pe_call (ok_draw T) (hr.mono (by decide)) rfl T.g_draw T.F_draw.kp T.b_draw .nil passL (pa_cons (pv 0) (pa_cons (pe_ifExp (pt_cmpR op_lt (pv 1) pe_int (nomark _)) pe_int pe_int) pa_nil))))))), ?_⟩
  obtain ⟨L, rfl, A, hd, q⟩ := h
  refine ⟨_, rfl, L, 4, rfl, A, hd, by decide, by decide, fun H1 k k1 hd1 hk => ?_⟩
  refine ⟨_, rfl, rfl, _, rfl, ?_⟩
  rw [dec_int]
  by_cases h0 : k = 0
  · subst h0
    refine iteT ⟨_, rfl, Nat.le_trans (show 6 ≤ 16000000 by decide) (by rw [sizeLine_eq]; decide), fun s ns => ?_⟩
    have k2 : Kp [] H1 (upd H1 s (.lst [.int 0, .int 255, .int 1, .int 254, .int 128, .int 127])) := Kp.new ns
    have es : upd H1 s (.lst [.int 0, .int 255, .int 1, .int 254, .int 128, .int 127]) s = some (.lst [.int 0, .int 255, .int 1, .int 254, .int 128, .int 127]) := upd_same
    generalize upd H1 s (.lst [.int 0, .int 255, .int 1, .int 254, .int 128, .int 127]) = H2 at k2 es ⊢
    have nn := hd1.nn ns
    refine ⟨L, s, _, rfl, A, hd1.kp0 k2, es, (show 1 ≤ 6 by decide), (show 6 < 1073741824 by decide), nn.1, nn.2, fun H3 x k3 hd3 hx => ?_⟩
    have k13 := (k1.trans (kLA k2)).trans k3
    simp only [List.mem_cons, List.not_mem_nil, or_false] at hx
    rcases hx with rfl | rfl | rfl | rfl | rfl | rfl <;> exact q H3 _ k13 hd3 (by constructor <;> decide)
  · rw [show (((k : Nat) : Int) == 0) = false from by simpa using h0]
    refine iteF ⟨_, rfl, _, rfl, _, _, rfl, rfl, _, rfl, ?_⟩
    by_cases h3 : k < 3
    · rw [decide_eq_true (by omega)]
      refine iteT ⟨L, 256, rfl, A, hd1, by decide, by decide, fun H2 k' k2 hd2 hk' => ?_⟩
      exact q H2 _ (k1.trans k2) hd2 (by constructor <;> omega)
    · rw [decide_eq_false (by omega)]
      refine iteF ⟨L, 3, rfl, A, hd1, by decide, by decide, fun H2 k' k2 hd2 hk' => ?_⟩
      exact q H2 _ (k1.trans k2) hd2 (by constructor <;> omega)
def sp_record (T : Tx P K mg) : Sp := fun vs H Q _ => ∃ (L : Addr) (b : Bool), vs = [.ref L, .bl b] ∧ ∃ A, Hd H L A ∧ ∀ (H' : Hp) (t : Addr) (r : List Int), Kp [L, A] H H' → Hd H' L A → H' t = some (.tup (r.map V.int)) → (∀ x ∈ r, Oct x) → r.length ≤ 300 → Q (.ref t) H'
--N 2
theorem ok_record (T : Tx P K mg) : FnOk P w K mg base (L2.CX P w) 4 T.f_record T.d_record ["_law_heap_here", "_law_long"] (sp_record T) := by
  refine T.F_record.ok (k := 3) sc_record (fun vs H Q E h => by obtain ⟨_, _, rfl, _⟩ := h; rfl) (fun cdv A outer s H vs Q E hr h => ?_)
  refine ⟨_, PSs.nox (pss_cons (ps_if (PW.pt (pw_and (pt_val (pv 1)) (pw_and1 (pt_cmpR op_eq (pe_call (ok_draw T) (hr.mono (by decide)) rfl T.g_draw T.F_draw.kp T.b_draw .nil passL (pa_cons (pv 0) (pa_cons pe_int pa_nil))) pe_int (nomark _)))))
 (pss_one (ps_ret (pe_op op_catA (pe_op op_rep1 (pe_tup (pa_cons (pe_call (ok_octet T) (hr.mono (by decide)) rfl T.g_octet T.F_octet.kp T.b_octet .nil passL (pa_cons (pv 0) pa_nil)) pa_nil)) (pe_op op_add pe_int (pe_call (ok_draw T) (hr.mono (by decide)) rfl T.g_draw T.F_draw.kp T.b_draw .nil passL (pa_cons (pv 0) (pa_cons pe_int pa_nil))))) (pe_tup (pa_cons (pe_call (ok_octet T) (hr.mono (by decide)) rfl T.g_octet T.F_octet.kp T.b_octet .nil passL (pa_cons (pv 0) pa_nil)) (pa_cons pe_int (pa_cons pe_int pa_nil)))))))
 pss_nil)
 (pss_one (ps_ret (pe_callTy call_tuple_of rfl T.n_tuple (by decide +kernel) (pa_cons (pe_lc (own := [("_law_at", 2)]) (g := gName 2) (tt := tYes) rfl sc_record.nd (pi_range1 rfl T.n_range (pa_cons (pe_call (ok_pick T) (hr.mono (by decide)) rfl T.g_pick T.F_pick.kp T.b_pick .nil passL (pa_cons (pv 0) (pa_cons (pe_lst (pa_cons pe_int (pa_cons pe_int (pa_cons pe_int (pa_cons pe_int (pa_cons pe_int (pa_cons pe_int pa_nil))))))) pa_nil))) pa_nil)) (blkOk_by (own := [("_law_at", 2)]) (N := ["_law_heap_here", "_law_long", "_law_at"]) (sc := defScope s_record) (by decide +kernel)) (fun _ _ _ _ _ => pg_name (i := 2) sc_record.nd rfl (Or.inl rfl)) (fun _ _ _ _ _ => pts_nil) (fun _ _ _ _ _ => (pe_call (ok_octet T) (hr.mono (by decide)) rfl T.g_octet T.F_octet.kp T.b_octet .nil passL (pa_cons (pv 0) pa_nil)))) pa_nil))))), ?_⟩
  obtain ⟨L, b, rfl, A, hd, q⟩ := h
  have back : ∀ H1, Kp [L, A] H H1 → Hd H1 L A → _ := fun H1 (k1 : Kp [L, A] H H1) (hd1 : Hd H1 L A) =>
    (show tRet (tCB (fun xs H Q => ∃ p ys, xs = [V.ref p] ∧ ((SqL K H p ys ∧ ∀ l, H l = none → Q (.ref l) (upd H l (.tup ys))) ∨ (SqT K H p ys ∧ Q (.ref p) H))) (tCons (tLc (iRng1 (tCons (tCall (sp_pick T) [] E0 (tCons (tVar 0) (tCons (tLst (tCons (tC (.int 3)) (tCons (tC (.int 0)) (tCons (tC (.int 1)) (tCons (tC (.int 2)) (tCons (tC (.int 5)) (tCons (tC (.int 7)) tNil))))))) tNil))) tNil)) (gName 2) tYes (tCall (sp_octet T) [] E0 (tCons (tVar 0) tNil)) [2]) tNil))
      { nx := fun _ H' => Q .non H', rt := Q } [some (.ref L), some (.bl b), none] H1 from by
    refine ⟨_, rfl, Nat.le_trans (show 6 ≤ 16000000 by decide) (by rw [sizeLine_eq]; decide), fun s ns => ?_⟩
    have k2 : Kp [] H1 (upd H1 s (.lst [.int 3, .int 0, .int 1, .int 2, .int 5, .int 7])) := Kp.new ns
    have es : upd H1 s (.lst [.int 3, .int 0, .int 1, .int 2, .int 5, .int 7]) s = some (.lst [.int 3, .int 0, .int 1, .int 2, .int 5, .int 7]) := upd_same
    generalize upd H1 s (.lst [.int 3, .int 0, .int 1, .int 2, .int 5, .int 7]) = H2 at k2 es ⊢
    have nn := hd1.nn ns
    refine ⟨L, s, _, rfl, A, hd1.kp0 k2, es, (show 1 ≤ 6 by decide), (show 6 < 1073741824 by decide), nn.1, nn.2, fun H3 x k3 hd3 hx => ?_⟩
    obtain ⟨n, rfl, hn⟩ : ∃ n : Nat, x = .int ((n : Nat) : Int) ∧ n ≤ 7 := by
      simp only [List.mem_cons, List.not_mem_nil, or_false] at hx
      rcases hx with rfl | rfl | rfl | rfl | rfl | rfl
      · exact ⟨3, rfl, by decide⟩
      · exact ⟨0, rfl, by decide⟩
      · exact ⟨1, rfl, by decide⟩
      · exact ⟨2, rfl, by decide⟩
      · exact ⟨5, rfl, by decide⟩
      · exact ⟨7, rfl, by decide⟩
    have k13 := (k1.trans (kLA k2)).trans k3
    refine ⟨_, rfl, by omega, by omega, fun D nD => ?_⟩
    rw [Int.toNat_natCast]
    have nd := hd3.nn nD
    refine lc_range (lo := 0) (n := n) (fun i H' => Kp [L, A] H3 H' ∧ Hd H' L A ∧ ∃ r : List Int, H' D = some (.lst (r.map V.int)) ∧ r.length = i ∧ ∀ y ∈ r, Oct y) ⟨Kp.new nD, hd3.kp (Kp.new nD (S := [])) (by simp) (by simp), [], upd_same, rfl, fun y hy => absurd hy (by simp)⟩ (fun i H' hi z => ?_) fun H' z => ?_
    · obtain ⟨kz, hz, r, eD, lr, ho⟩ := z
      refine ⟨rfl, _, rfl, L, rfl, A, hz, fun H4 y k4 hd4 oy => ?_⟩
      have eD4 := k4.k _ _ eD (by simp [nd])
      refine ⟨_, eD4, by rw [List.length_map]; exact small16 (by omega), ?_⟩
      have k5 : Kp [D] H4 (upd H4 D (.lst (r.map V.int ++ [.int y]))) := Kp.set eD4 (by simp) (by intro _ q; cases q)
      refine ⟨(kz.trans k4).then k5 (fun z hz => .inr (by rw [List.mem_singleton.mp hz]; exact nD)), hd4.kp k5 (by simp [nd.1.symm]) (by simp [nd.2.symm]), r ++ [y], by rw [upd_same, List.map_append]; rfl, by rw [List.length_append, List.length_singleton]; omega, fun z hz => ?_⟩
      rcases List.mem_append.mp hz with h1 | h1
      · exact ho z h1
      · rw [List.mem_singleton.mp h1]; exact oy
    · obtain ⟨kz, hz, r, eD, lr, ho⟩ := z
      refine ⟨D, _, rfl, .inl ⟨SqL.of eD, fun t nt => ?_⟩⟩
      have k4 : Kp [] H' (upd H' t (.tup (r.map V.int))) := Kp.new nt
      have et : upd H' t (.tup (r.map V.int)) t = some (.tup (r.map V.int)) := upd_same
      generalize upd H' t (.tup (r.map V.int)) = H4 at k4 et ⊢
      exact q H4 t r ((k13.trans kz).trans (kLA k4)) (hz.kp0 k4) et ho (by omega))
  refine ⟨_, rfl, b, rfl, ?_⟩
  cases b with
  | false => exact iteF (iteF (back H .refl hd))
  | true =>
    refine iteT ⟨_, rfl, L, 3, rfl, A, hd, by decide, by decide, fun H1 k k1 hd1 hk => ?_⟩
    refine ⟨rfl, _, rfl, ?_⟩
    rw [dec_int]
    by_cases h0 : k = 0
    · subst h0
      refine iteT ⟨_, rfl, L, rfl, A, hd1, fun H2 x k2 hd2 ox => ?_⟩
      refine ⟨Nat.le_trans (show 1 ≤ 2 by decide) two_size, fun t nt => ?_⟩
      have k3 : Kp [] H2 (upd H2 t (.tup [.int x])) := Kp.new nt
      have et : upd H2 t (.tup [.int x]) t = some (.tup [.int x]) := upd_same
      generalize upd H2 t (.tup [.int x]) = H3 at k3 et ⊢
      have hd3 := hd2.kp0 k3
      refine ⟨_, rfl, L, 12, rfl, A, hd3, by decide, by decide, fun H4 k' k4 hd4 hk' => ?_⟩
      have et4 := k4.t _ _ et
      refine ⟨_, _, rfl, rfl, rep_use et4 (by omega) (by omega) fun p H5 k5 ep => ?_⟩
      have hd5 := hd4.kp0 k5
      refine ⟨_, rfl, L, rfl, A, hd5, fun H6 y k6 hd6 oy => ?_⟩
      refine ⟨Nat.le_trans (show 3 ≤ 16000000 by decide) (by rw [sizeLine_eq]; decide), fun u nu => ?_⟩
      have k7 : Kp [] H6 (upd H6 u (.tup [.int y, .int 0, .int 7])) := Kp.new nu
      have eu : upd H6 u (.tup [.int y, .int 0, .int 7]) u = some (.tup [.int y, .int 0, .int 7]) := upd_same
      generalize upd H6 u (.tup [.int y, .int 0, .int 7]) = H7 at k7 eu ⊢
      have ep7 := k7.t _ _ (k6.t _ _ ep)
      refine cat_use ep7 eu (by rw [List.length_replicate, sizeLine_eq]; show _ + 3 ≤ _; omega) fun w H8 k8 ew => ?_
      have er : List.replicate ((250 : Int) + ((k' : Nat) : Int)).toNat (V.int x) ++ [.int y, .int 0, .int 7] = (List.replicate ((250 : Int) + ((k' : Nat) : Int)).toNat x ++ [y, 0, 7]).map V.int := by rw [List.map_append, List.map_replicate]; rfl
      rw [er] at ew
      refine q H8 w _ ((((((k1.trans k2).trans (kLA k3)).trans k4).trans (kLA k5)).trans k6).trans (kLA (k7.trans k8))) (hd6.kp0 (k7.trans k8)) ew (fun z hz => ?_) ?_
      · rcases List.mem_append.mp hz with h1 | h1
        · rw [(List.mem_replicate.mp h1).2]; exact ox
        · simp only [List.mem_cons, List.not_mem_nil, or_false] at h1
          rcases h1 with rfl | rfl | rfl
          · exact oy
          · constructor <;> decide
          · constructor <;> decide
      · rw [List.length_append, List.length_replicate]
        show _ + 3 ≤ 300
        omega
    · rw [show (((k : Nat) : Int) == 0) = false from by simpa using h0]
      exact iteF (back H1 k1 hd1)
end
end KJ
end

section
namespace KJ
open PySem PySem.Spec PyProof.Rows L2 KM
section
variable {P : Program} {w : World} {K : PySem.W.Frag} {mg : Str → Option Value} {base : Heap}
def nV (i : Nat) : V := .int ((i : Nat) : Int)
theorem pend_len (es : List Ev) : (KM.pend es).length ≤ es.length := by
  have h : ∀ (es : List Ev) (l : List Nat), (es.foldl pen1 l).length ≤ l.length + es.length := fun es => by
    induction es with
    | nil => intro l; exact Nat.le_refl _
    | cons e es ih =>
      intro l
      have := ih (pen1 l e)
      have h2 : (pen1 l e).length ≤ l.length + 1 := by rcases e with _ | ⟨p, x⟩ <;> simp [pen1]
      show (es.foldl pen1 (pen1 l e)).length ≤ l.length + (es.length + 1)
      omega
  exact Nat.le_trans (h es []) (by simp)
theorem take_snoc {α : Type} {l : List α} {i : Nat} {x : α} (h : l[i]? = some x) : l.take (i + 1) = l.take i ++ [x] := by rw [List.take_add_one, h]; rfl
def pendL (n : Nat) (es : List Ev) : List Nat := (List.range n).filter fun i => decide (i ∈ KM.pend es)
theorem inV_nat (i : Nat) (ps : List Nat) : inV (nV i) (ps.map nV) = decide (i ∈ ps) := by
  induction ps with
  | nil => simp [inV]
  | cons p ps ih =>
    have e : inV (nV i) ((p :: ps).map nV) = (eqV (nV p) (nV i) || inV (nV i) (ps.map nV)) := by simp [inV]
    rw [e, ih]
    have e2 : eqV (nV p) (nV i) = decide (i = p) := by
      show (((p : Nat) : Int) == ((i : Nat) : Int)) = _
      by_cases h : i = p
      · simp [h]
      · rw [decide_eq_false h]; simp; omega
    rw [e2]
    by_cases h1 : i = p <;> by_cases h2 : i ∈ ps <;> simp [h1, h2]
theorem flat_nat (ps : List Nat) : (ps.map nV).all flatV = true := by
  rw [List.all_eq_true]
  intro x hx
  obtain ⟨p, _, rfl⟩ := List.mem_map.mp hx
  rfl
theorem nat_len {ps : List Nat} : (ps.map nV).length = ps.length := List.length_map _
def sp_lasting (T : Tx P K mg) : Sp := fun vs H Q _ => ∃ (c t : Addr) (cells : List Int) (es : List Ev), vs = [.ref c, .ref t] ∧ H c = some (.tup (cells.map V.int)) ∧ EvT H t es ∧ EvOk cells.length es ∧ (∀ x ∈ cells, Oct x) ∧ es.length < 15000000 ∧ cells.length ≤ 20000 ∧
  ∀ (H' : Hp) (v l1 l2 l3 : Addr) (ls : List Int), Kp [] H H' → H v = none → H l1 = none → H l2 = none → H l3 = none → v ≠ l1 → l1 ≠ l2 → l1 ≠ l3 → H' v = some (.lst [.ref l1, .ref l2, .ref l3]) → H' l1 = some (.lst (ls.map V.int)) → H' l2 = some (.lst ((pendL cells.length es).map nV)) →
    H' l3 = some (.lst ((appl cells es).map V.int)) → ls.length = cells.length → (∀ x ∈ ls, Oct x) → (∀ i, i ∉ pend es → ls.getD i 0 = (appl cells es).getD i 0) → Q (.ref v) H'
--N 4
theorem ok_lasting (T : Tx P K mg) : FnOk P w K mg base (L2.CX P w) 1 T.f_lasting T.d_lasting ["_law_cells", "_law_events"] (sp_lasting T) := by
  refine T.F_lasting.ok (k := 0) sc_lasting (fun vs H Q E h => by obtain ⟨_, _, _, _, rfl, _⟩ := h; rfl) (fun cdv A outer s H vs Q E hr h => ?_)
  refine ⟨_, PSs.nox (pss_cons (ps_asg (pe_tup (pa_cons (pe_callTy call_list_of rfl T.n_list (by decide +kernel) (pa_cons (pv 0) pa_nil)) (pa_cons (pe_callTy call_list_of rfl T.n_list (by decide +kernel) (pa_cons (pv 0) pa_nil)) (pa_cons (pe_lst pa_nil) pa_nil)))) (pg_tup rfl (pgs_cons (pg_name (i := 2) sc_lasting.nd rfl (Or.inl rfl)) (pgs_cons (pg_name (i := 3) sc_lasting.nd rfl (Or.inl rfl)) (pgs_cons (pg_name (i := 4) sc_lasting.nd rfl (Or.inr rfl)) pgs_nil)))))
 (pss_cons (ps_for PassesOwn.never rfl (pi_tup (pv 1)) (pg_name (i := 5) sc_lasting.nd rfl (Or.inl rfl))
 (pss_one (ps_if (pt_cmpR op_isN (pv 5) pe_non (nomark _))
 (pss_cons (ps_for PassesOwn.never rfl (pi_list (pv 4)) (pg_name (i := 6) sc_lasting.nd rfl (Or.inl rfl))
 (pss_one (ps_asg (pe_ix ix_list (pv 2) (pv 6) (fun _ _ => rfl)) (pg_sub (pv 3) (pv 6) set_list))))
 (pss_one (ps_set (i := 4) sc_lasting.nd rfl (Or.inr rfl) (pe_lst pa_nil))))
 (pss_cons (ps_asg (pe_ix ix_tup (pv 5) pe_int (fun _ _ => rfl)) (pg_sub (pv 2) (pe_ix ix_tup (pv 5) pe_int (fun _ _ => rfl)) set_list))
 (pss_one (ps_expr (pe_bm PySem.F.plainAttrs_list PySem.F.slot_list_append PySem.F.type_list_append mt_append (pv 4) (pa_cons (pe_ix ix_tup (pv 5) pe_int (fun _ _ => rfl)) pa_nil))))))))
 (pss_one (ps_ret (pe_lst (pa_cons (pv 3) (pa_cons (pe_lc (own := [("_law_at", 6)]) (g := gName 6) rfl sc_lasting.nd (pi_range1 rfl T.n_range (pa_cons (pe_callB call_len_seq rfl T.n_len (by decide +kernel) (pa_cons (pv 0) pa_nil)) pa_nil)) (blkOk_by (own := [("_law_at", 6)]) (N := ["_law_cells", "_law_events", "_law_now", "_law_lasts", "_law_pending", "_law_event", "_law_at"]) (sc := defScope s_lasting) (by decide +kernel)) (fun _ _ _ _ _ => pg_name (i := 6) sc_lasting.nd rfl (Or.inl rfl)) (fun _ _ _ _ _ => (pts_one (pt_cmpR (r := rIn K false) op_in_seq (pv 6) (pv 4) (by rfl)))) (fun _ _ _ _ _ => (pv 6))) (pa_cons (pv 2) pa_nil)))))))), ?_⟩
  obtain ⟨c, t, cells, es, rfl, ec, ⟨xs, et, rv⟩, eok, oc, hl, hn, q⟩ := h
  have lx := plen rv
  refine ⟨_, rfl, c, _, rfl, .inr (SqT.of ec), fun n nn => ?_⟩
  have k1 : Kp [] H (upd H n (.lst (cells.map V.int))) := Kp.new nn
  have en : upd H n (.lst (cells.map V.int)) n = some (.lst (cells.map V.int)) := upd_same
  generalize upd H n (.lst (cells.map V.int)) = H1 at k1 en ⊢
  refine ⟨_, rfl, c, _, rfl, .inr (SqT.of (k1.t _ _ ec)), fun l nl => ?_⟩
  have k2 : Kp [] H1 (upd H1 l (.lst (cells.map V.int))) := Kp.new nl
  have el : upd H1 l (.lst (cells.map V.int)) l = some (.lst (cells.map V.int)) := upd_same
  generalize upd H1 l (.lst (cells.map V.int)) = H2 at k2 el ⊢
  have en2 := k2.k _ _ en (by simp)
  refine ⟨Nat.zero_le _, fun p np => ?_⟩
  have k3 : Kp [] H2 (upd H2 p (.lst [])) := Kp.new np
  have ep : upd H2 p (.lst []) p = some (.lst []) := upd_same
  generalize upd H2 p (.lst []) = H3 at k3 ep ⊢
  have en3 := k3.k _ _ en2 (by simp)
  have el3 := k3.k _ _ el (by simp)
  refine ⟨Nat.le_trans (show 3 ≤ 16000000 by decide) (by rw [sizeLine_eq]; decide), fun tt ntt => ?_⟩
  have k4 : Kp [] H3 (upd H3 tt (.tup [.ref n, .ref l, .ref p])) := Kp.new ntt
  have ett : upd H3 tt (.tup [.ref n, .ref l, .ref p]) tt = some (.tup [.ref n, .ref l, .ref p]) := upd_same
  generalize upd H3 tt (.tup [.ref n, .ref l, .ref p]) = H4 at k4 ett ⊢
  have en4 := k4.k _ _ en3 (by simp)
  have el4 := k4.k _ _ el3 (by simp)
  have ep4 := k4.k _ _ ep (by simp)
  have kk := ((k1.trans k2).trans k3).trans k4
  have nlH := k1.fresh0 nl
  have npH := (k1.trans k2).fresh0 np
  have d1 : n ≠ l := fun z => by rw [z] at en; rw [en] at nl; cases nl
  have d2 : n ≠ p := fun z => by rw [z] at en2; rw [en2] at np; cases np
  have d3 : l ≠ p := fun z => by rw [z] at el; rw [el] at np; cases np
  refine ⟨tt, _, rfl, SqT.of ett, rfl, _, _, rfl, _, _, rfl, _, _, rfl, rfl, ?_⟩
  refine ⟨_, rfl, t, rfl, ⟨_, SqT.of (kk.t _ _ et)⟩, for_tup (K := K) (a := t) (xs := xs) (fun i σ H' => ∃ (pd : Addr) (a5 a6 : Option V) (ls : List Int), σ = [some (.ref c), some (.ref t), some (.ref n), some (.ref l), some (.ref pd), a5, a6] ∧ Kp [] H H' ∧
    H' n = some (.lst ((appl cells (es.take i)).map V.int)) ∧ H' l = some (.lst (ls.map V.int)) ∧ H' pd = some (.lst ((pend (es.take i)).map nV)) ∧ H pd = none ∧ n ≠ pd ∧ l ≠ pd ∧ ls.length = cells.length ∧ (∀ x ∈ ls, Oct x) ∧ (∀ j, j ∉ pend (es.take i) → ls.getD j 0 = (appl cells (es.take i)).getD j 0))
    ⟨p, none, none, cells, rfl, kk, by simpa [appl] using en4, el4, by simpa [pend] using ep4, npH, d2, d3, rfl, oc, fun j _ => by simp [appl]⟩ (fun i σ H' _ z => by
      obtain ⟨_, _, _, _, _, k, _⟩ := z
      exact SqT.of (k.t _ _ et)) (fun i x σ H' hx z => ?_) fun σ H' z => ?_⟩
  · obtain ⟨pd, a5, a6, ls, rfl, k, en', el', ep', npd, dn, dl, ll, lo, le⟩ := z
    obtain ⟨e, he, ev⟩ := pget rv hx
    have hi : i < es.length := (List.getElem?_eq_some_iff.mp he).1
    have tk := take_snoc he
    rcases e with _ | ⟨pp, y⟩
    · obtain rfl : x = .non := ev
      refine ⟨_, rfl, rfl, _, rfl, iteT ?_⟩
      have lp : ((pend (es.take i)).map nV).length = (pend (es.take i)).length := nat_len
      refine ⟨_, rfl, pd, rfl, ⟨_, SqL.of ep'⟩, for_list (K := K) (a := pd) (xs := (pend (es.take i)).map nV) (fun m σ H'' => ∃ (a6 : Option V) (ls : List Int), σ = [some (.ref c), some (.ref t), some (.ref n), some (.ref l), some (.ref pd), some .non, a6] ∧ Kp [] H H'' ∧
        H'' n = some (.lst ((appl cells (es.take i)).map V.int)) ∧ H'' l = some (.lst (ls.map V.int)) ∧ H'' pd = some (.lst ((pend (es.take i)).map nV)) ∧ ls.length = cells.length ∧ (∀ x ∈ ls, Oct x) ∧ (∀ j, j ∉ (pend (es.take i)).drop m → ls.getD j 0 = (appl cells (es.take i)).getD j 0))
        ⟨a6, ls, rfl, k, en', el', ep', ll, lo, by simpa using le⟩ (fun m σ H'' _ z => by
          obtain ⟨_, _, _, _, _, _, e, _⟩ := z
          exact SqL.of e) (fun m x σ H'' hx z => ?_) fun σ H'' z => ?_⟩
      · obtain ⟨a6, ls, rfl, k2, e1, e2, e3, ll2, lo2, le2⟩ := z
        rw [List.getElem?_map] at hx
        cases hy : (pend (es.take i))[m]? with
        | none => rw [hy] at hx; cases hx
        | some b =>
          rw [hy] at hx
          obtain rfl : nV b = x := Option.some.inj hx
          have hb : b < cells.length := (eok.take i).pend (List.mem_of_getElem? hy)
          have hm : m < (pend (es.take i)).length := (List.getElem?_eq_some_iff.mp hy).1
          have al : (appl cells (es.take i)).length = cells.length := appl_length _ _
          refine ⟨_, rfl, _, rfl, n, _, _, _, rfl, rfl, SqL.of e1, at_int (by rw [al]; exact hb), _, rfl, _, rfl, l, _, _, b, rfl, rfl, e2, ixn (by rw [List.length_map, ll2]; exact hb), ?_⟩
          rw [map_set]
          have k3 : Kp [l] H'' (upd H'' l (.lst ((ls.set b ((appl cells (es.take i)).getD b 0)).map V.int))) := Kp.set e2 (by simp) (by intro _ z; cases z)
          refine ⟨_, _, rfl, k2.then k3 (fun z hz => .inr (by rw [List.mem_singleton.mp hz]; exact nlH)), k3.k _ _ e1 (by simpa using d1), upd_same, k3.k _ _ e3 (by simpa using dl.symm), by rw [List.length_set]; exact ll2, fun z hz => ?_, fun j hj => ?_⟩
          · rcases List.mem_or_eq_of_mem_set hz with h1 | h1
            · exact lo2 z h1
            · rw [h1]
              exact oct_at (appl_oct _ _ (fun p x hx => (eok.take i p x hx).2) oc) b
          · rw [getD_set]
            by_cases h1 : b = j
            · subst h1
              rw [if_pos ⟨rfl, by rw [ll2]; exact hb⟩]
            · rw [if_neg (fun z => h1 z.1)]
              refine le2 j fun hj2 => hj ?_
              rw [List.drop_eq_getElem_cons hm] at hj2
              have eb : (pend (es.take i))[m] = b := (List.getElem?_eq_some_iff.mp hy).2
              rcases List.mem_cons.mp hj2 with h2 | h2
              · exact absurd (h2.trans eb).symm h1
              · exact h2
      · obtain ⟨a6, ls, rfl, k2, e1, e2, e3, ll2, lo2, le2⟩ := z
        rw [lp, List.drop_length] at le2
        refine ⟨Nat.zero_le _, fun pd2 npd2 => ?_⟩
        have k3 : Kp [] H'' (upd H'' pd2 (.lst [])) := Kp.new npd2
        have e1' := k3.k _ _ e1 (by simp)
        have e2' := k3.k _ _ e2 (by simp)
        have ap : appl cells (es.take (i + 1)) = appl cells (es.take i) := by rw [tk, appl_append]; rfl
        have pp : pend (es.take (i + 1)) = [] := by rw [tk, pend_snoc]; rfl
        refine ⟨pd2, _, _, ls, rfl, k2.trans k3, by rw [ap]; exact e1', e2', by rw [pp]; exact upd_same, k2.fresh0 npd2, fun z => ?_, fun z => ?_, ll2, lo2, fun j _ => by rw [ap]; exact le2 j (by simp)⟩
        · rw [← z, e1] at npd2; cases npd2
        · rw [← z, e2] at npd2; cases npd2
    · obtain ⟨a, rfl, ea⟩ := ev
      have ea' := k.t _ _ ea
      have hmem : some (pp, y) ∈ es := List.mem_of_getElem? he
      have hb := (eok pp y hmem).1
      have al : (appl cells (es.take i)).length = cells.length := appl_length _ _
      have ap : appl cells (es.take (i + 1)) = (appl cells (es.take i)).set pp y := by rw [tk, appl_append]; rfl
      have pq : pend (es.take (i + 1)) = pend (es.take i) ++ [pp] := by rw [tk, pend_snoc]; rfl
      refine ⟨_, rfl, rfl, _, rfl, iteF ?_⟩
      refine ⟨_, rfl, a, _, _, _, rfl, rfl, SqT.of ea', atI_nat (j := 1) rfl, _, rfl, _, rfl, a, _, _, _, rfl, rfl, SqT.of ea', atI_nat (j := 0) rfl, n, _, _, pp, rfl, rfl, en', ixn (by rw [List.length_map, al]; exact hb), ?_⟩
      rw [map_set]
      have k5 : Kp [n] H' (upd H' n (.lst (((appl cells (es.take i)).set pp y).map V.int))) := Kp.set en' (by simp) (by intro _ z; cases z)
      have en5 : upd H' n (.lst (((appl cells (es.take i)).set pp y).map V.int)) n = some (.lst (((appl cells (es.take i)).set pp y).map V.int)) := upd_same
      generalize upd H' n (.lst (((appl cells (es.take i)).set pp y).map V.int)) = H5 at k5 en5 ⊢
      have ep5 := k5.k _ _ ep' (by simpa using dn.symm)
      have el5 := k5.k _ _ el' (by simpa using d1.symm)
      have pl := pend_len (es.take i)
      rw [List.length_take] at pl
      refine ⟨_, rfl, .inl ⟨rfl, _, SqL.of ep5⟩, _, rfl, a, _, _, _, rfl, rfl, SqT.of (k5.t _ _ ea'), atI_nat (j := 0) rfl, pd, _, nV pp, rfl, rfl, ep5, by rw [nat_len]; exact small16 (by omega), ?_⟩
      have k6 : Kp [pd] H5 (upd H5 pd (.lst ((pend (es.take i)).map nV ++ [nV pp]))) := Kp.set ep5 (by simp) (by intro _ z; cases z)
      refine ⟨pd, _, _, ls, rfl, (k.then k5 (fun z hz => .inr (by rw [List.mem_singleton.mp hz]; exact nn))).then k6 (fun z hz => .inr (by rw [List.mem_singleton.mp hz]; exact npd)), ?_, k6.k _ _ el5 (by simpa using dl), ?_, npd, dn, dl, ll, lo, fun j hj => ?_⟩
      · rw [ap]; exact k6.k _ _ en5 (by simpa using dn)
      · rw [upd_same, pq, List.map_append]; rfl
      · rw [pq] at hj
        rw [ap, getD_set, if_neg (fun z => hj (by simp [z.1])), le j (fun z => hj (List.mem_append_left _ z))]
  · obtain ⟨pd, a5, a6, ls, rfl, k, en', el', ep', npd, dn, dl, ll, lo, le⟩ := z
    rw [lx, List.take_of_length_le (Nat.le_refl _)] at en' ep' le
    refine ⟨_, rfl, _, rfl, c, _, rfl, .inr (SqT.of (k.t _ _ ec)), _, rfl, by omega, by rw [List.length_map]; omega, fun D nD => ?_⟩
    rw [Int.toNat_natCast, List.length_map]
    refine lc_range (lo := 0) (n := cells.length) (fun i H2 => Kp [] H' H2 ∧ H2 D = some (.lst ((pendL i es).map nV))) ⟨Kp.new nD, upd_same⟩ (fun i H2 hi z => ?_) fun H2 z => ?_
    · have e0 : (0 : Int) + ((i : Nat) : Int) = ((i : Nat) : Int) := by omega
      rw [e0]
      have pl : pendL (i + 1) es = pendL i es ++ (if decide (i ∈ pend es) = true then [i] else []) := by
        unfold pendL
        rw [List.range_succ, List.filter_append, List.filter_cons, List.filter_nil]
      have iv := inV_nat i (pend es)
      refine ⟨rfl, _, rfl, _, rfl, pd, _, rfl, .inl (SqL.of (z.1.k _ _ ep' (by simp))), rfl, flat_nat _, _, rfl, ?_⟩
      show if inV (nV i) ((pend es).map nV) = true then _ else _
      rw [iv]
      by_cases hb : i ∈ pend es
      · rw [decide_eq_true hb] at pl ⊢
        refine iteT ⟨_, rfl, _, z.2, ?_, ?_⟩
        · rw [nat_len]
          have := List.length_filter_le (fun i => decide (i ∈ pend es)) (List.range i)
          rw [List.length_range] at this
          exact small16 (by show ((List.range i).filter _).length < _; omega)
        · refine ⟨z.1.then (Kp.set (S := [D]) z.2 (by simp) (by intro _ q; cases q)) (fun y hy => .inr (by rw [List.mem_singleton.mp hy]; exact nD)), ?_⟩
          rw [upd_same, pl, List.map_append]
          rfl
      · rw [decide_eq_false hb] at pl ⊢
        refine iteF ⟨z.1, ?_⟩
        rw [z.2, pl]
        simp
    · refine ⟨_, rfl, Nat.le_trans (show 3 ≤ 16000000 by decide) (by rw [sizeLine_eq]; decide), fun v nv => ?_⟩
      have k5 : Kp [] H2 (upd H2 v (.lst [.ref l, .ref D, .ref n])) := Kp.new nv
      have ev : upd H2 v (.lst [.ref l, .ref D, .ref n]) v = some (.lst [.ref l, .ref D, .ref n]) := upd_same
      generalize upd H2 v (.lst [.ref l, .ref D, .ref n]) = H5 at k5 ev ⊢
      have k2 := z.1.trans k5
      have el2 := k2.k _ _ el' (by simp)
      refine q H5 v l D n ls (k.trans k2) ((k.trans z.1).fresh0 nv) nlH (k.fresh0 nD) nn (fun e => ?_) (fun e => ?_) d1.symm ev el2 (k5.k _ _ z.2 (by simp)) (k2.k _ _ en' (by simp)) ll lo le
      · rw [e, z.1.k _ _ el' (by simp)] at nv; cases nv
      · rw [← e, el'] at nD; cases nD
end
end KJ
end

section
namespace KJ
open PySem PySem.Spec PyProof.Rows L2 KM
section
variable {P : Program} {w : World} {K : PySem.W.Frag} {mg : Str → Option Value} {base : Heap}
theorem ifb {b : Bool} {A B : Prop} (h1 : b = true → A) (h2 : b = false → B) : if b = true then A else B := by
  cases b with
  | true => exact iteT (h1 rfl)
  | false => exact iteF (h2 rfl)
def sp_left (T : Tx P K mg) : Sp := fun vs H Q _ => ∃ (L c t : Addr) (cells : List Int) (es : List Ev), vs = [.ref L, .ref c, .ref t] ∧ ∃ A, Hd H L A ∧ H c = some (.tup (cells.map V.int)) ∧ EvT H t es ∧ EvOk cells.length es ∧ (∀ x ∈ cells, Oct x) ∧ es.length < 15000000 ∧ cells.length ≤ 20000 ∧
  ∀ (H' : Hp) (v : Addr) (d : List Int), Kp [L, A] H H' → Hd H' L A → H' v = some (.tup (d.map V.int)) → Cut cells es d → Q (.ref v) H'
--N 5
theorem ok_left (T : Tx P K mg) : FnOk P w K mg base (L2.CX P w) 4 T.f_left T.d_left ["_law_heap_here", "_law_cells", "_law_events"] (sp_left T) := by
  refine T.F_left.ok (k := 3) sc_left (fun vs H Q E h => by obtain ⟨_, _, _, _, _, rfl, _⟩ := h; rfl) (fun cdv A outer s H vs Q E hr h => ?_)
  refine ⟨_, PSs.nox (pss_cons (ps_asg (pe_call (ok_lasting T) (hr.mono (by decide)) rfl T.g_lasting T.F_lasting.kp T.b_lasting .nil passL (pa_cons (pv 1) (pa_cons (pv 2) pa_nil))) (pg_unl rfl (pgs_cons (pg_name (i := 3) sc_left.nd rfl (Or.inl rfl)) (pgs_cons (pg_name (i := 4) sc_left.nd rfl (Or.inl rfl)) (pgs_cons (pg_name (i := 5) sc_left.nd rfl (Or.inl rfl)) pgs_nil)))))
 (pss_cons (ps_set (i := 6) sc_left.nd rfl (Or.inl rfl) (pe_call (ok_draw T) (hr.mono (by decide)) rfl T.g_draw T.F_draw.kp T.b_draw .nil passL (pa_cons (pv 0) (pa_cons pe_int pa_nil))))
 (pss_cons (ps_for PassesOwn.never rfl (pi_list (pv 4)) (pg_name (i := 7) sc_left.nd rfl (Or.inl rfl))
 (pss_one (ps_if (PW.pt (pw_or (pt_cmpR op_eq (pv 6) pe_int (nomark _)) (pw_or1 (PW.pt (pw_and (pt_cmpR op_gt (pv 6) pe_int (nomark _)) (pw_and1 (pt_cmpR op_eq (pe_call (ok_draw T) (hr.mono (by decide)) rfl T.g_draw T.F_draw.kp T.b_draw .nil passL (pa_cons (pv 0) (pa_cons pe_int pa_nil))) pe_int (nomark _))))))))
 (pss_one (ps_asg (pe_ix ix_list (pv 5) (pv 7) (fun _ _ => rfl)) (pg_sub (pv 3) (pv 7) set_list)))
 (pss_one (ps_if (pt_cmpR op_eq (pv 6) pe_int (nomark _))
 (pss_one (ps_asg (pe_op op_sub pe_int (pe_ix ix_list (pv 5) (pv 7) (fun _ _ => rfl))) (pg_sub (pv 3) (pv 7) set_list)))
 (pss_one (ps_if (PW.pt (pw_or (pt_cmpR op_eq (pv 6) pe_int (nomark _)) (pw_or1 (pt_cmpR op_eq (pv 6) pe_int (nomark _)))))
 (pss_one (ps_asg (pe_call (ok_octet T) (hr.mono (by decide)) rfl T.g_octet T.F_octet.kp T.b_octet .nil passL (pa_cons (pv 0) pa_nil)) (pg_sub (pv 3) (pv 7) set_list)))
 pss_nil)))))))
 (pss_one (ps_ret (pe_callTy call_tuple_of rfl T.n_tuple (by decide +kernel) (pa_cons (pv 3) pa_nil))))))), ?_⟩
  obtain ⟨L, c, t, cells, es, rfl, A, hd, ec, et, eok, oc, hl, hn, q⟩ := h
  refine ⟨_, rfl, _, rfl, c, t, cells, es, rfl, ec, et, eok, oc, hl, hn, fun H1 v l1 l2 l3 ls k1 nv n1 n2 n3 d0 d1 d2 ev e1 e2 e3 ll lo le => ?_⟩
  refine ⟨v, _, rfl, SqL.of ev, rfl, _, _, rfl, _, _, rfl, _, _, rfl, rfl, ?_⟩
  have hd1 := hd.kp0 k1
  have oc3 := appl_oct es cells (fun p x hx => (eok p x hx).2) oc
  have al : (appl cells es).length = cells.length := appl_length _ _
  have m1 := hd.nn n1
  have m2 := hd.nn n2
  have m3 := hd.nn n3
  have d23 : l2 ≠ l1 := d1.symm
  refine ⟨_, rfl, L, 6, rfl, A, hd1, by decide, by decide, fun H2 way k2 hd2 hw => ?_⟩
  have e1' := k2.k _ _ e1 (by simp [m1])
  have e2' := k2.k _ _ e2 (by simp [m2])
  have e3' := k2.k _ _ e3 (by simp [m3])
  have k02 : Kp [L, A] H H2 := (kLA k1).trans k2
  have pm : ∀ i ∈ pendL cells.length es, i < cells.length ∧ i ∈ pend es := fun i hi => by
    obtain ⟨h1, h2⟩ := List.mem_filter.mp hi
    exact ⟨List.mem_range.mp h1, by simpa using h2⟩
  refine ⟨_, rfl, l2, rfl, ⟨_, SqL.of e2'⟩, for_list (K := K) (a := l2) (xs := (pendL cells.length es).map nV) (fun i σ H' => ∃ (a7 : Option V) (ls : List Int), σ = [some (.ref L), some (.ref c), some (.ref t), some (.ref l1), some (.ref l2), some (.ref l3), some (.int ((way : Nat) : Int)), a7] ∧ Kp [L, A] H H' ∧ Hd H' L A ∧
    H' l1 = some (.lst (ls.map V.int)) ∧ H' l2 = some (.lst ((pendL cells.length es).map nV)) ∧ H' l3 = some (.lst ((appl cells es).map V.int)) ∧ ls.length = cells.length ∧ (∀ x ∈ ls, Oct x) ∧ (∀ j, j ∉ pend es → ls.getD j 0 = (appl cells es).getD j 0))
    ⟨none, ls, rfl, k02, hd2, e1', e2', e3', ll, lo, le⟩ (fun i σ H' _ z => by
      obtain ⟨_, _, _, _, _, _, e, _⟩ := z
      exact SqL.of e) (fun i x σ H' hx z => ?_) fun σ H' z => ?_⟩
  · obtain ⟨a7, ls, rfl, k, hdz, f1, f2, f3, ll, lo, le⟩ := z
    rw [List.getElem?_map] at hx
    cases hy : (pendL cells.length es)[i]? with
    | none => rw [hy] at hx; cases hx
    | some b =>
      rw [hy] at hx
      obtain rfl : nV b = x := Option.some.inj hx
      obtain ⟨hb, hbp⟩ := pm b (List.mem_of_getElem? hy)
      have fin : ∀ (H3 : Hp) (y : Int), Kp [L, A] H' H3 → Hd H3 L A → Oct y → H3 l1 = some (.lst (ls.map V.int)) ∧ ∃ (ls' : List Int), (ls.map V.int).set b (.int y) = ls'.map V.int ∧ Kp [L, A] H (upd H3 l1 (.lst (ls'.map V.int))) ∧ Hd (upd H3 l1 (.lst (ls'.map V.int))) L A ∧
          upd H3 l1 (.lst (ls'.map V.int)) l1 = some (.lst (ls'.map V.int)) ∧ upd H3 l1 (.lst (ls'.map V.int)) l2 = some (.lst ((pendL cells.length es).map nV)) ∧ upd H3 l1 (.lst (ls'.map V.int)) l3 = some (.lst ((appl cells es).map V.int)) ∧ ls'.length = cells.length ∧ (∀ x ∈ ls', Oct x) ∧ (∀ j, j ∉ pend es → ls'.getD j 0 = (appl cells es).getD j 0) := fun H3 y k3 hd3 oy => by
        have g1 := k3.k _ _ f1 (by simp [m1])
        have g2 := k3.k _ _ f2 (by simp [m2])
        have g3 := k3.k _ _ f3 (by simp [m3])
        have k4 : Kp [l1] H3 (upd H3 l1 (.lst ((ls.set b y).map V.int))) := Kp.set g1 (by simp) (by intro _ z; cases z)
        refine ⟨g1, ls.set b y, map_set _ _ _, (k.trans k3).then k4 (fun z hz => .inr (by rw [List.mem_singleton.mp hz]; exact n1)), hd3.kp k4 (by simp [m1.1.symm]) (by simp [m1.2.symm]), upd_same, k4.k _ _ g2 (by simpa using d23), k4.k _ _ g3 (by simpa using d2.symm), by rw [List.length_set]; exact ll, fun z hz => ?_, fun j hj => ?_⟩
        · rcases List.mem_or_eq_of_mem_set hz with h1 | h1
          · exact lo z h1
          · rw [h1]; exact oy
        · rw [getD_set, if_neg (fun z => hj (by rw [← z.1]; exact hbp)), le j hj]
      have nowb : atI ((appl cells es).map V.int) ((b : Nat) : Int) = some (.int ((appl cells es).getD b 0)) := at_int (by rw [al]; exact hb)
      have ix1 : ∀ ls : List Int, ls.length = cells.length → ixN (ls.map V.int).length ((b : Nat) : Int) = some b := fun ls h => ixn (by rw [List.length_map, h]; exact hb)
      have onow := oct_at oc3 b
      have cond : ∀ Qc : Bool → Hp → Prop, (∀ H3 b, Kp [L, A] H' H3 → Hd H3 L A → Qc b H3) → tOr (tTest (tOp rEq (tVar 6) (tC (.int 0)))) (tAnd (tTest (tOp (rI0 fun i j => V.bl (decide (j < i))) (tVar 6) (tC (.int 2)))) (tTest (tOp rEq (tCall (sp_draw T) [] E0 (tCons (tVar 0) (tCons (tC (.int 2)) tNil))) (tC (.int 0)))))
          [some (.ref L), some (.ref c), some (.ref t), some (.ref l1), some (.ref l2), some (.ref l3), some (.int ((way : Nat) : Int)), some (nV b)] H' Qc := fun Qc hq => by
        refine ⟨_, rfl, rfl, _, rfl, ?_⟩
        refine ifb (fun _ => ?_) (fun _ => ?_)
        · exact hq _ _ .refl hdz
        · refine ⟨_, rfl, _, _, rfl, rfl, _, rfl, ?_⟩
          refine ifb (fun _ => ?_) (fun _ => ?_)
          · exact ⟨_, rfl, L, 2, rfl, A, hdz, by decide, by decide, fun H3 k' k3 hd3 hk => ⟨rfl, _, rfl, hq _ _ k3 hd3⟩⟩
          · exact hq _ _ .refl hdz
      refine cond _ fun H3 bb k3 hd3 => ?_
      have g3 := k3.k _ _ f3 (by simp [m3])
      cases bb with
      | true =>
        obtain ⟨g1, ls', el, r1, r2, r3, r4, r5, r6, r7, r8⟩ := fin H3 _ k3 hd3 onow
        refine iteT ⟨_, rfl, _, rfl, l3, _, _, _, rfl, rfl, SqL.of g3, nowb, _, rfl, _, rfl, l1, _, _, b, rfl, rfl, g1, ix1 _ ll, ?_⟩
        rw [el]
        exact ⟨_, ls', rfl, r1, r2, r3, r4, r5, r6, r7, r8⟩
      | false =>
        refine iteF ⟨_, rfl, rfl, _, rfl, ?_⟩
        refine ifb (fun _ => ?_) (fun _ => ?_)
        · obtain ⟨g1, ls', el, r1, r2, r3, r4, r5, r6, r7, r8⟩ := fin H3 (255 - (appl cells es).getD b 0) k3 hd3 (by have h1 := onow.1; have h2 := onow.2; constructor <;> omega)
          refine ⟨_, rfl, _, rfl, l3, _, _, _, rfl, rfl, SqL.of g3, nowb, _, _, rfl, rfl, _, rfl, _, rfl, l1, _, _, b, rfl, rfl, g1, ix1 _ ll, ?_⟩
          have el' : (ls.map V.int).set b ((fun i j => V.int (i - j)) 255 ((appl cells es).getD b 0)) = ls'.map V.int := el
          rw [el']
          exact ⟨_, ls', rfl, r1, r2, r3, r4, r5, r6, r7, r8⟩
        · have g1 := k3.k _ _ f1 (by simp [m1])
          have g2 := k3.k _ _ f2 (by simp [m2])
          have put : ∀ (τ : Bool → Hp → Prop), (∀ b, τ b H3) → tOr (tTest (tOp rEq (tVar 6) (tC (.int 2)))) (tTest (tOp rEq (tVar 6) (tC (.int 5)))) [some (.ref L), some (.ref c), some (.ref t), some (.ref l1), some (.ref l2), some (.ref l3), some (.int ((way : Nat) : Int)), some (nV b)] H3 τ := fun τ h => by
            refine ⟨_, rfl, rfl, _, rfl, ?_⟩
            refine ifb (fun _ => ?_) (fun _ => ?_)
            · exact h _
            · exact ⟨_, rfl, rfl, _, rfl, h _⟩
          refine put _ fun bb => ?_
          cases bb with
          | true =>
            refine iteT ⟨_, rfl, L, rfl, A, hd3, fun H4 y k4 hd4 oy => ?_⟩
            obtain ⟨g1, ls', el, r1, r2, r3, r4, r5, r6, r7, r8⟩ := fin H4 y (k3.trans k4) hd4 oy
            refine ⟨_, rfl, _, rfl, l1, _, _, b, rfl, rfl, g1, ix1 _ ll, ?_⟩
            rw [el]
            exact ⟨_, ls', rfl, r1, r2, r3, r4, r5, r6, r7, r8⟩
          | false => exact iteF ⟨_, ls, rfl, k.trans k3, hd3, g1, g2, g3, ll, lo, le⟩
  · obtain ⟨a7, ls, rfl, k, hdz, f1, f2, f3, ll, lo, le⟩ := z
    refine ⟨_, rfl, l1, _, rfl, .inl ⟨SqL.of f1, fun u nu => ?_⟩⟩
    have k5 : Kp [] H' (upd H' u (.tup (ls.map V.int))) := Kp.new nu
    have eu : upd H' u (.tup (ls.map V.int)) u = some (.tup (ls.map V.int)) := upd_same
    generalize upd H' u (.tup (ls.map V.int)) = H5 at k5 eu ⊢
    exact q H5 u ls (k.trans (kLA k5)) (hdz.kp0 k5) eu ⟨ll, lo, le⟩
end
end KJ
end

section
namespace KJ
open PySem PySem.Spec PyProof.Rows L2 KM
section
variable {P : Program} {w : World} {K : PySem.W.Frag} {mg : Str → Option Value} {base : Heap}
theorem _root_.L2.FunD.okG {CX : CXT} {N ps : List Str} {k : Nat} {sp : Sp} {x qual : Str} {params : Arguments} {body : List Stmt} {scope : Scope} {dvs : List V} {kws : List (Str × V)} {f : Addr} {fd : FuncData} (F : FunD K x qual params body scope dvs kws f fd) (S : FnScope N ps scope) (len : ∀ vs H Q E, sp vs H Q E → vs.length = ps.length)
    (hbody : ∀ (cdv : Value) (A : Around) (outer : List Env) (s : Shared) (H : Hp) (vs : List V) (Q : VK) (E : XK), Room k (A.deeper (envOfC qual scope s.heap.objs.size f cdv)) → A.guards = some [] → sp vs H Q E →
      ∃ t, PSs (cxOf CX P w K mg base N qual scope f cdv A outer s H E) body t ∧ t { nx := fun _ H' => Q .non H', rt := Q } (start N vs) H) : FnG P w K mg base CX (k + 1) f fd ps sp := by
  obtain ⟨oc, od, dV, kV, doc, pm, an, cdv, ct, osl, rfl, lk, hcd, _, _⟩ := F.ex
  exact fng_of lk hcd S len fun A outer s H vs Q E hr hg hsp => hbody cdv A outer s H vs Q E hr hg hsp
theorem sIx_nat' (n d k : Nat) : HT.sIx n d (some ((k : Nat) : Int)) = min k n := by
  show (if ((k : Nat) : Int) < 0 then (((k : Nat) : Int) + (n : Int)).toNat else min ((k : Nat) : Int).toNat n) = min k n
  rw [if_neg (by omega), Int.toNat_natCast]
theorem cutV_to (xs : List V) (n : Nat) : cutV xs none (some ((n : Nat) : Int)) = xs.take n := by
  unfold cutV
  rw [sIx_nat']
  show (xs.drop 0).take (min n xs.length - 0) = _
  rw [List.drop_zero, Nat.sub_zero]
  by_cases h : n ≤ xs.length
  · rw [Nat.min_eq_left h]
  · rw [Nat.min_eq_right (by omega), List.take_of_length_le (Nat.le_refl _), List.take_of_length_le (by omega)]
theorem cutV_mid (xs : List V) (a b : Nat) (h : a ≤ b) (h2 : b ≤ xs.length) : cutV xs (some ((a : Nat) : Int)) (some ((b : Nat) : Int)) = (xs.drop a).take (b - a) := by
  unfold cutV
  rw [sIx_nat', sIx_nat', Nat.min_eq_left h2, Nat.min_eq_left (by omega)]
theorem cutV_fr (xs : List V) (a : Nat) (h : a ≤ xs.length) : cutV xs (some ((a : Nat) : Int)) none = xs.drop a := by
  unfold cutV
  rw [sIx_nat', Nat.min_eq_left h]
  show (xs.drop a).take (xs.length - a) = _
  rw [List.take_of_length_le (by rw [List.length_drop]; exact Nat.le_refl _)]
theorem cutV_but (xs : List V) (x : V) : cutV (xs ++ [x]) none (some (-1)) = xs := by
  unfold cutV
  have h : HT.sIx (xs ++ [x]).length (xs ++ [x]).length (some (-1)) = xs.length := by
    show (if (-1 : Int) < 0 then ((-1 : Int) + ((xs ++ [x]).length : Int)).toNat else min (-1 : Int).toNat (xs ++ [x]).length) = _
    rw [if_pos (by decide), List.length_append, List.length_singleton]
    omega
  rw [h]
  show ((xs ++ [x]).drop 0).take (xs.length - 0) = xs
  rw [List.drop_zero, Nat.sub_zero, List.take_append_of_le_length (Nat.le_refl _), List.take_of_length_le (Nat.le_refl _)]
theorem cutV_but0 : cutV [] none (some (-1)) = [] := by simp [cutV]
theorem last_none {es : List Ev} (h : KM.pend es = []) : es = [] ∨ ∃ fs, es = fs ++ [none] := by
  rcases snoc_or es with z | ⟨fs, e, rfl⟩
  · exact .inl z
  · rcases e with _ | ⟨p, x⟩
    · exact .inr ⟨fs, rfl⟩
    · rw [pend_snoc] at h
      simp [pen1] at h
theorem Nc.r2 {d : PyData} {k p : Nat} (h : Nc d k p) : d.hasDict = false := PyData.hasDict_of_canLay d h.lay
theorem Nc.r3 {d : PyData} {k p : Nat} (h : Nc d k p) (hp : p ≤ 8) : d.depth ≤ 8 := Nat.le_trans h.dep hp
theorem Nc.r4 {d : PyData} {k p : Nat} (h : Nc d k p) (hk : k ≤ 16000000) : d.shown.length ≤ sizeLine := Nat.le_trans h.len (by rw [sizeLine_eq]; omega)
theorem made_kp {H : Hp} {x dx C : Addr} {fs : List (Str × V)} (h1 : H x = none) (h2 : H dx = none) (h3 : dx ≠ x) : Kp [] H (upd (upd H dx (.own x)) x (.ins C dx fs)) :=
  (Kp.new h2).trans (Kp.new (by rw [upd_ne h3.symm]; exact h1))
/-- Disk(cells), the cells right -/
theorem disk_use {T : Tx P K mg} {H : Hp} {c x dx : Addr} {cells : List Int} {Q : VK} {E : XK} (nx : H x = none) (ndx : H dx = none) (ne : dx ≠ x) (hc : H c = some (.tup (cells.map V.int))) (h1 : 1 ≤ cells.length) (h2 : cells.length ≤ 20000) (ho : ∀ x ∈ cells, Oct x)
    (h : ∀ H' o e, Kp [] H H' → H o = none → H e = none → Dsk T H' x c o e cells cells [] → Q .non H') :
    sp_Disk_init T (.ref x :: ([.ref c] ++ [])) (upd (upd H dx (.own x)) x (.ins T.CD dx [])) Q E := by
  have k := made_kp (C := T.CD) (fs := []) nx ndx ne
  refine ⟨x, dx, .ref c, rfl, upd_same, .inl ⟨c, cells, rfl, k.t _ _ hc, h1, h2, ho, fun H' o e k2 no ne D => h H' o e ?_ (k.fresh0 no) (k.fresh0 ne) D⟩⟩
  exact k.then k2 fun z hz => .inr (by rw [List.mem_singleton.mp hz]; exact nx)
/-- Journal(disk), the records right or wrong -/
theorem jrn_useX {T : Tx P K mg} {H : Hp} {d c o e x dx : Addr} {cells octs : List Int} {evs : List Ev} {Q : VK} {E : XK} (nx : H x = none) (ndx : H dx = none) (ne : dx ≠ x) (D : Dsk T H d c o e cells octs evs) (h1 : 1 ≤ cells.length) (h2 : cells.length ≤ 20000) (ho : ∀ x ∈ octs, Oct x)
    (h : ∀ rs H' r, Jp octs rs → Kp [] H H' → H r = none → Jrn T H' x d r (sideOf octs) rs (hs octs.length (sideOf octs) + size rs) → Q .non H')
    (hE : (∀ rs, ¬ Jp octs rs) → ∀ H' d', Kp [] H H' → H d' = none → H' d' = some (.xd [(("word" : Str), .str "journal")]) → E (.ref T.CB) (some d') H') :
    sp_Journal_init T (.ref x :: ([.ref d] ++ [])) (upd (upd H dx (.own x)) x (.ins T.CJ dx [])) Q E := by
  have k := made_kp (C := T.CJ) (fs := []) nx ndx ne
  refine ⟨x, dx, d, c, o, e, cells, octs, evs, rfl, upd_same, D.kp0 k, h1, h2, ho, fun rs H' r jp k2 nr J => h rs H' r jp ?_ (k.fresh0 nr) J, fun no H' d' k2 nd ed => hE no H' d' ?_ (k.fresh0 nd) ed⟩
  · exact k.then k2 fun z hz => .inr (by rw [List.mem_singleton.mp hz]; exact nx)
  · exact k.then k2 fun z hz => .inr (by rw [List.mem_singleton.mp hz]; exact nx)
theorem jrn_use {T : Tx P K mg} {H : Hp} {d c o e x dx : Addr} {cells octs : List Int} {evs : List Ev} {rs : List (List Int)} {Q : VK} {E : XK} (nx : H x = none) (ndx : H dx = none) (ne : dx ≠ x) (D : Dsk T H d c o e cells octs evs) (h1 : 1 ≤ cells.length) (h2 : cells.length ≤ 20000) (ho : ∀ x ∈ octs, Oct x) (jp : Jp octs rs)
    (h : ∀ H' r, Kp [] H H' → H r = none → Jrn T H' x d r (sideOf octs) rs (hs octs.length (sideOf octs) + size rs) → Q .non H') :
    sp_Journal_init T (.ref x :: ([.ref d] ++ [])) (upd (upd H dx (.own x)) x (.ins T.CJ dx [])) Q E :=
  jrn_useX nx ndx ne D h1 h2 ho (fun rs' H' r jp' k nr J => by
    obtain rfl := jp'.uniq jp
    exact h H' r k nr J) (fun no => absurd jp (no rs))
theorem nc_nil : Nc (evsD []) 3 1 := by
  have := Nc.tup (ds := []) (p := 0) (f := fun _ => 0) fun d hd => absurd hd (by simp)
  exact this
def sp_opened (T : Tx P K mg) : Sp := fun vs H Q _ => ∃ (c : Addr) (cells : List Int) (rs : List (List Int)), vs = [.ref c] ∧ H c = some (.tup (cells.map V.int)) ∧ 1 ≤ cells.length ∧ cells.length ≤ 20000 ∧ (∀ x ∈ cells, Oct x) ∧ Jp cells rs ∧ ∀ (H' : Hp) (t : Addr), Kp [] H H' → RecT H' t rs → Q (.ref t) H'
--N 3
theorem ok_opened (T : Tx P K mg) : FnOk P w K mg base (L2.CX P w) 6 T.f_opened T.d_opened ["_law_cells"] (sp_opened T) := by
  refine T.F_opened.ok (k := 5) sc_opened (fun vs H Q E h => by obtain ⟨_, _, _, rfl, _⟩ := h; rfl) (fun cdv A outer s H vs Q E hr h => ?_)
  refine ⟨_, PSs.nox (pss_cons (ps_set (i := 1) sc_opened.nd rfl (Or.inl rfl) (pe_make T.mkD (ok_Disk_init T) (hr.mono (by decide)) rfl T.gD T.b_Disk_init .nil passL (pa_cons (pv 0) pa_nil)))
 (pss_cons (ps_set (i := 2) sc_opened.nd rfl (Or.inl rfl) (pe_meth0 (pe_make T.mkJ (ok_Journal_init T) (hr.mono (by decide)) rfl T.gJ T.b_Journal_init .nil passL (pa_cons (pv 1) pa_nil)) T.clJ T.m_Journal_records (ok_Journal_records T) (hr.mono (by decide)) T.b_Journal_records .nil passL))
 (pss_one (ps_ret (pe_ifExp (pt_cmpR (op_neD hr.units) (pe_meth0 (pv 1) T.clD T.m_Disk_events (ok_Disk_events T) (hr.mono (by decide)) T.b_Disk_events .nil passL) (pe_tup pa_nil) (nomark _)) pe_non (pv 2)))))), ?_⟩
  obtain ⟨c, cells, rs, rfl, hc, h1, h2, ho, jp, q⟩ := h
  refine ⟨_, rfl, fun d dd nd ndd ned => disk_use nd ndd ned hc h1 h2 ho fun H1 o e k1 no ne D => ⟨rfl, ?_⟩⟩
  refine ⟨_, rfl, fun j dj nj ndj nej => jrn_use nj ndj nej D h1 h2 ho jp fun H2 r k2 nr J => ⟨rfl, ?_⟩⟩
  obtain ⟨jx, hj⟩ := J.ins
  refine ⟨j, jx, _, rfl, hj, lk_jrecords .., j, d, r, _, rs, _, rfl, J, fun H3 t k3 rt => ?_⟩
  have D3 := (D.kp0 k2).kp0 k3
  obtain ⟨dx, hd⟩ := D3.ins
  refine ⟨_, rfl, d, dx, _, rfl, hd, lk_dev .., d, c, o, e, cells, cells, [], rfl, D3, fun H4 u k4 eu => ?_⟩
  refine ⟨Nat.zero_le _, fun w nw => ?_⟩
  have k5 : Kp [] H4 (upd H4 w (.tup [])) := Kp.new nw
  have ew : upd H4 w (.tup []) w = some (.tup []) := upd_same
  generalize upd H4 w (.tup []) = H5 at k5 ew ⊢
  refine neD_use nc_nil nc_nil (dp_evs (eu.kp k5)) (.tup (SqT.of ew) .nil) (by decide) (by decide) ⟨_, rfl, ?_⟩
  rw [eqv_self nc_nil]
  exact iteF ⟨_, rfl, q H5 t (((k1.trans k2).trans k3).trans (k4.trans k5)) (rt.kp (k4.trans k5))⟩
end
end KJ
end

section
namespace KJ
open PySem PySem.Spec PyProof.Rows L2 KM
section
variable {P : Program} {w : World} {K : PySem.W.Frag} {mg : Str → Option Value} {base : Heap}
def flushL (es : List Ev) (n : Nat) : List Int := ((List.range n).filter fun i => decide (es[i]? = some none)).map fun (i : Nat) => ((i : Nat) : Int) + 1
theorem flushL_succ (es : List Ev) (n : Nat) : flushL es (n + 1) = flushL es n ++ (if decide (es[n]? = some none) = true then [((n : Nat) : Int) + 1] else []) := by
  unfold flushL
  rw [List.range_succ, List.filter_append, List.map_append, List.filter_cons, List.filter_nil]
  split <;> rfl
theorem flushL_len (es : List Ev) (n : Nat) : (flushL es n).length ≤ n := by
  unfold flushL
  rw [List.length_map]
  have := List.length_filter_le (fun i => decide (es[i]? = some none)) (List.range n)
  rw [List.length_range] at this
  exact this
def sp_base (T : Tx P K mg) : Sp := fun vs H Q _ => ∃ (c t : Addr) (cells : List Int) (es : List Ev), vs = [.ref c, .ref t] ∧ H c = some (.tup (cells.map V.int)) ∧ EvT H t es ∧ EvOk cells.length es ∧ pend es = [] ∧ es.length < 15000000 ∧
  ∀ (H' : Hp) (v u : Addr), Kp [] H H' → H' v = some (.lst [.ref u, .int ((es.length : Nat) : Int)]) → H' u = some (.tup ((appl cells es).map V.int)) → Q (.ref v) H'
--N 4
theorem ok_base (T : Tx P K mg) : FnOk P w K mg base (L2.CX P w) 1 T.f_base T.d_base ["_law_cells", "_law_events"] (sp_base T) := by
  refine T.F_base.ok (k := 0) sc_base (fun vs H Q E h => by obtain ⟨_, _, _, _, rfl, _⟩ := h; rfl) (fun cdv A outer s H vs Q E hr h => ?_)
  refine ⟨_, PSs.nox (pss_cons (ps_par (i := 2) (j := 3) rfl sc_base.nd rfl rfl (by decide) rfl rfl (pa_cons (pe_callB (cr_max rfl) rfl T.n_max (by decide +kernel) (pa_cons (pe_op op_cat (pe_lst (pa_cons pe_int pa_nil)) (pe_lc (own := [("_law_at", 4)]) (g := gName 4) rfl sc_base.nd (pi_range1 rfl T.n_range (pa_cons (pe_callB call_len_seq rfl T.n_len (by decide +kernel) (pa_cons (pv 1) pa_nil)) pa_nil)) (blkOk_by (own := [("_law_at", 4)]) (N := ["_law_cells", "_law_events", "_law_flushed", "_law_now", "_law_at", "_law_event"]) (sc := defScope s_base) (by decide +kernel)) (fun _ _ _ _ _ => pg_name (i := 4) sc_base.nd rfl (Or.inl rfl)) (fun _ _ _ _ _ => (pts_one (pt_cmpR op_isN (pe_ix (r := rIxT K) ix_tup (pv 1) (pv 4) (fun _ _ => rfl)) pe_non (nomark _)))) (fun _ _ _ _ _ => (pe_op op_add (pv 4) pe_int)))) pa_nil)) (pa_cons (pe_callTy call_list_of rfl T.n_list (by decide +kernel) (pa_cons (pv 0) pa_nil)) pa_nil)) (by rfl))
 (pss_cons (ps_for PassesOwn.never rfl (pi_tup (pe_slice sl_tupA (pv 1) po_none (po_some (pv 2)))) (pg_name (i := 5) sc_base.nd rfl (Or.inl rfl))
 (pss_one (ps_if (pt_cmpR op_notN (pv 5) pe_non (nomark _))
 (pss_one (ps_asg (pe_ix ix_tup (pv 5) pe_int (fun _ _ => rfl)) (pg_sub (pv 3) (pe_ix ix_tup (pv 5) pe_int (fun _ _ => rfl)) set_list)))
 pss_nil)))
 (pss_one (ps_ret (pe_lst (pa_cons (pe_callTy call_tuple_of rfl T.n_tuple (by decide +kernel) (pa_cons (pv 3) pa_nil)) (pa_cons (pv 2) pa_nil))))))), ?_⟩
  obtain ⟨c, t, cells, es, rfl, ec, ⟨xs, et, rv⟩, eok, pe, hl, q⟩ := h
  have lx := plen rv
  refine ⟨Nat.le_trans (show 1 ≤ 2 by decide) two_size, fun z nz => ?_⟩
  have k1 : Kp [] H (upd H z (.lst [.int 0])) := Kp.new nz
  have ez : upd H z (.lst [.int 0]) z = some (.lst [.int 0]) := upd_same
  generalize upd H z (.lst [.int 0]) = H1 at k1 ez ⊢
  refine ⟨_, rfl, t, xs, rfl, .inr (SqT.of (k1.t _ _ et)), _, rfl, by omega, by omega, fun D nD => ?_⟩
  rw [Int.toNat_natCast]
  refine lc_range (lo := 0) (n := xs.length) (fun i H2 => Kp [] H1 H2 ∧ H2 D = some (.lst ((flushL es i).map V.int))) ⟨Kp.new nD, upd_same⟩ (fun i H2 hi z => ?_) fun H2 zz => ?_
  · have e0 : (0 : Int) + ((i : Nat) : Int) = ((i : Nat) : Int) := by omega
    rw [e0]
    obtain ⟨e, he, ev⟩ := pget rv (List.getElem?_eq_getElem hi)
    have et2 := z.1.t _ _ (k1.t _ _ et)
    refine ⟨rfl, _, rfl, _, rfl, t, xs, _, _, rfl, rfl, SqT.of et2, atI_nat (List.getElem?_eq_getElem hi), rfl, _, rfl, ?_⟩
    have dn : decide (xs[i] = V.non) = decide (es[i]? = some none) := by
      rw [he]
      rcases e with _ | ⟨p, y⟩
      · have e1 : xs[i] = V.non := ev
        simp [e1]
      · obtain ⟨a, e1, _⟩ := ev
        simp [e1]
    have fl := flushL_succ es i
    have ln := flushL_len es i
    show if decide (xs[i] = V.non) = true then _ else _
    rw [dn]
    by_cases hb : es[i]? = some none
    · rw [decide_eq_true hb] at fl ⊢
      refine iteT ⟨_, rfl, _, _, rfl, rfl, _, z.2, by rw [List.length_map]; exact small16 (by omega), ?_⟩
      refine ⟨z.1.then (Kp.set (S := [D]) z.2 (by simp) (by intro _ q; cases q)) (fun y hy => .inr (by rw [List.mem_singleton.mp hy]; exact nD)), ?_⟩
      rw [upd_same, fl, List.map_append]
      rfl
    · rw [decide_eq_false hb] at fl ⊢
      refine iteF ⟨z.1, ?_⟩
      rw [z.2, fl]
      simp
  · obtain ⟨k2, eD⟩ := zz
    have ez2 := k2.k _ _ ez (by simp)
    rw [lx] at eD
    have ln := flushL_len es es.length
    refine ⟨z, D, _, _, rfl, rfl, ez2, eD, by rw [List.length_map, sizeLine_eq]; show 1 + _ ≤ _; omega, fun m nm => ?_⟩
    have em0 : ([V.int 0] ++ (flushL es es.length).map V.int) = (0 :: flushL es es.length).map V.int := rfl
    rw [em0]
    have k3 : Kp [] H2 (upd H2 m (.lst ((0 :: flushL es es.length).map V.int))) := Kp.new nm
    have em : upd H2 m (.lst ((0 :: flushL es es.length).map V.int)) m = some (.lst ((0 :: flushL es es.length).map V.int)) := upd_same
    generalize upd H2 m (.lst ((0 :: flushL es es.length).map V.int)) = H3 at k3 em ⊢
    refine ⟨m, _, rfl, SqL.of em, by simp, fun mx hm1 hm2 => ?_⟩
    have emx : mx = ((es.length : Nat) : Int) := by
      have up : ∀ y ∈ flushL es es.length, y ≤ ((es.length : Nat) : Int) := fun y hy => by
        obtain ⟨i, hi, rfl⟩ := List.mem_map.mp hy
        have := List.mem_range.mp (List.mem_filter.mp hi).1
        omega
      have l1 : mx ≤ ((es.length : Nat) : Int) := by
        rcases List.mem_cons.mp hm1 with z | z
        · rw [z]; omega
        · exact up _ z
      have l2 : ((es.length : Nat) : Int) ≤ mx := by
        rcases last_none pe with z | ⟨fs, z⟩
        · rw [z]
          exact hm2 0 List.mem_cons_self
        · refine hm2 _ (List.mem_cons_of_mem _ (List.mem_map.mpr ⟨fs.length, List.mem_filter.mpr ⟨List.mem_range.mpr (by rw [z]; simp), by rw [z]; simp⟩, by rw [z]; simp⟩))
      omega
    subst emx
    have k13 := k1.trans (k2.trans k3)
    refine ⟨_, rfl, c, _, rfl, .inr (SqT.of (k13.t _ _ ec)), fun n nn => ?_⟩
    have k4 : Kp [] H3 (upd H3 n (.lst (cells.map V.int))) := Kp.new nn
    have en : upd H3 n (.lst (cells.map V.int)) n = some (.lst (cells.map V.int)) := upd_same
    generalize upd H3 n (.lst (cells.map V.int)) = H4 at k4 en ⊢
    have k14 := k13.trans k4
    refine ⟨_, _, rfl, ?_⟩
    refine ⟨_, rfl, _, rfl, _, rfl, sl_use (k14.t _ _ et) fun t2 H5 k5 et2 => ?_⟩
    rw [cutV_to, List.take_of_length_le (by omega)] at et2
    have en5 := k5.k _ _ en (by simp)
    have k15 := k14.trans k5
    have rv5 := evs_kp k15 rv
    refine ⟨t2, rfl, ⟨_, SqT.of et2⟩, for_tup (K := K) (a := t2) (xs := xs) (fun i σ H' => (∃ a4 a5, σ = [some (.ref c), some (.ref t), some (.int ((es.length : Nat) : Int)), some (.ref n), a4, a5]) ∧ Kp [] H H' ∧ H' t2 = some (.tup xs) ∧ H' n = some (.lst ((appl cells (es.take i)).map V.int)))
      ⟨⟨none, none, rfl⟩, k15, et2, by simpa [appl] using en5⟩ (fun i σ H' _ z => SqT.of z.2.2.1) (fun i x σ H' hx z => ?_) fun σ H' z => ?_⟩
    · obtain ⟨⟨a4, a5, rfl⟩, k, et', en'⟩ := z
      obtain ⟨e, he, ev⟩ := pget rv hx
      have tk := take_snoc he
      rcases e with _ | ⟨pp, y⟩
      · obtain rfl : x = .non := ev
        refine ⟨_, rfl, rfl, _, rfl, iteF ⟨⟨_, _, rfl⟩, k, et', ?_⟩⟩
        rw [tk, appl_append]
        exact en'
      · obtain ⟨a, rfl, ea⟩ := ev
        have ea' := k.t _ _ ea
        have hb := (eok pp y (List.mem_of_getElem? he)).1
        refine ⟨_, rfl, rfl, _, rfl, iteT ?_⟩
        refine ⟨_, rfl, a, _, _, _, rfl, rfl, SqT.of ea', atI_nat (j := 1) rfl, _, rfl, _, rfl, a, _, _, _, rfl, rfl, SqT.of ea', atI_nat (j := 0) rfl, n, _, _, pp, rfl, rfl, en', ixn (by rw [List.length_map, appl_length]; exact hb), ?_⟩
        rw [map_set]
        have k6 : Kp [n] H' (upd H' n (.lst (((appl cells (es.take i)).set pp y).map V.int))) := Kp.set en' (by simp) (by intro _ z; cases z)
        refine ⟨⟨_, _, rfl⟩, k.then k6 (fun z hz => .inr (by rw [List.mem_singleton.mp hz]; exact k13.fresh0 nn)), k6.t _ _ et', ?_⟩
        rw [upd_same, tk, appl_append]
        rfl
    · obtain ⟨⟨a4, a5, rfl⟩, k, et', en'⟩ := z
      rw [lx, List.take_of_length_le (Nat.le_refl _)] at en'
      refine ⟨_, rfl, n, _, rfl, .inl ⟨SqL.of en', fun u nu => ?_⟩⟩
      have k6 : Kp [] H' (upd H' u (.tup ((appl cells es).map V.int))) := Kp.new nu
      have eu : upd H' u (.tup ((appl cells es).map V.int)) u = some (.tup ((appl cells es).map V.int)) := upd_same
      generalize upd H' u (.tup ((appl cells es).map V.int)) = H6 at k6 eu ⊢
      refine ⟨_, rfl, two_size, fun v nv => ?_⟩
      have k7 : Kp [] H6 (upd H6 v (.lst [.ref u, .int ((es.length : Nat) : Int)])) := Kp.new nv
      have ev : upd H6 v (.lst [.ref u, .int ((es.length : Nat) : Int)]) v = some (.lst [.ref u, .int ((es.length : Nat) : Int)]) := upd_same
      generalize upd H6 v (.lst [.ref u, .int ((es.length : Nat) : Int)]) = H7 at k7 ev ⊢
      exact q H7 v u ((k.trans k6).trans k7) ev (k7.t _ _ eu)
end
end KJ
end

section
namespace KJ
open PySem PySem.Spec PyProof.Rows L2 KM
section
variable {P : Program} {w : World} {K : PySem.W.Frag} {mg : Str → Option Value} {base : Heap}
theorem evt_sub {H : Hp} {t : Addr} {xs : List V} {es : List Ev} (h : EvsV H xs es) (e : H t = some (.tup (xs.take es.length))) : EvT H t es := ⟨xs, by rw [List.take_of_length_le (by rw [plen h]; exact Nat.le_refl _)] at e; exact e, h⟩
def sp_cuts_right (T : Tx P K mg) : Sp := fun vs H Q _ => ∃ (L d to_ tn : Addr) (begun cuts : Nat), vs = [.ref L, .ref d, .int ((begun : Nat) : Int), .ref to_, .ref tn, .int ((cuts : Nat) : Int)] ∧ ∃ (A c o e : Addr) (cells octs : List Int) (pre E : List Ev) (old new : List (List Int)), Hd H L A ∧ Dsk T H d c o e cells octs (pre ++ E) ∧
  begun = pre.length ∧ pend pre = [] ∧ EvOk cells.length (pre ++ E) ∧ (∀ x ∈ cells, Oct x) ∧ 1 ≤ cells.length ∧ cells.length ≤ 20000 ∧ RecT H to_ old ∧ RecT H tn new ∧ RsOk old ∧ RsOk new ∧ Safe (appl cells pre) E old new ∧ (pre ++ E).length < 15000000 ∧ cuts ≤ 10 ∧
  ∀ H', Kp [L, A] H H' → Hd H' L A → Q (.bl true) H'
--N 6
theorem ok_cuts_right (T : Tx P K mg) : FnG P w K mg base (L2.CX P w) 7 T.f_cuts_right T.d_cuts_right ["_law_heap_here", "_law_disk", "_law_begun", "_law_old", "_law_new", "_law_cuts"] (sp_cuts_right T) := by
  refine T.F_cuts_right.okG (k := 6) sc_cuts_right (fun vs H Q E h => by obtain ⟨_, _, _, _, _, _, rfl, _⟩ := h; rfl) (fun cdv A outer s H vs Q E hr hgd h => ?_)
  refine ⟨_, PSs.nox (pss_cons (ps_set (i := 6) sc_cuts_right.nd rfl (Or.inr rfl) (pe_meth0 (pv 1) T.clD T.m_Disk_events (ok_Disk_events T) (hr.mono (by decide)) T.b_Disk_events .nil passL))
 (pss_cons (ps_asg (pe_call (ok_base T) (hr.mono (by decide)) rfl T.g_base T.F_base.kp T.b_base .nil passL (pa_cons (pe_fld (pv 1) rfl) (pa_cons (pe_slice sl_tupA (pv 6) po_none (po_some (pv 2))) pa_nil))) (pg_unl rfl (pgs_cons (pg_name (i := 7) sc_cuts_right.nd rfl (Or.inl rfl)) (pgs_cons (pg_name (i := 8) sc_cuts_right.nd rfl (Or.inl rfl)) pgs_nil))))
 (pss_cons (ps_set (i := 9) sc_cuts_right.nd rfl (Or.inl rfl) (pe_op op_cat (pe_lst (pa_cons (pv 2) (pa_cons (pe_callB call_len_seq rfl T.n_len (by decide +kernel) (pa_cons (pv 6) pa_nil)) pa_nil))) (pe_lc (own := [("_law_turn_here", 10)]) (g := gName 10) (tt := tYes) rfl sc_cuts_right.nd (pi_range1 rfl T.n_range (pa_cons (pv 5) pa_nil)) (blkOk_by (own := [("_law_turn_here", 10)]) (N := ["_law_heap_here", "_law_disk", "_law_begun", "_law_old", "_law_new", "_law_cuts", "_law_events", "_law_base_here", "_law_since", "_law_ends", "_law_turn_here", "_law_end", "_law_found"]) (sc := defScope s_cuts_right) (by decide +kernel)) (fun _ _ _ _ _ => pg_name (i := 10) sc_cuts_right.nd rfl (Or.inl rfl)) (fun _ _ _ _ _ => pts_nil) (fun _ _ _ _ _ => (pe_op op_add (pv 2) (pe_call (ok_draw T) (hr.mono (by decide)) rfl T.g_draw T.F_draw.kp T.b_draw .nil passL (pa_cons (pv 0) (pa_cons (pe_op op_add (pe_op op_sub (pe_callB (r := rLenS K) call_len_seq rfl T.n_len (by decide +kernel) (pa_cons (pv 6) pa_nil)) (pv 2)) pe_int) pa_nil))))))))
 (pss_cons (ps_for PassesOwn.never rfl (pi_list (pe_op op_cat (pv 9) (pe_lst (pa_cons (pe_callB (call_max2 rfl) rfl T.n_max (by decide +kernel) (pa_cons (pv 2) (pa_cons (pe_op op_sub (pe_callB call_len_seq rfl T.n_len (by decide +kernel) (pa_cons (pv 6) pa_nil)) pe_int) pa_nil))) (pa_cons (pe_callB (call_max2 rfl) rfl T.n_max (by decide +kernel) (pa_cons (pv 2) (pa_cons (pe_op op_sub (pe_callB call_len_seq rfl T.n_len (by decide +kernel) (pa_cons (pv 6) pa_nil)) pe_int) pa_nil))) pa_nil))))) (pg_name (i := 11) sc_cuts_right.nd rfl (Or.inl rfl))
 (pss_cons (ps_set (i := 12) sc_cuts_right.nd rfl (Or.inl rfl) (pe_callB (call_repr hgd hr.units) rfl T.n_repr (by decide +kernel) (pa_cons (pe_call (ok_opened T) (hr.mono (by decide)) rfl T.g_opened T.F_opened.kp T.b_opened .nil passL (pa_cons (pe_call (ok_left T) (hr.mono (by decide)) rfl T.g_left T.F_left.kp T.b_left .nil passL (pa_cons (pv 0) (pa_cons (pv 7) (pa_cons (pe_slice sl_tupA (pv 6) (po_some (pv 8)) (po_some (pv 11))) pa_nil)))) pa_nil)) pa_nil)))
 (pss_cons (ps_if (PW.pt (pw_and (pt_cmpR op_ne (pv 12) (pe_callB (call_repr hgd hr.units) rfl T.n_repr (by decide +kernel) (pa_cons (pv 3) pa_nil)) (nomark _)) (pw_and1 (pt_cmpR op_ne (pv 12) (pe_callB (call_repr hgd hr.units) rfl T.n_repr (by decide +kernel) (pa_cons (pv 4) pa_nil)) (nomark _)))))
 (pss_one (ps_ret pe_bl))
 pss_nil)
 (pss_one (ps_if (PW.pt (pw_or (PW.pt (pw_and (pt_cmpR op_eq (pv 11) (pv 2) (nomark _)) (pw_and1 (pt_cmpR op_ne (pv 12) (pe_callB (call_repr hgd hr.units) rfl T.n_repr (by decide +kernel) (pa_cons (pv 3) pa_nil)) (nomark _))))) (pw_or1 (PW.pt (pw_and (pt_cmpR op_eq (pv 11) (pe_callB call_len_seq rfl T.n_len (by decide +kernel) (pa_cons (pv 6) pa_nil)) (nomark _)) (pw_and1 (pt_cmpR op_ne (pv 12) (pe_callB (call_repr hgd hr.units) rfl T.n_repr (by decide +kernel) (pa_cons (pv 4) pa_nil)) (nomark _))))))))
 (pss_one (ps_ret pe_bl))
 pss_nil)))))
 (pss_one (ps_ret pe_bl)))))), ?_⟩
  obtain ⟨L, d, to_, tn, begun, cuts, rfl, A, c, o, e, cells, octs, pre, Ev_, old, new, hd, D, rfl, pp, eok, oc, n1, n2, ro, rn, ko, kn, sf, hl, hc, q⟩ := h
  obtain ⟨dx, hdk⟩ := D.ins
  have no := nc_recs ko
  have nn := nc_recs kn
  generalize el : (pre ++ Ev_).length = len at *
  have lE : len = pre.length + Ev_.length := by rw [← el, List.length_append]
  refine ⟨_, rfl, d, dx, _, rfl, hdk, lk_dev .., d, c, o, e, cells, octs, _, rfl, D, fun H1 te k1 ete => ?_⟩
  have D1 := D.kp0 k1
  obtain ⟨dx1, hd1⟩ := D1.ins
  obtain ⟨exs, ex, ev⟩ := ete
  have lx := plen ev
  rw [el] at lx
  refine ⟨_, rfl, d, _, dx1, _, _, rfl, hd1, T.clD, T.nDcells, lk_cells .., _, rfl, _, rfl, _, rfl, sl_use ex fun t2 H2 k2 et2 => ?_⟩
  rw [cutV_to] at et2
  have ev2 := ptake pre.length (evs_kp k2 ev)
  rw [List.take_append_of_le_length (Nat.le_refl _), List.take_of_length_le (Nat.le_refl _)] at ev2
  refine ⟨c, t2, cells, pre, rfl, (D1.kp0 k2).cel, ⟨_, et2, ev2⟩, fun p x hx => eok p x (List.mem_append_left _ hx), pp, by omega, fun H3 v u k3 ev3 eu => ?_⟩
  have k13 := k1.trans (k2.trans k3)
  refine ⟨v, _, rfl, SqL.of ev3, rfl, _, _, rfl, _, _, rfl, rfl, ?_⟩
  have ex3 := k3.t _ _ (k2.t _ _ ex)
  have hd3 := hd.kp0 k13
  -- the ends
  refine ⟨_, rfl, _, rfl, te, exs, rfl, .inr (SqT.of ex3), two_size, fun l1 nl1 => ?_⟩
  have k4 : Kp [] H3 (upd H3 l1 (.lst [.int ((pre.length : Nat) : Int), .int ((exs.length : Nat) : Int)])) := Kp.new nl1
  have el1 : upd H3 l1 (.lst [.int ((pre.length : Nat) : Int), .int ((exs.length : Nat) : Int)]) l1 = some (.lst [.int ((pre.length : Nat) : Int), .int ((exs.length : Nat) : Int)]) := upd_same
  generalize upd H3 l1 (.lst [.int ((pre.length : Nat) : Int), .int ((exs.length : Nat) : Int)]) = H4 at k4 el1 ⊢
  have hd4 := hd3.kp0 k4
  have m1 := hd3.nn nl1
  refine ⟨_, rfl, _, rfl, by omega, by omega, fun l2 nl2 => ?_⟩
  have m2 := hd4.nn nl2
  rw [Int.toNat_natCast]
  have ex4 := k4.t _ _ ex3
  refine lc_range (lo := 0) (n := cuts) (fun i H' => Kp [L, A] H4 H' ∧ Hd H' L A ∧ ∃ ks : List Nat, H' l2 = some (.lst (ks.map nV)) ∧ ks.length = i ∧ ∀ k ∈ ks, pre.length ≤ k ∧ k ≤ len) ⟨Kp.new nl2, hd4.kp (Kp.new nl2 (S := [])) (by simp) (by simp), [], upd_same, rfl, fun y hy => absurd hy (by simp)⟩ (fun i H' hi z => ?_) fun H5 z => ?_
  · obtain ⟨kz, hz, ks, eD, lr, ho⟩ := z
    have em : (((exs.length : Nat) : Int) - ((pre.length : Nat) : Int) + 1) = ((Ev_.length + 1 : Nat) : Int) := by omega
    refine ⟨rfl, _, rfl, _, rfl, _, rfl, te, exs, rfl, .inr (SqT.of (kz.t _ _ ex4)), _, rfl, _, _, rfl, rfl, _, _, rfl, rfl, ?_⟩
    refine ⟨L, Ev_.length + 1, by rw [← em]; rfl, A, hz, by omega, by omega, fun H6 k k6 hd6 hk => ?_⟩
    have eD6 := k6.k _ _ eD (by simp [m2])
    refine ⟨_, _, rfl, rfl, _, eD6, by rw [nat_len]; exact small16 (by omega), ?_⟩
    have k7 : Kp [l2] H6 (upd H6 l2 (.lst (ks.map nV ++ [nV (pre.length + k)]))) := Kp.set eD6 (by simp) (by intro _ q; cases q)
    refine ⟨(kz.trans k6).then k7 (fun z hz => .inr (by rw [List.mem_singleton.mp hz]; exact nl2)), hd6.kp k7 (by simp [m2.1.symm]) (by simp [m2.2.symm]), ks ++ [pre.length + k], by rw [List.map_append]; exact upd_same, by rw [List.length_append, List.length_singleton]; omega, fun z hz => ?_⟩
    rcases List.mem_append.mp hz with h1 | h1
    · exact ho z h1
    · rw [List.mem_singleton.mp h1]; omega
  · obtain ⟨kz, hd5, ks, eD, lr, ho⟩ := z
    have el5 := kz.k _ _ el1 (by simp [m1])
    refine ⟨l1, l2, _, _, rfl, rfl, el5, eD, by rw [nat_len, sizeLine_eq]; show 2 + _ ≤ _; omega, fun l3 nl3 => ?_⟩
    have m3 := hd5.nn nl3
    have e3' : [V.int ((pre.length : Nat) : Int), V.int ((exs.length : Nat) : Int)] ++ ks.map nV = (pre.length :: len :: ks).map nV := by rw [lx]; rfl
    rw [e3']
    have k6 : Kp [] H5 (upd H5 l3 (.lst ((pre.length :: len :: ks).map nV))) := Kp.new nl3
    have el3 : upd H5 l3 (.lst ((pre.length :: len :: ks).map nV)) l3 = some (.lst ((pre.length :: len :: ks).map nV)) := upd_same
    generalize upd H5 l3 (.lst ((pre.length :: len :: ks).map nV)) = H6 at k6 el3 ⊢
    have hd6 := hd5.kp0 k6
    have k06 : Kp [L, A] H H6 := ((kLA (k13.trans k4)).trans kz).trans (kLA k6)
    have ex6 := k6.t _ _ (kz.t _ _ ex4)
    have eu6 := k6.t _ _ (kz.t _ _ (k4.t _ _ eu))
    have ev6 := evs_kp k6 (evs_kp kz (evs_kp k4 (evs_kp k3 (evs_kp k2 ev))))
    refine ⟨_, rfl, _, rfl, _, rfl, te, exs, rfl, .inr (SqT.of ex6), _, _, rfl, rfl, _, _, rfl, _, rfl, _, rfl, te, exs, rfl, .inr (SqT.of ex6), _, _, rfl, rfl, _, _, rfl, two_size, fun l4 nl4 => ?_⟩
    have m4 := hd6.nn nl4
    obtain ⟨a1, ha1, ba1⟩ : ∃ a1 : Nat, (if ((exs.length : Nat) : Int) - 1 > ((pre.length : Nat) : Int) then ((exs.length : Nat) : Int) - 1 else ((pre.length : Nat) : Int)) = ((a1 : Nat) : Int) ∧ pre.length ≤ a1 ∧ a1 ≤ len := by
      split
      · exact ⟨exs.length - 1, by omega, by omega, by omega⟩
      · exact ⟨pre.length, rfl, by omega, by omega⟩
    obtain ⟨a2, ha2, ba2⟩ : ∃ a2 : Nat, (if ((exs.length : Nat) : Int) - 2 > ((pre.length : Nat) : Int) then ((exs.length : Nat) : Int) - 2 else ((pre.length : Nat) : Int)) = ((a2 : Nat) : Int) ∧ pre.length ≤ a2 ∧ a2 ≤ len := by
      split
      · exact ⟨exs.length - 2, by omega, by omega, by omega⟩
      · exact ⟨pre.length, rfl, by omega, by omega⟩
    have ea12 : [V.int (if ((exs.length : Nat) : Int) - 1 > ((pre.length : Nat) : Int) then ((exs.length : Nat) : Int) - 1 else ((pre.length : Nat) : Int)), V.int (if ((exs.length : Nat) : Int) - 2 > ((pre.length : Nat) : Int) then ((exs.length : Nat) : Int) - 2 else ((pre.length : Nat) : Int))] = [nV a1, nV a2] := by rw [ha1, ha2]; rfl
    have k7 : Kp [] H6 (upd H6 l4 (.lst [V.int (if ((exs.length : Nat) : Int) - 1 > ((pre.length : Nat) : Int) then ((exs.length : Nat) : Int) - 1 else ((pre.length : Nat) : Int)), V.int (if ((exs.length : Nat) : Int) - 2 > ((pre.length : Nat) : Int) then ((exs.length : Nat) : Int) - 2 else ((pre.length : Nat) : Int))])) := Kp.new nl4
    have el4 : (upd H6 l4 (.lst [V.int (if ((exs.length : Nat) : Int) - 1 > ((pre.length : Nat) : Int) then ((exs.length : Nat) : Int) - 1 else ((pre.length : Nat) : Int)), V.int (if ((exs.length : Nat) : Int) - 2 > ((pre.length : Nat) : Int) then ((exs.length : Nat) : Int) - 2 else ((pre.length : Nat) : Int))])) l4 = some (.lst [nV a1, nV a2]) := by rw [upd_same, ea12]
    generalize upd H6 l4 (.lst [V.int (if ((exs.length : Nat) : Int) - 1 > ((pre.length : Nat) : Int) then ((exs.length : Nat) : Int) - 1 else ((pre.length : Nat) : Int)), V.int (if ((exs.length : Nat) : Int) - 2 > ((pre.length : Nat) : Int) then ((exs.length : Nat) : Int) - 2 else ((pre.length : Nat) : Int))]) = H7 at k7 el4 ⊢
    have el37 := k7.k _ _ el3 (by simp)
    refine ⟨l3, l4, _, _, rfl, rfl, el37, el4, by rw [nat_len, sizeLine_eq]; simp only [List.length_cons, List.length_nil]; omega, fun l5 nl5 => ?_⟩
    have hd7 := hd6.kp0 k7
    have m5 := hd7.nn nl5
    have e5' : (pre.length :: len :: ks).map nV ++ [nV a1, nV a2] = ((pre.length :: len :: ks) ++ [a1, a2]).map nV := by rw [List.map_append]; rfl
    rw [e5']
    have k8 : Kp [] H7 (upd H7 l5 (.lst (((pre.length :: len :: ks) ++ [a1, a2]).map nV))) := Kp.new nl5
    have el5' : upd H7 l5 (.lst (((pre.length :: len :: ks) ++ [a1, a2]).map nV)) l5 = some (.lst (((pre.length :: len :: ks) ++ [a1, a2]).map nV)) := upd_same
    generalize upd H7 l5 (.lst (((pre.length :: len :: ks) ++ [a1, a2]).map nV)) = H8 at k8 el5' ⊢
    have hd8 := hd7.kp0 k8
    have k08 : Kp [L, A] H H8 := (k06.trans (kLA k7)).trans (kLA k8)
    have kb : ∀ k ∈ (pre.length :: len :: ks) ++ [a1, a2], pre.length ≤ k ∧ k ≤ len := fun k hk => by
      rcases List.mem_append.mp hk with z | z
      · rcases List.mem_cons.mp z with z | z
        · omega
        · rcases List.mem_cons.mp z with z | z
          · omega
          · exact ho k z
      · rcases List.mem_cons.mp z with z | z
        · omega
        · have := List.mem_singleton.mp z; omega
    generalize (pre.length :: len :: ks) ++ [a1, a2] = ends at *
    have oc2 := appl_oct pre cells (fun p x hx => (eok p x (List.mem_append_left _ hx)).2) oc
    have bl : (appl cells pre).length = cells.length := appl_length _ _
    refine ⟨l5, rfl, ⟨_, SqL.of el5'⟩, for_list (K := K) (a := l5) (xs := ends.map nV) (fun i σ H' => (∃ a10 a11 a12 a13, σ = [some (.ref L), some (.ref d), some (.int ((pre.length : Nat) : Int)), some (.ref to_), some (.ref tn), some (.int ((cuts : Nat) : Int)), some (.ref te), some (.ref u), some (.int ((pre.length : Nat) : Int)), a10, a11, a12, a13]) ∧ Kp [L, A] H8 H' ∧ Hd H' L A)
      ⟨⟨_, _, _, _, rfl⟩, .refl, hd8⟩ (fun i σ H' _ z => SqL.of (z.2.1.k _ _ el5' (by simp [m5]))) (fun i x σ H' hx z => ?_) fun σ H' z => ?_⟩
    · obtain ⟨⟨a10, a11, a12, a13, rfl⟩, kz, hz⟩ := z
      rw [List.getElem?_map] at hx
      cases hy : ends[i]? with
      | none => rw [hy] at hx; cases hx
      | some k =>
        rw [hy] at hx
        obtain rfl : nV k = x := Option.some.inj hx
        obtain ⟨b1, b2⟩ := kb k (List.mem_of_getElem? hy)
        have k0 := k08.trans kz
        have exz := kz.t _ _ (k8.t _ _ (k7.t _ _ ex6))
        have ec0 := k0.t _ _ D.cel
        have eu0 := kz.t _ _ (k8.t _ _ (k7.t _ _ eu6))
        have to0 := ro.kp k0
        have tn0 := rn.kp k0
        refine ⟨_, rfl, _, rfl, _, rfl, _, rfl, _, rfl, _, rfl, _, rfl, sl_use exz fun t3 Ha ka eta => ?_⟩
        rw [cutV_mid _ _ _ b1 (by omega)] at eta
        have hea : EvT Ha t3 (Ev_.take (k - pre.length)) := by
          have h1 := ptake (k - pre.length) (pdrop pre.length (evs_kp ka (evs_kp kz (evs_kp k8 (evs_kp k7 ev6)))))
          rw [List.drop_left] at h1
          exact ⟨_, eta, h1⟩
        refine ⟨L, u, t3, appl cells pre, Ev_.take (k - pre.length), rfl, A, hz.kp0 ka, ka.t _ _ eu0, hea, ?_, oc2, by rw [List.length_take]; omega, by omega, fun Hb v dd kb hdb evd cut => ?_⟩
        · intro p x hx
          rw [bl]
          exact eok p x (List.mem_append_right _ (List.mem_of_mem_take hx))
        have jps := sf.mid _ _ cut
        obtain ⟨rs, jp, hrs, h1, h2⟩ : ∃ rs, Jp dd rs ∧ (rs = old ∨ rs = new) ∧ (k = pre.length → rs = old) ∧ (k = len → rs = new) := by
          have e1 : ∀ rs, Jp dd rs → (k = pre.length → rs = old) ∧ (k = len → rs = new) := fun rs jp => by
            refine ⟨fun z => ?_, fun z => ?_⟩
            · have c0 : KM.Cut (appl cells pre) [] dd := by
                rw [z, Nat.sub_self] at cut
                exact cut
              exact jp.uniq (sf.ini dd c0)
            · have c0 : KM.Cut (appl cells pre) Ev_ dd := by
                rw [List.take_of_length_le (by omega)] at cut
                exact cut
              exact jp.uniq (sf.fin dd c0)
          rcases jps with jp | jp
          · exact ⟨old, jp, .inl rfl, e1 _ jp⟩
          · exact ⟨new, jp, .inr rfl, e1 _ jp⟩
        have kr : RsOk rs := by rcases hrs with z | z <;> rw [z] <;> assumption
        refine ⟨v, dd, rs, rfl, evd, by have := cut.len; omega, by have := cut.len; omega, cut.oct, jp, fun Hc t kc rt => ?_⟩
        have k0c : Kp [L, A] H' Hc := ((kLA ka).trans kb).trans (kLA kc)
        have hdc := hdb.kp0 kc
        have toc := to0.kp k0c
        have tnc := tn0.kp k0c
        have exc := k0c.t _ _ exz
        have nr := nc_recs kr
        refine ⟨t, _, rfl, dp_recs rt, nr.shw, nr.r2, nr.r3 (by decide), nr.r4 (by decide), ?_⟩
        have cond1 : ∀ (Qc : Bool → Hp → Prop), Qc false Hc → tAnd (tTest (tOp rNe (tVar 12) (tCB (rRepr K) (tCons (tVar 3) tNil)))) (tTest (tOp rNe (tVar 12) (tCB (rRepr K) (tCons (tVar 4) tNil))))
            [some (.ref L), some (.ref d), some (.int ((pre.length : Nat) : Int)), some (.ref to_), some (.ref tn), some (.int ((cuts : Nat) : Int)), some (.ref te), some (.ref u), some (.int ((pre.length : Nat) : Int)), a10, a11, some (nV k), some (.str (recsD rs).shown)] Hc Qc := fun Qc hq => by
          refine ⟨_, rfl, _, rfl, to_, _, rfl, dp_recs toc, no.shw, no.r2, no.r3 (by decide), no.r4 (by decide), rfl, _, rfl, ?_⟩
          rcases hrs with rfl | rfl
          · exact ifb (fun hb => absurd hb (by simp)) fun _ => hq
          · refine ifb (fun _ => ⟨_, rfl, _, rfl, tn, _, rfl, dp_recs tnc, nn.shw, nn.r2, nn.r3 (by decide), nn.r4 (by decide), rfl, _, rfl, ?_⟩) fun _ => hq
            have e : (!decide (V.str (recsD rs).shown = V.str (recsD rs).shown)) = false := by simp
            show Qc (!decide (V.str (recsD rs).shown = V.str (recsD rs).shown)) Hc
            rw [e]
            exact hq
        have cond2 : ∀ (Qc : Bool → Hp → Prop), Qc false Hc → tOr (tAnd (tTest (tOp rEq (tVar 11) (tVar 2))) (tTest (tOp rNe (tVar 12) (tCB (rRepr K) (tCons (tVar 3) tNil))))) (tAnd (tTest (tOp rEq (tVar 11) (tCB (rLenS K) (tCons (tVar 6) tNil)))) (tTest (tOp rNe (tVar 12) (tCB (rRepr K) (tCons (tVar 4) tNil)))))
            [some (.ref L), some (.ref d), some (.int ((pre.length : Nat) : Int)), some (.ref to_), some (.ref tn), some (.int ((cuts : Nat) : Int)), some (.ref te), some (.ref u), some (.int ((pre.length : Nat) : Int)), a10, a11, some (nV k), some (.str (recsD rs).shown)] Hc Qc := fun Qc hq => by
          have last : tAnd (tTest (tOp rEq (tVar 11) (tCB (rLenS K) (tCons (tVar 6) tNil)))) (tTest (tOp rNe (tVar 12) (tCB (rRepr K) (tCons (tVar 4) tNil)))) [some (.ref L), some (.ref d), some (.int ((pre.length : Nat) : Int)), some (.ref to_), some (.ref tn), some (.int ((cuts : Nat) : Int)), some (.ref te), some (.ref u), some (.int ((pre.length : Nat) : Int)), a10, a11, some (nV k), some (.str (recsD rs).shown)] Hc Qc := by
            refine ⟨_, rfl, _, rfl, te, exs, rfl, .inr (SqT.of exc), rfl, _, rfl, ?_⟩
            refine ifb (fun hb => ⟨_, rfl, _, rfl, tn, _, rfl, dp_recs tnc, nn.shw, nn.r2, nn.r3 (by decide), nn.r4 (by decide), rfl, _, rfl, ?_⟩) fun _ => hq
            have hk : k = len := by
              have h3 : nV k = nV exs.length := of_decide_eq_true hb
              have h4 : ((k : Nat) : Int) = ((exs.length : Nat) : Int) := by injection h3
              omega
            have hr := h2 hk
            subst hr
            have e : (!decide (V.str (recsD rs).shown = V.str (recsD rs).shown)) = false := by simp
            show Qc (!decide (V.str (recsD rs).shown = V.str (recsD rs).shown)) Hc
            rw [e]
            exact hq
          refine ⟨_, rfl, _, rfl, rfl, _, rfl, ?_⟩
          refine ifb (fun hb => ⟨_, rfl, _, rfl, to_, _, rfl, dp_recs toc, no.shw, no.r2, no.r3 (by decide), no.r4 (by decide), rfl, _, rfl, ?_⟩) fun _ => last
          have hk : k = pre.length := by
            have h3 : nV k = nV pre.length := of_decide_eq_true hb
            have h4 : ((k : Nat) : Int) = ((pre.length : Nat) : Int) := by injection h3
            omega
          have hr := h1 hk
          refine ifb (fun hb2 => absurd hb2 (by rw [hr]; simp)) fun _ => last
        refine cond1 _ (iteF ?_)
        refine cond2 _ (iteF ?_)
        exact ⟨⟨_, _, _, _, rfl⟩, kz.trans k0c, hdc⟩
    · obtain ⟨⟨a10, a11, a12, a13, rfl⟩, kz, hz⟩ := z
      exact q H' (k08.trans kz) hz
end
end KJ
end

section
namespace KJ
open PySem PySem.Spec PyProof.Rows L2 KM
section
variable {P : Program} {w : World} {K : PySem.W.Frag} {mg : Str → Option Value} {base : Heap}
theorem FunDkb {x qual : Str} {params : Arguments} {body : List Stmt} {scope : Scope} {kws : List (Str × V)} {f : Addr} {fd : FuncData} {ps ks : List Str} (F : FunD K x qual params body scope [] kws f fd) {g : List Value → List Value → List Value} {gV : List V → List V → List V}
    (rel : ∀ {vs : List V} {us : List Value} {zs : List V} {ws : List Value}, Vals vs us → Vals zs ws → Vals (gV vs zs) (g us ws))
    (h : ∀ (kV doc pm : Value) (an : Option Addr) (cdv ct : Value) (us ws : List Value), (g us ws).length = ps.length → bindArgs (PySem.W.fnOf x qual params body scope .none kV doc pm an cdv ct) ⟨us, ks.zip ws⟩ = pure (ps.zip (g us ws))) : KBinds K fd ps ks g gV := by
  obtain ⟨oc, od, dV, kV, doc, pm, an, cdv, ct, osl, rfl, lk, hcd, hD, hK⟩ := F.ex
  rcases hD with ⟨_, rfl⟩ | ⟨e, _⟩
  · exact ⟨fun s us ws _ hl => .of_eq (h kV doc pm an cdv ct us ws hl), fun r1 r2 => rel r1 r2⟩
  · exact absurd rfl e
theorem FunDkn {x qual : Str} {params : Arguments} {body : List Stmt} {scope : Scope} {kws : List (Str × V)} {f : Addr} {fd : FuncData} {ps ks : List Str} {n : Nat} (F : FunD K x qual params body scope [] kws f fd) {g : List Value → List Value → List Value} {gV : List V → List V → List V}
    (rel : ∀ {vs : List V} {us : List Value} {zs : List V} {ws : List Value}, Vals vs us → Vals zs ws → Vals (gV vs zs) (g us ws))
    (h : ∀ (kV doc pm : Value) (an : Option Addr) (cdv ct : Value) (us ws : List Value), us.length = n → ws.length = ks.length → bindArgs (PySem.W.fnOf x qual params body scope .none kV doc pm an cdv ct) ⟨us, ks.zip ws⟩ = pure (ps.zip (g us ws))) : KBn K fd ps n ks g gV := by
  obtain ⟨oc, od, dV, kV, doc, pm, an, cdv, ct, osl, rfl, lk, hcd, hD, hK⟩ := F.ex
  rcases hD with ⟨_, rfl⟩ | ⟨e, _⟩
  · exact ⟨fun s us ws _ h1 h2 => .of_eq (h kV doc pm an cdv ct us ws h1 h2), fun r1 r2 => rel r1 r2⟩
  · exact absurd rfl e
/-- one value ahead, one by its name; one ahead, two by name, the other way round; one by name; three by name, the other way round -/
def g11 {α : Type} : List α → List α → List α
  | [a], [b] => [a, b]
  | _, _ => []
def g12 {α : Type} : List α → List α → List α
  | [a], [b, c] => [a, c, b]
  | _, _ => []
def g01 {α : Type} : List α → List α → List α
  | [], [b] => [b]
  | _, _ => []
def g03 {α : Type} : List α → List α → List α
  | [], [a, b, c] => [c, b, a]
  | _, _ => []
theorem g11_rel {vs zs : List V} {us ws : List Value} (r : Vals vs us) (s : Vals zs ws) : Vals (g11 vs zs) (g11 us ws) := by
  cases r with
  | nil => exact .nil
  | cons a r =>
    cases r with
    | cons b r => exact .nil
    | nil =>
      cases s with
      | nil => exact .nil
      | cons c s =>
        cases s with
        | nil => exact .cons a (.cons c .nil)
        | cons d s => exact .nil
theorem g01_rel {vs zs : List V} {us ws : List Value} (r : Vals vs us) (s : Vals zs ws) : Vals (g01 vs zs) (g01 us ws) := by
  cases r with
  | cons b r => exact .nil
  | nil =>
    cases s with
    | nil => exact .nil
    | cons c s =>
      cases s with
      | nil => exact .cons c .nil
      | cons d s => exact .nil
theorem g12_rel {vs zs : List V} {us ws : List Value} (r : Vals vs us) (s : Vals zs ws) : Vals (g12 vs zs) (g12 us ws) := by
  cases r with
  | nil => exact .nil
  | cons a r =>
    cases r with
    | cons b r => exact .nil
    | nil =>
      cases s with
      | nil => exact .nil
      | cons c s =>
        cases s with
        | nil => exact .nil
        | cons d s =>
          cases s with
          | nil => exact .cons a (.cons d (.cons c .nil))
          | cons e s => exact .nil
theorem g03_rel {vs zs : List V} {us ws : List Value} (r : Vals vs us) (s : Vals zs ws) : Vals (g03 vs zs) (g03 us ws) := by
  cases r with
  | cons b r => exact .nil
  | nil =>
    cases s with
    | nil => exact .nil
    | cons c s =>
      cases s with
      | nil => exact .nil
      | cons d s =>
        cases s with
        | nil => exact .nil
        | cons e s =>
          cases s with
          | nil => exact .cons e (.cons d (.cons c .nil))
          | cons f s => exact .nil
theorem g11_inv {us ws : List Value} (h : (g11 us ws).length = 2) : ∃ a b, us = [a] ∧ ws = [b] := by
  unfold g11 at h
  split at h
  · exact ⟨_, _, rfl, rfl⟩
  · simp at h
theorem g12_inv {us ws : List Value} (h : (g12 us ws).length = 3) : ∃ a b c, us = [a] ∧ ws = [b, c] := by
  unfold g12 at h
  split at h
  · exact ⟨_, _, _, rfl, rfl⟩
  · simp at h
theorem g01_inv {us ws : List Value} (h : (g01 us ws).length = 1) : ∃ b, us = [] ∧ ws = [b] := by
  unfold g01 at h
  split at h
  · exact ⟨_, rfl, rfl⟩
  · simp at h
theorem g03_inv {us ws : List Value} (h : (g03 us ws).length = 3) : ∃ a b c, us = [] ∧ ws = [a, b, c] := by
  unfold g03 at h
  split at h
  · exact ⟨_, _, _, rfl, rfl⟩
  · simp at h
theorem len1 {α : Type} {us : List α} (h : us.length = 1) : ∃ a, us = [a] := by
  rcases us with _ | ⟨a, _ | ⟨b, us⟩⟩
  · simp at h
  · exact ⟨a, rfl⟩
  · simp at h
theorem kb_Journal_write (T : Tx P K mg) : KBinds K T.d_Journal_write ["self", "record"] ["record"] g11 g11 := FunDkb T.F_Journal_write g11_rel fun kV doc pm an cdv ct us ws hl => by
  obtain ⟨a, b, rfl, rfl⟩ := g11_inv hl
  rfl
theorem kb_Journal_renew (T : Tx P K mg) : KBinds K T.d_Journal_renew ["self", "records"] ["records"] g11 g11 := FunDkb T.F_Journal_renew g11_rel fun kV doc pm an cdv ct us ws hl => by
  obtain ⟨a, b, rfl, rfl⟩ := g11_inv hl
  rfl
theorem kb_Disk_look (T : Tx P K mg) : KBinds K T.d_Disk_look ["self", "at"] ["at"] g11 g11 := FunDkb T.F_Disk_look g11_rel fun kV doc pm an cdv ct us ws hl => by
  obtain ⟨a, b, rfl, rfl⟩ := g11_inv hl
  rfl
theorem kb_Disk_put (T : Tx P K mg) : KBinds K T.d_Disk_put ["self", "at", "octet"] ["octet", "at"] g12 g12 := FunDkb T.F_Disk_put g12_rel fun kV doc pm an cdv ct us ws hl => by
  obtain ⟨a, b, c, rfl, rfl⟩ := g12_inv hl
  rfl
theorem kb_pending_places (T : Tx P K mg) : KBinds K T.d_pending_places ["events"] ["events"] g01 g01 := FunDkb T.F_pending_places g01_rel fun kV doc pm an cdv ct us ws hl => by
  obtain ⟨b, rfl, rfl⟩ := g01_inv hl
  rfl
theorem kb_cut_cells (T : Tx P K mg) : KBinds K T.d_cut_cells ["cells", "events", "octets"] ["octets", "events", "cells"] g03 g03 := FunDkb T.F_cut_cells g03_rel fun kV doc pm an cdv ct us ws hl => by
  obtain ⟨a, b, c, rfl, rfl⟩ := g03_inv hl
  rfl
theorem kb_Disk_init (T : Tx P K mg) : KBn K T.d_Disk_init ["self", "cells"] 1 ["cells"] (fun us ws => us ++ ws) (fun us ws => us ++ ws) := FunDkn T.F_Disk_init (fun r s => r.append s) fun kV doc pm an cdv ct us ws h1 h2 => by
  obtain ⟨a, rfl⟩ := len1 h1
  obtain ⟨b, rfl⟩ := len1 h2
  rfl
theorem kb_Journal_init (T : Tx P K mg) : KBn K T.d_Journal_init ["self", "disk"] 1 ["disk"] (fun us ws => us ++ ws) (fun us ws => us ++ ws) := FunDkn T.F_Journal_init (fun r s => r.append s) fun kV doc pm an cdv ct us ws h1 h2 => by
  obtain ⟨a, rfl⟩ := len1 h1
  obtain ⟨b, rfl⟩ := len1 h2
  rfl
/-- isinstance of the error that a suite holds -/
def rIsE (K : PySem.W.Frag) (cls : Value) (d : Option Addr) (a : Addr) : List V → Hp → VK → Prop := fun xs H Q => ∃ (D dd : Addr), cls = .ref D ∧ d = some dd ∧ IsT K D ∧ rIsW K D a dd xs H Q
theorem call_isE {X : Cx} {a : Addr} {cls : Value} {d : Option Addr} {oe : Obj} {pn : List (Addr × Obj)} (hz : Zc cls d oe) (hf : ∃ vs, oe.data = .fields vs) : CallR (X.suite a ((a, oe) :: pn)) (.builtin "isinstance") (rIsE X.K cls d a) := by
  intro pins s σ H xs us Q I r h
  obtain ⟨D, dd, rfl, rfl, T, h⟩ := h
  exact call_isW T hz hf pins s σ H xs us Q I r h
theorem passesN {X : Cx} {W : WX} (tk : Takes X W) (n : Nat) (hn : X.N.length = n := by rfl) : Passes (L2.CX X.prog X.w) X (fun cls d H => ∀ σ : L2.St, σ.length = n → W cls d σ H) :=
  fun _ σ _ _ e s' I c => tk e s' (XE.of_call I (fun _ _ _ h => h σ (I.len.trans hn)) c)
end
end KJ
end

section
namespace KJ
open PySem PySem.Spec PyProof.Rows L2 KM
section
variable {P : Program} {w : World} {K : PySem.W.Frag} {mg : Str → Option Value} {base : Heap}
/-- the day's state: the drawn numbers and a journal on its disk -/
structure Wd (T : Tx P K mg) (H : Hp) (L A j d c o e r : Addr) (cells octs : List Int) (evs : List Ev) (rs : List (List Int)) : Prop where
  hd : Hd H L A
  S : JS T H j d c o e r cells octs evs rs
  s1 : o ≠ L ∧ o ≠ A
  s2 : e ≠ L ∧ e ≠ A
  s3 : r ≠ L ∧ r ≠ A
  ap : octs = appl cells evs
  co : ∀ x ∈ cells, Oct x
theorem Wd.ins {T : Tx P K mg} {H : Hp} {L A j d c o e r : Addr} {cells octs : List Int} {evs : List Ev} {rs : List (List Int)} (w : Wd T H L A j d c o e r cells octs evs rs) : j ≠ L ∧ j ≠ A ∧ d ≠ L ∧ d ≠ A := by
  obtain ⟨jx, hj⟩ := w.S.J.ins
  obtain ⟨dx, hdk⟩ := w.S.D.ins
  obtain ⟨st, ns, e1, e2, _⟩ := w.hd
  exact ⟨ne_of hj e1 (by intro z; cases z), ne_of hj e2 (by intro z; cases z), ne_of hdk e1 (by intro z; cases z), ne_of hdk e2 (by intro z; cases z)⟩
/-- draws change nothing of the journal -/
theorem Wd.draw {T : Tx P K mg} {H H' : Hp} {L A j d c o e r : Addr} {cells octs : List Int} {evs : List Ev} {rs : List (List Int)} (w : Wd T H L A j d c o e r cells octs evs rs) (k : Kp [L, A] H H') (hd : Hd H' L A) : Wd T H' L A j d c o e r cells octs evs rs := by
  have i := w.ins
  have h1 := w.s1
  have h2 := w.s2
  have h3 := w.s3
  exact ⟨hd, w.S.kp k (by simp [i]) (by simp [i]) (by simp [h1]) (by simp [h2]) (by simp [h3]), h1, h2, h3, w.ap, w.co⟩
theorem Wd.kp0 {T : Tx P K mg} {H H' : Hp} {L A j d c o e r : Addr} {cells octs : List Int} {evs : List Ev} {rs : List (List Int)} (w : Wd T H L A j d c o e r cells octs evs rs) (k : Kp [] H H') : Wd T H' L A j d c o e r cells octs evs rs :=
  ⟨w.hd.kp0 k, w.S.kp0 k, w.s1, w.s2, w.s3, w.ap, w.co⟩
theorem Hd.fresh {H H' : Hp} {L A p : Addr} (hd : Hd H' L A) (k : Kp [L, A] H H') (np : H' p = none) : H p = none := k.fresh np fun s hs => .inl (by
  obtain ⟨st, ns, e1, e2, _⟩ := hd
  rcases List.mem_cons.mp hs with z | z
  · rw [z, e1]; simp
  · rw [List.mem_singleton.mp z, e2]; simp)
theorem kmon {S S' : List Addr} {H H' : Hp} (k : Kp S H H') (h : ∀ b ∈ S, b ∈ S') : Kp S' H H' := k.mono fun b hb => .inl (h b hb)
theorem inS6 {L A j o e r b : Addr} (h : b ∈ [j, o, e, r]) : b ∈ [L, A, j, o, e, r] := List.mem_cons_of_mem _ (List.mem_cons_of_mem _ h)
theorem inS6a {L A j o e r b : Addr} (h : b ∈ [L, A]) : b ∈ [L, A, j, o, e, r] := by
  rcases List.mem_cons.mp h with z | z
  · simp [z]
  · simp [List.mem_singleton.mp z]
theorem inS6b {L A j o e r b : Addr} (h : b ∈ [j, o, e]) : b ∈ [L, A, j, o, e, r] := by
  rcases List.mem_cons.mp h with z | z
  · simp [z]
  · rcases List.mem_cons.mp z with z | z
    · simp [z]
    · simp [List.mem_singleton.mp z]
/-- the records behind a call that was done; why one was refused -/
def Nxt (word : Str) (rs ss : List (List Int)) (x : List Int) (rs' : List (List Int)) : Prop := (word = "write" ∧ rs' = rs ++ [x]) ∨ (word = "renew" ∧ rs' = ss) ∨ (word = "drop" ∧ ∃ y, rs = rs' ++ [y])
def Refd (word : Str) (octs : List Int) (rs ss : List (List Int)) (x : List Int) (w : Str) : Prop := (word = "write" ∧ w = "room" ∧ ¬ roomJ octs rs (3 + x.length)) ∨ (word = "renew" ∧ w = "room" ∧ ¬ roomR octs ss) ∨ (word = "drop" ∧ w = "records" ∧ rs = [])
theorem size_ge : ∀ rs : List (List Int), rs.length ≤ size rs
  | [] => Nat.le_refl _
  | r :: rs => by have := size_ge rs; rw [size_cons, List.length_cons]; omega
theorem JS.sz {T : Tx P K mg} {H : Hp} {j d c o e r : Addr} {cells octs : List Int} {evs : List Ev} {rs : List (List Int)} (S : JS T H j d c o e r cells octs evs rs) : size rs ≤ 20000 := by
  have h1 := S.jp.room
  have h2 := hs_le (n := octs.length) (s := sideOf octs + 1) (by have := S.n1; have := S.D.ln; omega) (by have := sideOf_lt octs; omega)
  have := S.n2
  have := S.D.ln
  omega
theorem JS.ok {T : Tx P K mg} {H : Hp} {j d c o e r : Addr} {cells octs : List Int} {evs : List Ev} {rs : List (List Int)} (S : JS T H j d c o e r cells octs evs rs) : RsOk rs := ⟨rec_oct S.jp.ch (fun i => oct_at S.oc i), by have := S.sz; omega⟩
def sp_call (T : Tx P K mg) : Sp := fun vs H Q _ => ∃ (L j : Addr) (word : Str) (tr tp : Addr), vs = [.ref L, .ref j, .str word, .ref tr, .ref tp] ∧ ∃ (A d c o e r : Addr) (cells octs : List Int) (evs : List Ev) (rs ss : List (List Int)) (x : List Int), Wd T H L A j d c o e r cells octs evs rs ∧
  (word = "write" ∨ word = "drop" ∨ word = "renew") ∧ RecT H tr ss ∧ (∀ y ∈ ss, (∀ z ∈ y, Oct z) ∧ y.length < 65536) ∧ ss.length < 15000000 ∧ H tp = some (.tup (x.map V.int)) ∧ (∀ z ∈ x, Oct z) ∧ x.length ≤ 300 ∧ evs.length < 10000000 ∧
  (∀ (H' : Hp) (v : Addr) (E' : List Ev) (r' : Addr) (rs' : List (List Int)), Nxt word rs ss x rs' → (r' = r ∨ H r' = none) → Kp [L, A, j, o, e, r] H H' → Wd T H' L A j d c o e r' cells (appl octs E') (evs ++ E') rs' → Safe octs E' rs rs' → E'.length ≤ 20010 → pend E' = [] → H' v = some (.lst [.non]) → Q (.ref v) H') ∧
  (∀ (H' : Hp) (w : Str), Refd word octs rs ss x w → Kp [L, A] H H' → Wd T H' L A j d c o e r cells octs evs rs → Q (.str w) H')
--N 5
theorem ok_call (T : Tx P K mg) : FnOk P w K mg base (L2.CX P w) 4 T.f_call T.d_call ["_law_heap_here", "_law_journal", "_law_word", "_law_records", "_law_part"] (sp_call T) := by
  refine T.F_call.ok (k := 3) sc_call (fun vs H Q E h => by obtain ⟨_, _, _, _, _, rfl, _⟩ := h; rfl) (fun cdv A outer s H vs Q E hr h => ?_)
  refine ⟨_, PSs.nox (pss_one (ps_try_as (i := 5) rfl rfl sc_call.nd rfl rfl ⟨rfl, by decide, .inl T.gM⟩ takes0 (fun W pn xe tk hpo =>
 (pss_cons (ps_if (pt_cmpR op_eq (pv 2) pe_str (nomark _))
 (pss_one (ps_ret (pe_lst (pa_cons (pe_ifExp (pt_cmpR op_eq (pe_call (ok_draw T) (hr.mono (by decide)) rfl T.g_draw T.F_draw.kp T.b_draw .nil passL (pa_cons (pv 0) (pa_cons pe_int pa_nil))) pe_int (nomark _)) (pe_meth (pv 1) T.clJ T.m_Journal_renew (ok_Journal_renew T) (hr.mono (by decide)) T.b_Journal_renew .nil (passesN tk 6) (pa_cons (pv 3) pa_nil)) (pe_methK (pv 1) T.clJ T.m_Journal_renew (ok_Journal_renew T) (hr.mono (by decide)) (kb_Journal_renew T) (passesN tk 6) (pk_cons (pv 3) pk_nil))) pa_nil))))
 pss_nil)
 (pss_cons (ps_if (pt_cmpR op_eq (pv 2) pe_str (nomark _))
 (pss_one (ps_ret (pe_lst (pa_cons (pe_meth0 (pv 1) T.clJ T.m_Journal_drop (ok_Journal_drop T) (hr.mono (by decide)) T.b_Journal_drop .nil (passesN tk 6)) pa_nil))))
 pss_nil)
 (pss_one (ps_ret (pe_lst (pa_cons (pe_ifExp (pt_cmpR op_eq (pe_call (ok_draw T) (hr.mono (by decide)) rfl T.g_draw T.F_draw.kp T.b_draw .nil passL (pa_cons (pv 0) (pa_cons pe_int pa_nil))) pe_int (nomark _)) (pe_meth (pv 1) T.clJ T.m_Journal_write (ok_Journal_write T) (hr.mono (by decide)) T.b_Journal_write .nil (passesN tk 6) (pa_cons (pv 4) pa_nil)) (pe_methK (pv 1) T.clJ T.m_Journal_write (ok_Journal_write T) (hr.mono (by decide)) (kb_Journal_write T) (passesN tk 6) (pk_cons (pv 4) pk_nil))) pa_nil)))))))
 (fun a oe cls d pn hz hf =>
 (pss_cons (ps_if (PW.pt (pw_or (pt_val (pe_callB (call_isE hz hf) rfl T.n_isinstance (by decide +kernel) (pa_cons (pv 5) (pa_cons (pe_glob (v := .ref T.CB) rfl T.gB rfl) pa_nil)))) (pw_or1 (pt_not (pt_val (pe_callB (call_isE hz hf) rfl T.n_isinstance (by decide +kernel) (pa_cons (pv 5) (pa_cons (pe_glob (v := .ref T.CR) rfl T.gR rfl) pa_nil))))))))
 (pss_one (ps_ret pe_str))
 pss_nil)
 (pss_one (ps_ret (pe_xf T.eR.fc T.eR.T.noN hz hf (pv 5)))))))), ?_⟩
  obtain ⟨L, j, word, tr, tp, rfl, A, d, c, o, e, r, cells, octs, evs, rs, ss, x, W, hw, ht, hss, hsl, hp, hx, hxl, hel, q, qE⟩ := h
  -- the suite
  have su : ∀ (w : Str) (H' : Hp) (d' a : Addr) (σ : L2.St) (D : Ends), σ.length = 6 → H' d' = some (.xd [(("word" : Str), .str w)]) → D.rt (.str w) H' →
      tSeq (tIfS (tOr (tB (tCB (rIsE K (.ref T.CR) (some d') a) (tCons (tVar 5) (tCons (tC (.ref T.CB)) tNil)))) (tNot (tB (tCB (rIsE K (.ref T.CR) (some d') a) (tCons (tVar 5) (tCons (tC (.ref T.CR)) tNil)))))) (tRet (tC (.str "wrong"))) tNext) (tRet (tXf a (.ref T.CR) (some d') T.CR "word" (tVar 5))) D (σ.set 5 (some (.ref a))) H' := fun w H' d' a σ D hσ ed hq => by
    have g5 : (σ.set 5 (some (.ref a)))[5]? = some (some (.ref a)) := List.getElem?_set_self (by omega)
    refine ⟨_, g5, T.CR, d', rfl, rfl, T.eR.is, T.CB, false, _, rfl, ed, T.kRB, _, rfl, iteF ?_⟩
    refine ⟨_, g5, T.CR, d', rfl, rfl, T.eR.is, T.CR, true, _, rfl, ed, T.kRR, _, rfl, iteF ?_⟩
    exact ⟨_, g5, rfl, rfl, d', _, .str w, rfl, ed, by simp [List.lookup], hq⟩
  have n6 := W.S.sz
  have ge := size_ge rs
  have i := W.ins
  have s1 := W.s1
  have s2 := W.s2
  have s3 := W.s3
  refine ⟨_, rfl, rfl, _, rfl, ?_⟩
  rcases hw with rfl | rfl | rfl
  · refine iteF ⟨_, rfl, rfl, _, rfl, iteF ?_⟩
    refine ⟨_, rfl, L, 2, rfl, A, W.hd, by decide, by decide, fun H1 k k1 hd1 hk => ⟨rfl, _, rfl, ?_⟩⟩
    have W1 := W.draw k1 hd1
    obtain ⟨jx, hj⟩ := W1.S.J.ins
    have hp1 := k1.t _ _ hp
    have fin : roomJ octs rs (3 + x.length) → ∀ (H2 : Hp) (E' : List Ev), Kp [j, o, e, r] H1 H2 → JS T H2 j d c o e r cells (appl octs E') (evs ++ E') (rs ++ [x]) → Safe octs E' rs (rs ++ [x]) → E'.length ≤ x.length + 10 → pend E' = [] → ∀ l, H2 l = none → Q (.ref l) (upd H2 l (.lst [.non])) := fun room H2 E' k2 S2 sf el pe l nl => by
      have W2 : Wd T H2 L A j d c o e r cells (appl octs E') (evs ++ E') (rs ++ [x]) := ⟨W1.hd.kp k2 (by simp [i.1.symm, s1.1.symm, s2.1.symm, s3.1.symm]) (by simp [i.2.1.symm, s1.2.symm, s2.2.symm, s3.2.symm]), S2, s1, s2, s3, by rw [appl_append, ← W.ap], W.co⟩
      exact q _ l E' r _ (.inl ⟨rfl, rfl⟩) (.inl rfl) (((kmon k1 fun b hb => inS6a hb).trans (kmon k2 fun b hb => inS6 hb)).then0 (Kp.new nl)) (W2.kp0 (Kp.new nl)) sf (by omega) pe upd_same
    have bad : ¬ roomJ octs rs (3 + x.length) → ∀ (H2 : Hp) (d' : Addr), Kp [] H1 H2 → H2 d' = some (.xd [(("word" : Str), .str "room")]) → Q (.str "room") H2 := fun room H2 d' k2 ed =>
      qE H2 "room" (.inl ⟨rfl, rfl, room⟩) (k1.trans (kLA k2)) (W1.kp0 k2)
    refine ifb (fun _ => ?_) (fun _ => ?_)
    · refine ⟨_, rfl, j, jx, _, rfl, hj, lk_write .., _, rfl, ?_⟩
      exact ⟨j, tp, d, c, o, e, r, cells, octs, evs, rs, x, rfl, W1.S, hp1, hx, by omega, by omega, by omega, fun room H2 E' k2 S2 sf el pe => ⟨Nat.le_trans (show 1 ≤ 2 by decide) two_size, fin room H2 E' k2 S2 sf el pe⟩, fun room H2 d' k2 nd ed σ hσ =>
        ⟨true, T.eR.te, fun _ a na => su "room" H2 d' a σ _ hσ ed (bad room H2 d' k2 ed), fun z => nomatch z⟩⟩
    · refine ⟨_, rfl, j, jx, _, rfl, hj, lk_write .., _, rfl, ?_⟩
      exact ⟨j, tp, d, c, o, e, r, cells, octs, evs, rs, x, rfl, W1.S, hp1, hx, by omega, by omega, by omega, fun room H2 E' k2 S2 sf el pe => ⟨Nat.le_trans (show 1 ≤ 2 by decide) two_size, fin room H2 E' k2 S2 sf el pe⟩, fun room H2 d' k2 nd ed σ hσ =>
        ⟨true, T.eR.te, fun _ a na => su "room" H2 d' a σ _ hσ ed (bad room H2 d' k2 ed), fun z => nomatch z⟩⟩
  · refine iteF ⟨_, rfl, rfl, _, rfl, iteT ?_⟩
    obtain ⟨jx, hj⟩ := W.S.J.ins
    refine ⟨_, rfl, j, jx, _, rfl, hj, lk_drop .., ?_⟩
    refine ⟨j, d, c, o, e, r, cells, octs, evs, rs, rfl, W.S, by omega, fun rs' y er H2 E' k2 S2 sf el pe => ⟨Nat.le_trans (show 1 ≤ 2 by decide) two_size, fun l nl => ?_⟩, fun er H2 d' k2 nd ed σ hσ =>
        ⟨true, T.eR.te, fun _ a na => su "records" H2 d' a σ _ hσ ed (qE H2 "records" (.inr (.inr ⟨rfl, rfl, er⟩)) (kLA k2) (W.kp0 k2)), fun z => nomatch z⟩⟩
    have W2 : Wd T H2 L A j d c o e r cells (appl octs E') (evs ++ E') rs' := ⟨W.hd.kp k2 (by simp [i.1.symm, s1.1.symm, s2.1.symm, s3.1.symm]) (by simp [i.2.1.symm, s1.2.symm, s2.2.symm, s3.2.symm]), S2, s1, s2, s3, by rw [appl_append, ← W.ap], W.co⟩
    exact q _ l E' r _ (.inr (.inr ⟨rfl, y, er⟩)) (.inl rfl) ((kmon k2 fun b hb => inS6 hb).then0 (Kp.new nl)) (W2.kp0 (Kp.new nl)) sf (by omega) pe upd_same
  · refine iteT ?_
    refine ⟨_, rfl, L, 2, rfl, A, W.hd, by decide, by decide, fun H1 k k1 hd1 hk => ⟨rfl, _, rfl, ?_⟩⟩
    have W1 := W.draw k1 hd1
    obtain ⟨jx, hj⟩ := W1.S.J.ins
    have ht1 := ht.kp k1
    have fin : roomR octs ss → ∀ (H2 : Hp) (E' : List Ev) (r' : Addr), Kp [j, o, e] H1 H2 → H1 r' = none → JS T H2 j d c o e r' cells (appl octs E') (evs ++ E') ss → Safe octs E' rs ss → E'.length ≤ 20010 → pend E' = [] → ∀ l, H2 l = none → Q (.ref l) (upd H2 l (.lst [.non])) := fun room H2 E' r' k2 nr S2 sf el pe l nl => by
      have W2 : Wd T H2 L A j d c o e r' cells (appl octs E') (evs ++ E') ss := ⟨W1.hd.kp k2 (by simp [i.1.symm, s1.1.symm, s2.1.symm]) (by simp [i.2.1.symm, s1.2.symm, s2.2.symm]), S2, s1, s2, W1.hd.nn nr, by rw [appl_append, ← W.ap], W.co⟩
      exact q _ l E' r' _ (.inr (.inl ⟨rfl, rfl⟩)) (.inr (hd1.fresh k1 nr)) (((kmon k1 fun b hb => inS6a hb).trans (kmon k2 fun b hb => inS6b hb)).then0 (Kp.new nl)) (W2.kp0 (Kp.new nl)) sf el pe upd_same
    have bad : ¬ roomR octs ss → ∀ (H2 : Hp) (d' : Addr), Kp [] H1 H2 → H2 d' = some (.xd [(("word" : Str), .str "room")]) → Q (.str "room") H2 := fun room H2 d' k2 ed =>
      qE H2 "room" (.inr (.inl ⟨rfl, rfl, room⟩)) (k1.trans (kLA k2)) (W1.kp0 k2)
    refine ifb (fun _ => ?_) (fun _ => ?_)
    · refine ⟨_, rfl, j, jx, _, rfl, hj, lk_renew .., _, rfl, ?_⟩
      exact ⟨j, tr, d, c, o, e, r, cells, octs, evs, rs, ss, rfl, W1.S, ht1, hss, by omega, hsl, fun room H2 E' r' k2 nr S2 sf el pe => ⟨Nat.le_trans (show 1 ≤ 2 by decide) two_size, fin room H2 E' r' k2 nr S2 sf el pe⟩, fun room H2 d' k2 nd ed σ hσ =>
        ⟨true, T.eR.te, fun _ a na => su "room" H2 d' a σ _ hσ ed (bad room H2 d' k2 ed), fun z => nomatch z⟩⟩
    · refine ⟨_, rfl, j, jx, _, rfl, hj, lk_renew .., _, rfl, ?_⟩
      exact ⟨j, tr, d, c, o, e, r, cells, octs, evs, rs, ss, rfl, W1.S, ht1, hss, by omega, hsl, fun room H2 E' r' k2 nr S2 sf el pe => ⟨Nat.le_trans (show 1 ≤ 2 by decide) two_size, fin room H2 E' r' k2 nr S2 sf el pe⟩, fun room H2 d' k2 nd ed σ hσ =>
        ⟨true, T.eR.te, fun _ a na => su "room" H2 d' a σ _ hσ ed (bad room H2 d' k2 ed), fun z => nomatch z⟩⟩
end
end KJ
end

section
namespace KJ
open PySem PySem.Spec PyProof.Rows L2 KM
section
variable {P : Program} {w : World} {K : PySem.W.Frag} {mg : Str → Option Value} {base : Heap}
theorem safe_nil {c : List Int} {rs : List (List Int)} (h : Jp c rs) : Safe c [] rs rs := by
  have f : ∀ d, KM.Cut c [] d → Jp d rs := fun d k => by
    rw [cut_eq k rfl]; exact h
  exact ⟨fun k d q => .inl (f d (by simpa using q)), f, f⟩
theorem str_eq {a b : Str} (h : decide (V.str a = V.str b) = true) : a = b := V.str.inj (of_decide_eq_true h)
theorem str_ne {a b : Str} (h : decide (V.str a = V.str b) = false) : a ≠ b := fun z => of_decide_eq_false h (by rw [z])
theorem recs_snocT {H : Hp} {t : Addr} {rs : List (List Int)} {xs : List V} {p : Addr} {x : List Int} (h : RecsV H xs rs) (e : H p = some (.tup (x.map V.int))) (et : H t = some (.tup (xs ++ [.ref p]))) : RecT H t (rs ++ [x]) := ⟨_, et, papp h (.cons ⟨p, rfl, e⟩ .nil)⟩
def eights (rs : List (List Int)) : List Int := rs.map fun r => (((r.map V.int).length : Nat) : Int) + 8
theorem eights_sum : ∀ rs : List (List Int), ((size rs : Nat) : Int) ≤ (eights rs).sum
  | [] => Int.le_refl _
  | r :: rs => by
    have := eights_sum rs
    show _ ≤ (((r.map V.int).length : Nat) : Int) + 8 + (eights rs).sum
    rw [size_cons, List.length_map]
    omega
def sp_turn (T : Tx P K mg) : Sp := fun vs H Q _ => ∃ (L j to_ : Addr) (long : Bool) (cuts : Nat), vs = [.ref L, .ref j, .ref to_, .bl long, .int ((cuts : Nat) : Int)] ∧ ∃ (A d c o e r : Addr) (cells octs : List Int) (evs : List Ev) (rs : List (List Int)), Wd T H L A j d c o e r cells octs evs rs ∧
  RecT H to_ rs ∧ evs.length < 5000000 ∧ cuts ≤ 10 ∧
  ∀ (H' : Hp) (t r' : Addr) (E' : List Ev) (rs' : List (List Int)), Kp [L, A, j, o, e, r] H H' → Wd T H' L A j d c o e r' cells (appl octs E') (evs ++ E') rs' → RecT H' t rs' → Safe octs E' rs rs' → E'.length ≤ 20010 → pend E' = [] → (r' = r ∨ H r' = none) → Q (.ref t) H'
--N 5
theorem ok_turn (T : Tx P K mg) : FnG P w K mg base (L2.CX P w) 8 T.f_turn T.d_turn ["_law_heap_here", "_law_journal", "_law_old", "_law_long", "_law_cuts"] (sp_turn T) := by
  refine T.F_turn.okG (k := 7) sc_turn (fun vs H Q E h => by obtain ⟨_, _, _, _, _, rfl, _⟩ := h; rfl) (fun cdv A outer s H vs Q E hr hgd h => ?_)
  refine ⟨_, PSs.nox (pss_cons (ps_par (i := 5) (j := 6) rfl sc_turn.nd rfl rfl (by decide) rfl rfl (pa_cons (pe_fld (pv 1) rfl) (pa_cons (pe_call (ok_pick T) (hr.mono (by decide)) rfl T.g_pick T.F_pick.kp T.b_pick .nil passL (pa_cons (pv 0) (pa_cons (pe_lst (pa_cons pe_str (pa_cons pe_str (pa_cons pe_str (pa_cons pe_str (pa_cons pe_str (pa_cons pe_str pa_nil))))))) pa_nil))) pa_nil)) (by rfl))
 (pss_cons (ps_par (i := 7) (j := 8) rfl sc_turn.nd rfl rfl (by decide) rfl rfl (pa_cons (pe_call (ok_record T) (hr.mono (by decide)) rfl T.g_record T.F_record.kp T.b_record .nil passL (pa_cons (pv 0) (pa_cons (pv 3) pa_nil))) (pa_cons (pe_callB call_len_seq rfl T.n_len (by decide +kernel) (pa_cons (pe_meth0 (pe_fld (pv 1) rfl) T.clD T.m_Disk_events (ok_Disk_events T) (hr.mono (by decide)) T.b_Disk_events .nil passL) pa_nil)) pa_nil)) (by rfl))
 (pss_cons (ps_set (i := 9) sc_turn.nd rfl (Or.inl rfl) (pe_ifExp (pt_cmpR op_eq (pv 6) pe_str (nomark _)) (pe_op op_catA (pv 2) (pe_tup (pa_cons (pv 7) pa_nil))) (pe_slice sl_tupA (pv 2) po_none (po_some (pe_un un_neg pe_int)))))
 (pss_cons (ps_if (pt_cmpR op_eq (pv 6) pe_str (nomark _))
 (pss_cons (ps_set (i := 9) sc_turn.nd rfl (Or.inl rfl) (pe_callTy call_tuple_of rfl T.n_tuple (by decide +kernel) (pa_cons (pe_lc (own := [("_law_at", 10)]) (g := gName 10) (tt := tYes) rfl sc_turn.nd (pi_range1 rfl T.n_range (pa_cons (pe_call (ok_draw T) (hr.mono (by decide)) rfl T.g_draw T.F_draw.kp T.b_draw .nil passL (pa_cons (pv 0) (pa_cons pe_int pa_nil))) pa_nil)) (blkOk_by (own := [("_law_at", 10)]) (N := ["_law_heap_here", "_law_journal", "_law_old", "_law_long", "_law_cuts", "_law_disk", "_law_word", "_law_part", "_law_begun", "_law_new", "_law_at", "_law_told", "_law_due", "_law_record_here"]) (sc := defScope s_turn) (by decide +kernel)) (fun _ _ _ _ _ => pg_name (i := 10) sc_turn.nd rfl (Or.inl rfl)) (fun _ _ _ _ _ => pts_nil) (fun _ _ _ _ _ => (pe_call (ok_record T) (hr.mono (by decide)) rfl T.g_record T.F_record.kp T.b_record .nil passL (pa_cons (pv 0) (pa_cons (pv 3) pa_nil))))) pa_nil)))
 (pss_one (ps_if (pt_cmpR op_eq (pe_call (ok_draw T) (hr.mono (by decide)) rfl T.g_draw T.F_draw.kp T.b_draw .nil passL (pa_cons (pv 0) (pa_cons pe_int pa_nil))) pe_int (nomark _))
 (pss_one (ps_set (i := 9) sc_turn.nd rfl (Or.inl rfl) (pe_op op_catA (pe_slice sl_tupA (pv 2) (po_some (pe_call (ok_draw T) (hr.mono (by decide)) rfl T.g_draw T.F_draw.kp T.b_draw .nil passL (pa_cons (pv 0) (pa_cons (pe_op op_add (pe_callB call_len_seq rfl T.n_len (by decide +kernel) (pa_cons (pv 2) pa_nil)) pe_int) pa_nil)))) po_none) (pe_slice sl_tupA (pv 9) po_none (po_some pe_int)))))
 pss_nil)))
 pss_nil)
 (pss_cons (ps_set (i := 11) sc_turn.nd rfl (Or.inl rfl) (pe_call (ok_call T) (hr.mono (by decide)) rfl T.g_call T.F_call.kp T.b_call .nil passL (pa_cons (pv 0) (pa_cons (pv 1) (pa_cons (pv 6) (pa_cons (pv 9) (pa_cons (pv 7) pa_nil)))))))
 (pss_cons (ps_if (pt_val (pe_callB call_isi rfl T.n_isinstance (by decide +kernel) (pa_cons (pv 11) (pa_cons (pe_bltn (v := .ty "str") rfl T.n_str (by decide +kernel) rfl) pa_nil))))
 (pss_cons (ps_set (i := 12) sc_turn.nd rfl (Or.inl rfl) (pe_ifExp (pt_cmpR op_eq (pv 6) pe_str (nomark _)) pe_str pe_str))
 (pss_cons (ps_if (PW.pt (pw_or (pt_cmpR op_ne (pv 11) (pv 12) (nomark _)) (pw_or1 (PW.pt (pw_and (pt_cmpR op_eq (pv 6) pe_str (nomark _)) (pw_and1 (pt_cmpR (op_neD hr.units) (pv 2) (pe_tup pa_nil) (nomark _))))))))
 (pss_one (ps_ret pe_non))
 pss_nil)
 (pss_cons (ps_if (PW.pt (pw_and (pt_cmpR op_ne (pv 6) pe_str (nomark _)) (pw_and1 (pt_cmpR op_le (pe_callB (cr_sum rfl) rfl T.n_sum (by decide +kernel) (pa_cons (pe_lc (own := [("_law_record_here", 13)]) (g := gName 13) (tt := tYes) rfl sc_turn.nd (pi_tup (pv 9)) (blkOk_by (own := [("_law_record_here", 13)]) (N := ["_law_heap_here", "_law_journal", "_law_old", "_law_long", "_law_cuts", "_law_disk", "_law_word", "_law_part", "_law_begun", "_law_new", "_law_at", "_law_told", "_law_due", "_law_record_here"]) (sc := defScope s_turn) (by decide +kernel)) (fun _ _ _ _ _ => pg_name (i := 13) sc_turn.nd rfl (Or.inl rfl)) (fun _ _ _ _ _ => pts_nil) (fun _ _ _ _ _ => (pe_op op_add (pe_callB (r := rLenS K) call_len_seq rfl T.n_len (by decide +kernel) (pa_cons (pv 13) pa_nil)) pe_int))) pa_nil)) (pe_op op_sub (pe_op op_fdiv (pe_callB call_len_seq rfl T.n_len (by decide +kernel) (pa_cons (pe_fld (pv 5) rfl) pa_nil)) pe_int) pe_int) (nomark _)))))
 (pss_one (ps_ret pe_non))
 pss_nil)
 (pss_one (ps_ret (pe_ifExp (PW.pt (pw_and (pt_cmpR op_eq (pe_callB call_len_seq rfl T.n_len (by decide +kernel) (pa_cons (pe_meth0 (pv 5) T.clD T.m_Disk_events (ok_Disk_events T) (hr.mono (by decide)) T.b_Disk_events .nil passL) pa_nil)) (pv 8) (nomark _)) (pw_and1 (pt_cmpR op_eq (pe_callB (call_repr hgd hr.units) rfl T.n_repr (by decide +kernel) (pa_cons (pe_meth0 (pv 1) T.clJ T.m_Journal_records (ok_Journal_records T) (hr.mono (by decide)) T.b_Journal_records .nil passL) pa_nil)) (pe_callB (call_repr hgd hr.units) rfl T.n_repr (by decide +kernel) (pa_cons (pv 2) pa_nil)) (nomark _))))) (pv 2) pe_non))))))
 pss_nil)
 (pss_cons (ps_if (PW.pt (pw_or (pt_cmpR (op_neD hr.units) (pv 11) (pe_lst (pa_cons pe_non pa_nil)) (nomark _)) (pw_or (pt_cmpR op_ne (pe_callB (call_repr hgd hr.units) rfl T.n_repr (by decide +kernel) (pa_cons (pe_meth0 (pv 1) T.clJ T.m_Journal_records (ok_Journal_records T) (hr.mono (by decide)) T.b_Journal_records .nil passL) pa_nil)) (pe_callB (call_repr hgd hr.units) rfl T.n_repr (by decide +kernel) (pa_cons (pv 9) pa_nil)) (nomark _)) (pw_or1 (PW.pt (pw_and (pt_cmpR op_eq (pv 6) pe_str (nomark _)) (pw_and1 (pt_cmpR (op_eqD hr.units) (pv 2) (pe_tup pa_nil) (nomark _)))))))))
 (pss_one (ps_ret pe_non))
 pss_nil)
 (pss_one (ps_ret (pe_ifExp (pt_val (pe_callG (ok_cuts_right T) (hr.mono (by decide)) hgd rfl T.g_cuts_right T.F_cuts_right.kp T.b_cuts_right .nil passL (pa_cons (pv 0) (pa_cons (pv 5) (pa_cons (pv 8) (pa_cons (pv 2) (pa_cons (pv 9) (pa_cons (pv 4) pa_nil)))))))) (pv 9) pe_non)))))))))), ?_⟩
  obtain ⟨L, j, to_, long, cuts, rfl, A, d, c, o, e, r, cells, octs, evs, rs, W, ro, hel, hcu, q⟩ := h
  obtain ⟨jx, hj⟩ := W.S.J.ins
  have okr := W.S.ok
  have szr := W.S.sz
  have nrs := nc_recs okr
  have n1 := W.S.n1
  have n2 := W.S.n2
  have ln := W.S.D.ln
  have sl := sideOf_lt octs
  refine ⟨_, rfl, j, _, jx, _, _, rfl, hj, T.clJ, T.nJdisk, lk_disk .., _, rfl, Nat.le_trans (show 6 ≤ 16000000 by decide) (by rw [sizeLine_eq]; decide), fun s ns => ?_⟩
  have k1 : Kp [] H (upd H s (.lst [.str "write", .str "write", .str "write", .str "drop", .str "renew", .str "drop"])) := Kp.new ns
  have es : upd H s (.lst [.str "write", .str "write", .str "write", .str "drop", .str "renew", .str "drop"]) s = some (.lst [.str "write", .str "write", .str "write", .str "drop", .str "renew", .str "drop"]) := upd_same
  generalize upd H s (.lst [.str "write", .str "write", .str "write", .str "drop", .str "renew", .str "drop"]) = H1 at k1 es ⊢
  have nns := W.hd.nn ns
  refine ⟨L, s, _, rfl, A, W.hd.kp0 k1, es, (show 1 ≤ 6 by decide), (show 6 < 1073741824 by decide), nns.1, nns.2, fun H2 wv k2 hd2 hwv => ?_⟩
  obtain ⟨word, rfl, hw⟩ : ∃ word : Str, wv = .str word ∧ (word = "write" ∨ word = "drop" ∨ word = "renew") := by
    simp only [List.mem_cons, List.not_mem_nil, or_false] at hwv
    rcases hwv with rfl | rfl | rfl | rfl | rfl | rfl
    · exact ⟨_, rfl, .inl rfl⟩
    · exact ⟨_, rfl, .inl rfl⟩
    · exact ⟨_, rfl, .inl rfl⟩
    · exact ⟨_, rfl, .inr (.inl rfl)⟩
    · exact ⟨_, rfl, .inr (.inr rfl)⟩
    · exact ⟨_, rfl, .inr (.inl rfl)⟩
  have k02 : Kp [L, A] H H2 := (kLA k1).trans k2
  have W2 := W.draw k02 hd2
  refine ⟨_, _, rfl, ?_⟩
  refine ⟨_, rfl, _, rfl, L, long, rfl, A, hd2, fun H3 tp x k3 hd3 hp hx hxl => ?_⟩
  have k03 := k02.trans k3
  have W3 := W.draw k03 hd3
  obtain ⟨jx3, hj3⟩ := W3.S.J.ins
  obtain ⟨dx3, hd3'⟩ := W3.S.D.ins
  refine ⟨_, rfl, j, _, jx3, _, _, rfl, hj3, T.clJ, T.nJdisk, lk_disk .., d, dx3, _, rfl, hd3', lk_dev .., d, c, o, e, cells, octs, evs, rfl, W3.S.D, fun H4 te k4 ete => ?_⟩
  obtain ⟨exs, ex, exv⟩ := ete
  refine ⟨te, exs, rfl, .inr (SqT.of ex), _, _, rfl, ?_⟩
  rw [plen exv]
  have k04 := k03.trans (kLA (L := L) (A := A) k4)
  have W4 := W.draw k04 (hd3.kp0 k4)
  have hp4 := k4.t _ _ hp
  have ro4 := ro.kp k04
  obtain ⟨oxs, eo4, ov4⟩ := ro4
  have lo := plen ov4
  have rsl : rs.length ≤ 20000 := Nat.le_trans (size_ge rs) szr
  refine ⟨_, rfl, rfl, _, rfl, ?_⟩
  have orec : ∀ y ∈ rs, y.length < 65536 := fun y hy => by
    have h1 : 3 + y.length ≤ size rs := by
      obtain ⟨l1, l2, e1⟩ := List.append_of_mem hy
      rw [e1, size_append, size_cons]; omega
    omega
  refine ifb (fun hb => ?_) (fun hb => ?_)
  · have hwd := str_eq hb
    refine ⟨_, rfl, _, rfl, Nat.le_trans (show 1 ≤ 2 by decide) two_size, fun u nu => ?_⟩
    have k4b : Kp [] H4 (upd H4 u (.tup [.ref tp])) := Kp.new nu
    have eu : upd H4 u (.tup [.ref tp]) u = some (.tup [.ref tp]) := upd_same
    generalize upd H4 u (.tup [.ref tp]) = H4b at k4b eu ⊢
    refine cat_use (k4b.t _ _ eo4) eu (by rw [lo, sizeLine_eq]; show _ + 1 ≤ _; omega) fun tn H5 k5 etn => ?_
    have k45 := k4b.trans k5
    have W5 := W4.kp0 k45
    have k05 := k04.trans (kLA (L := L) (A := A) k45)
    have hp5 := k45.t _ _ hp4
    have ro5 : RecT H5 to_ rs := ⟨oxs, k45.t _ _ eo4, recs_kp k45 ov4⟩
    obtain ⟨nw, enw⟩ : ∃ nw, nw = rs ++ [x] := ⟨_, rfl⟩
    have hn : RecT H5 tn nw := by rw [enw]; exact recs_snocT (recs_kp k45 ov4) hp5 etn
    have hWn : word = "write" → nw = rs ++ [x] := fun _ => enw
    have hDn : word = "drop" → nw = rs.dropLast := fun z => by rw [hwd] at z; exact absurd z (by decide)
    have okn : RsOk nw := by
      rw [enw]
      refine ⟨fun y hy => ?_, by rw [size_snoc]; omega⟩
      rcases List.mem_append.mp hy with z | z
      · exact okr.1 y z
      · rw [List.mem_singleton.mp z]; exact hx
    have hln : ∀ y ∈ nw, y.length < 65536 := fun y hy => by
      rw [enw] at hy
      rcases List.mem_append.mp hy with z | z
      · exact orec y z
      · rw [List.mem_singleton.mp z]; omega
    clear enw
    refine ⟨_, rfl, rfl, _, rfl, ifb (fun hb2 => ?_) (fun _ => ?_)⟩
    · have z := str_eq hb2
      rw [hwd] at z
      exact absurd z (by decide)
    ·
      simp only [L2.start, List.map_cons, List.map_nil, List.length_cons, List.length_nil, List.replicate, List.cons_append, List.nil_append, List.set_cons_succ, List.set_cons_zero]
      refine ⟨_, rfl, _, rfl, _, rfl, _, rfl, _, rfl, ?_⟩
      have szw : size nw ≤ 100000 := okn.2
      refine ⟨L, j, word, tn, tp, rfl, A, d, c, o, e, r, cells, octs, evs, rs, nw, x, W5, hw, hn, fun y hy => ⟨okn.1 y hy, hln y hy⟩, by have := size_ge nw; omega, hp5, hx, hxl, by omega, fun H6 v E' r' rs' nx nr' k6 W6 sf el pe ev => ?_, fun H6 w rf k6 W6 => ?_⟩
      · have er : rs' = nw := by
          rcases nx with ⟨h1, h2⟩ | ⟨h1, h2⟩ | ⟨h1, y, h2⟩
          · rw [h2, hWn h1]
          · exact h2
          · rw [hDn h1, h2, List.dropLast_concat]
        subst er
        refine ⟨_, rfl, _, .ty "str", _, _, _, rfl, .ty _, .base (.lst ev), kit_ty (r := false) (by decide +kernel), _, rfl, iteF ?_⟩
        refine ⟨_, rfl, Nat.le_trans (show 1 ≤ 2 by decide) two_size, fun l nl => ?_⟩
        have k7 : Kp [] H6 (upd H6 l (.lst [.non])) := Kp.new nl
        have el7 : upd H6 l (.lst [.non]) l = some (.lst [.non]) := upd_same
        generalize upd H6 l (.lst [.non]) = H7 at k7 el7 ⊢
        have nN := Nc.lst (ds := [.none]) (p := 0) (f := fun _ => 4) fun d hd => by rw [List.mem_singleton.mp hd]; exact Nc.non
        refine neD_use nN nN (.lst (SqL.of (k7.k _ _ ev (by simp))) (.cons .non .nil)) (.lst (SqL.of el7) (.cons .non .nil)) (by decide) (by decide) ⟨_, rfl, ?_⟩
        rw [eqv_self nN]
        refine iteF ?_
        have W7 := W6.kp0 k7
        obtain ⟨jx7, hj7⟩ := W7.S.J.ins
        have hn7 := hn.kp (k6.then0 k7)
        have nw_ := nc_recs okn
        have ro7 := ro5.kp (k6.then0 k7)
        refine ⟨_, rfl, j, jx7, _, rfl, hj7, lk_jrecords .., j, d, r', _, rs', _, rfl, W7.S.J, fun H8 t8 k8 rt8 => ?_⟩
        have W8 := W7.kp0 k8
        refine ⟨t8, _, rfl, dp_recs rt8, nw_.shw, nw_.r2, nw_.r3 (by decide), nw_.r4 (by decide), _, rfl, tn, _, rfl, dp_recs (hn7.kp k8), nw_.shw, nw_.r2, nw_.r3 (by decide), nw_.r4 (by decide), rfl, _, rfl, ?_⟩
        have fin : ∀ H9, Kp [] H8 H9 → tRet (tIf (tB (tCall (sp_cuts_right T) [] E0 (tCons (tVar 0) (tCons (tVar 5) (tCons (tVar 8) (tCons (tVar 2) (tCons (tVar 9) (tCons (tVar 4) tNil)))))))) (tVar 9) (tC .non)) { nx := fun _ H' => Q .non H', rt := Q }
            [some (.ref L), some (.ref j), some (.ref to_), some (.bl long), some (.int ((cuts : Nat) : Int)), some (.ref d), some (.str word), some (.ref tp), some (.int ((evs.length : Nat) : Int)), some (.ref tn), none, some (.ref v), none, none] H9 := fun H9 k9 => by
          have W9 := W8.kp0 k9
          refine ⟨_, rfl, _, rfl, _, rfl, _, rfl, _, rfl, _, rfl, ?_⟩
          refine ⟨L, d, to_, tn, evs.length, cuts, rfl, A, c, o, e, cells, appl octs E', evs, E', rs, rs', W9.hd, W9.S.D, rfl, W.S.st, W9.S.ev, W.co, n1, n2, (ro7.kp k8).kp k9, (hn7.kp k8).kp k9, okr, okn, by rw [← W.ap]; exact sf, by rw [List.length_append]; omega, hcu, fun Ha ka hda => ⟨_, rfl, iteT ?_⟩⟩
          exact ⟨_, rfl, q Ha tn r' E' rs' ((((kmon k05 fun b hb => inS6a hb).trans k6).then0 ((k7.trans k8).trans k9)).trans (kmon ka fun b hb => inS6a hb)) (W9.draw ka hda) (((hn7.kp k8).kp k9).kp ka) sf el pe (nr'.imp id fun z => W5.hd.fresh k05 z)⟩
        refine ifb (fun hb => absurd hb (by simp)) fun _ => ?_
        refine ⟨_, rfl, rfl, _, rfl, ?_⟩
        refine ifb (fun hb => ?_) fun _ => iteF (fin H8 .refl)
        have hwd := str_eq hb
        have rne : rs ≠ [] := by
          rcases nx with ⟨h1, _⟩ | ⟨h1, _⟩ | ⟨_, y, h2⟩
          · rw [hwd] at h1; exact absurd h1 (by decide)
          · rw [hwd] at h1; exact absurd h1 (by decide)
          · rw [h2]; simp
        refine ⟨_, rfl, Nat.zero_le _, fun u nu => ?_⟩
        have k9 : Kp [] H8 (upd H8 u (.tup [])) := Kp.new nu
        have eu : upd H8 u (.tup []) u = some (.tup []) := upd_same
        generalize upd H8 u (.tup []) = H9 at k9 eu ⊢
        have r0 : RsOk [] := ⟨fun r hr => absurd hr (by simp), Nat.zero_le _⟩
        refine eqD_use nrs (nc_recs r0) (dp_recs ((ro7.kp k8).kp k9)) (.tup (SqT.of eu) .nil) (by decide) (by decide) ⟨_, rfl, ?_⟩
        rw [eqv_recs_iff okr, decide_eq_false rne]
        exact iteF (fin H9 k9)
      · refine ⟨_, rfl, _, .ty "str", _, _, _, rfl, .ty _, .base (.str _), kit_ty (r := true) (by decide +kernel), _, rfl, iteT ?_⟩
        obtain ⟨dx6, hd6⟩ := W6.S.D.ins
        obtain ⟨jx6, hj6⟩ := W6.S.J.ins
        have ro6 := ro5.kp k6
        have fin : ∀ (H7 : Hp) (due : V) (a13 : Option V), Kp [] H6 H7 → tRet (tIf (tAnd (tTest (tOp rEq (tCB (rLenS K) (tCons (tMeth T.CD "events" (sp_Disk_events T) [] E0 (tVar 5) tNil) tNil)) (tVar 8))) (tTest (tOp rEq (tCB (rRepr K) (tCons (tMeth T.CJ "records" (sp_Journal_records T) [] E0 (tVar 1) tNil) tNil)) (tCB (rRepr K) (tCons (tVar 2) tNil))))) (tVar 2) (tC .non)) { nx := fun _ H' => Q .non H', rt := Q }
            [some (.ref L), some (.ref j), some (.ref to_), some (.bl long), some (.int ((cuts : Nat) : Int)), some (.ref d), some (.str word), some (.ref tp), some (.int ((evs.length : Nat) : Int)), some (.ref tn), none, some (.str w), some due, a13] H7 := fun H7 due a13 k7 => by
          have W7 := W6.kp0 k7
          obtain ⟨dx7, hd7⟩ := W7.S.D.ins
          refine ⟨_, rfl, d, dx7, _, rfl, hd7, lk_dev .., d, c, o, e, cells, octs, evs, rfl, W7.S.D, fun H8 u k8 eu => ?_⟩
          obtain ⟨ys, ey, yv⟩ := eu
          have W8 := W7.kp0 k8
          obtain ⟨jx8, hj8⟩ := W8.S.J.ins
          refine ⟨u, ys, rfl, .inr (SqT.of ey), _, rfl, rfl, _, rfl, ?_⟩
          rw [plen yv]
          refine ifb (fun _ => ?_) (fun hb => absurd hb (by simp))
          refine ⟨_, rfl, j, jx8, _, rfl, hj8, lk_jrecords .., j, d, r, _, rs, _, rfl, W8.S.J, fun H9 t9 k9 rt9 => ?_⟩
          have ro9 := ((ro6.kp k7).kp k8).kp k9
          refine ⟨t9, _, rfl, dp_recs rt9, nrs.shw, nrs.r2, nrs.r3 (by decide), nrs.r4 (by decide), _, rfl, to_, _, rfl, dp_recs ro9, nrs.shw, nrs.r2, nrs.r3 (by decide), nrs.r4 (by decide), rfl, _, rfl, ?_⟩
          refine ifb (fun _ => ?_) (fun hb => absurd hb (by simp))
          have W9 := W8.kp0 k9
          refine ⟨_, rfl, q H9 to_ r [] rs ((((kmon k05 fun b hb => inS6a hb).trans (kmon k6 fun b hb => inS6a hb)).then0 ((k7.trans k8).trans k9))) ?_ ro9 (safe_nil W.S.jp) (by simp) rfl (.inl rfl)⟩
          simpa [appl] using W9
        rcases rf with ⟨rfl, rfl, room⟩ | ⟨rfl, rfl, room⟩ | ⟨rfl, rfl, er⟩
        · have hbig : cells.length / 2 < size nw + 8 := by
            unfold roomJ at room
            rw [hWn rfl, size_snoc]
            have := hs_succ octs.length (sideOf octs)
            omega
          refine ⟨_, rfl, rfl, _, rfl, iteF ?_⟩
          refine ⟨_, rfl, _, rfl, rfl, _, rfl, iteF ?_⟩
          refine ⟨_, rfl, rfl, _, rfl, iteF (iteF ?_)⟩
          refine ⟨_, rfl, rfl, _, rfl, iteT ?_⟩
          obtain ⟨nxs, en6, nv6⟩ := hn.kp k6
          have lnx := plen nv6
          refine ⟨_, rfl, tn, rfl, ⟨_, SqT.of en6⟩, fun D nD => lc_tup (K := K) (a := tn) (xs := nxs) (fun i H' => Kp [] H6 H' ∧ H' D = some (.lst ((eights (nw.take i)).map V.int))) ⟨Kp.new nD, upd_same⟩ (fun i H' _ z => SqT.of (z.1.t _ _ en6)) (fun i x H' hx z => ?_) fun H7 z => ?_⟩
          · obtain ⟨y, hy, a, rfl, ea⟩ := pget nv6 hx
            have hi : i < nw.length := (List.getElem?_eq_some_iff.mp hy).1
            have sg := size_ge nw
            refine ⟨rfl, _, rfl, a, _, rfl, .inr (SqT.of (z.1.t _ _ ea)), _, _, rfl, rfl, _, z.2, ?_, ?_⟩
            · rw [List.length_map, eights, List.length_map, List.length_take]; exact small16 (by omega)
            · refine ⟨z.1.then (Kp.set (S := [D]) z.2 (by simp) (by intro _ q; cases q)) (fun y hy => .inr (by rw [List.mem_singleton.mp hy]; exact nD)), ?_⟩
              rw [upd_same, take_snoc hy]
              unfold eights
              rw [List.map_append, List.map_append]
              rfl
          · obtain ⟨k7, eD⟩ := z
            rw [lnx, List.take_of_length_le (Nat.le_refl _)] at eD
            have W7 := W6.kp0 k7
            obtain ⟨dx7, hd7⟩ := W7.S.D.ins
            refine ⟨D, eights nw, rfl, SqL.of eD, _, rfl, d, _, dx7, _, _, rfl, hd7, T.clD, T.nDcells, lk_cells .., c, _, rfl, .inr (SqT.of W7.S.D.cel), _, _, rfl, rfl, ⟨by decide, by decide⟩, _, _, rfl, rfl, _, _, rfl, rfl, _, rfl, ?_⟩
            have big : ¬ (eights nw).sum ≤ (((cells.map V.int).length : Nat) : Int) / 2 - 8 := by
              have h1 := eights_sum nw
              rw [List.length_map]
              omega
            show if decide ((eights nw).sum ≤ (((cells.map V.int).length : Nat) : Int) / 2 - 8) = true then _ else _
            rw [decide_eq_false big]
            exact iteF (fin H7 _ _ k7)
        · have hbig : cells.length / 2 < size nw + 8 := by
            unfold roomR at room
            have := hs_succ octs.length (1 - sideOf octs)
            omega
          refine ⟨_, rfl, rfl, _, rfl, iteF ?_⟩
          refine ⟨_, rfl, _, rfl, rfl, _, rfl, iteF ?_⟩
          refine ⟨_, rfl, rfl, _, rfl, iteF (iteF ?_)⟩
          refine ⟨_, rfl, rfl, _, rfl, iteT ?_⟩
          obtain ⟨nxs, en6, nv6⟩ := hn.kp k6
          have lnx := plen nv6
          refine ⟨_, rfl, tn, rfl, ⟨_, SqT.of en6⟩, fun D nD => lc_tup (K := K) (a := tn) (xs := nxs) (fun i H' => Kp [] H6 H' ∧ H' D = some (.lst ((eights (nw.take i)).map V.int))) ⟨Kp.new nD, upd_same⟩ (fun i H' _ z => SqT.of (z.1.t _ _ en6)) (fun i x H' hx z => ?_) fun H7 z => ?_⟩
          · obtain ⟨y, hy, a, rfl, ea⟩ := pget nv6 hx
            have hi : i < nw.length := (List.getElem?_eq_some_iff.mp hy).1
            have sg := size_ge nw
            refine ⟨rfl, _, rfl, a, _, rfl, .inr (SqT.of (z.1.t _ _ ea)), _, _, rfl, rfl, _, z.2, ?_, ?_⟩
            · rw [List.length_map, eights, List.length_map, List.length_take]; exact small16 (by omega)
            · refine ⟨z.1.then (Kp.set (S := [D]) z.2 (by simp) (by intro _ q; cases q)) (fun y hy => .inr (by rw [List.mem_singleton.mp hy]; exact nD)), ?_⟩
              rw [upd_same, take_snoc hy]
              unfold eights
              rw [List.map_append, List.map_append]
              rfl
          · obtain ⟨k7, eD⟩ := z
            rw [lnx, List.take_of_length_le (Nat.le_refl _)] at eD
            have W7 := W6.kp0 k7
            obtain ⟨dx7, hd7⟩ := W7.S.D.ins
            refine ⟨D, eights nw, rfl, SqL.of eD, _, rfl, d, _, dx7, _, _, rfl, hd7, T.clD, T.nDcells, lk_cells .., c, _, rfl, .inr (SqT.of W7.S.D.cel), _, _, rfl, rfl, ⟨by decide, by decide⟩, _, _, rfl, rfl, _, _, rfl, rfl, _, rfl, ?_⟩
            have big : ¬ (eights nw).sum ≤ (((cells.map V.int).length : Nat) : Int) / 2 - 8 := by
              have h1 := eights_sum nw
              rw [List.length_map]
              omega
            show if decide ((eights nw).sum ≤ (((cells.map V.int).length : Nat) : Int) / 2 - 8) = true then _ else _
            rw [decide_eq_false big]
            exact iteF (fin H7 _ _ k7)
        · refine ⟨_, rfl, rfl, _, rfl, iteT ?_⟩
          refine ⟨_, rfl, _, rfl, rfl, _, rfl, iteF ?_⟩
          refine ⟨_, rfl, rfl, _, rfl, iteT ?_⟩
          refine ⟨_, rfl, Nat.zero_le _, fun u nu => ?_⟩
          have k7 : Kp [] H6 (upd H6 u (.tup [])) := Kp.new nu
          have eu : upd H6 u (.tup []) u = some (.tup []) := upd_same
          generalize upd H6 u (.tup []) = H7 at k7 eu ⊢
          refine neD_use nrs nrs (dp_recs (ro6.kp k7)) (by rw [er]; exact .tup (SqT.of eu) .nil) (by decide) (by decide) ⟨_, rfl, ?_⟩
          rw [eqv_self nrs]
          refine iteF ⟨_, rfl, rfl, _, rfl, iteF (iteF ?_)⟩
          exact fin H7 _ _ k7
  · have hwd := str_ne hb
    refine ⟨_, rfl, _, rfl, _, rfl, sl_use eo4 fun tn H5 k45 etn => ?_⟩
    have ecut : cutV oxs none (some (-1)) = oxs.dropLast := by
      rcases snoc_or oxs with z | ⟨ys, y, z⟩
      · rw [z]; exact cutV_but0
      · rw [z, List.dropLast_concat]; exact cutV_but ys y
    have etn' : H5 tn = some (.tup oxs.dropLast) := by rw [← ecut]; exact etn
    have W5 := W4.kp0 k45
    have k05 := k04.trans (kLA (L := L) (A := A) k45)
    have hp5 := k45.t _ _ hp4
    have ro5 : RecT H5 to_ rs := ⟨oxs, k45.t _ _ eo4, recs_kp k45 ov4⟩
    refine ⟨_, rfl, rfl, _, rfl, ifb (fun hb2 => ?_) (fun hb2 => ?_)⟩
    · have hren := str_eq hb2
      refine ⟨_, rfl, L, 4, rfl, A, W5.hd, by decide, by decide, fun H6 n k6 hd6 hn4 => ?_⟩
      refine ⟨_, rfl, by omega, by omega, fun D nD => ?_⟩
      rw [Int.toNat_natCast]
      have nd := hd6.nn nD
      refine lc_range (lo := 0) (n := n) (fun i H' => Kp [L, A] H6 H' ∧ Hd H' L A ∧ ∃ (ys : List V) (ss : List (List Int)), H' D = some (.lst ys) ∧ RecsV H' ys ss ∧ ss.length = i ∧ ∀ y ∈ ss, (∀ z ∈ y, Oct z) ∧ y.length ≤ 300) ⟨Kp.new nD, hd6.kp (Kp.new nD (S := [])) (by simp) (by simp), [], [], upd_same, .nil, rfl, fun y hy => absurd hy (by simp)⟩ (fun i H' hi z => ?_) fun H7 z => ?_
      · obtain ⟨kz, hz, ys, ss, eD, yv, lr, ho⟩ := z
        refine ⟨rfl, _, rfl, _, rfl, L, long, rfl, A, hz, fun H8 t y k8 hd8 et oy ly => ?_⟩
        have eD8 := k8.k _ _ eD (by simp [nd])
        refine ⟨_, eD8, by rw [plen yv]; exact small16 (by omega), ?_⟩
        have k9 : Kp [D] H8 (upd H8 D (.lst (ys ++ [.ref t]))) := Kp.set eD8 (by simp) (by intro _ q; cases q)
        refine ⟨(kz.trans k8).then k9 (fun z hz => .inr (by rw [List.mem_singleton.mp hz]; exact nD)), hd8.kp k9 (by simp [nd.1.symm]) (by simp [nd.2.symm]), ys ++ [.ref t], ss ++ [y], upd_same, papp (recs_kp k9 (recs_kp k8 yv)) (.cons ⟨t, rfl, k9.t _ _ et⟩ .nil), by rw [List.length_append, List.length_singleton]; omega, fun z hz => ?_⟩
        rcases List.mem_append.mp hz with h1 | h1
        · exact ho z h1
        · rw [List.mem_singleton.mp h1]; exact ⟨oy, ly⟩
      · obtain ⟨kz, hd7, ys, nw, eD, yv, lr, ho⟩ := z
        refine ⟨D, _, rfl, .inl ⟨SqL.of eD, fun tn ntn => ?_⟩⟩
        have k8 : Kp [] H7 (upd H7 tn (.tup ys)) := Kp.new ntn
        have et : upd H7 tn (.tup ys) tn = some (.tup ys) := upd_same
        generalize upd H7 tn (.tup ys) = H8 at k8 et ⊢
        have k58 := (k6.trans kz).trans (kLA (L := L) (A := A) k8)
        have hd8 := hd7.kp0 k8
        have yv8 := recs_kp k8 yv
        have ssz : size nw ≤ 303 * nw.length := by
          clear lr yv yv8
          induction nw with
          | nil => simp [size]
          | cons y ss ih =>
            have h1 := (ho y List.mem_cons_self).2
            have h2 := ih fun z hz => ho z (List.mem_cons_of_mem _ hz)
            rw [size_cons, List.length_cons]; omega
        refine ⟨_, rfl, L, 3, rfl, A, hd8, by decide, by decide, fun H9 m k9 hd9 hm => ⟨rfl, _, rfl, ?_⟩⟩
        have k59 := k58.trans k9
        have eo9 := k59.t _ _ (k45.t _ _ eo4)
        have ov9 := recs_kp k59 (recs_kp k45 ov4)
        have hp9 := k59.t _ _ hp5
        have et9 := k9.t _ _ et
        have yv9 := recs_kp k9 yv8
        refine ifb (fun _ => ?_) (fun _ => ?_)
        · have eol : (((oxs.length : Nat) : Int) + 1) = ((oxs.length + 1 : Nat) : Int) := by omega
          refine ⟨_, rfl, _, rfl, _, rfl, to_, oxs, rfl, .inr (SqT.of eo9), _, _, rfl, rfl, L, oxs.length + 1, by rw [← eol]; rfl, A, hd9, by omega, by omega, fun Ha g ka hda hg => ?_⟩
          refine ⟨_, rfl, ?_⟩
          simp only [tNoPart]
          refine sl_use (ka.t _ _ eo9) fun p1 Hb kb ep1 => ?_
          rw [cutV_fr _ _ (by omega)] at ep1
          refine ⟨_, rfl, _, rfl, sl_use (kb.t _ _ (ka.t _ _ et9)) fun p2 Hc kc ep2 => ?_⟩
          have ep2' : Hc p2 = some (.tup (ys.take 1)) := by rw [← cutV_to]; exact ep2
          have l1 : (oxs.drop g).length ≤ 20000 := by rw [List.length_drop]; omega
          have l2 : (ys.take 1).length ≤ 1 := by rw [List.length_take]; omega
          refine cat_use (kc.t _ _ ep1) ep2' (by rw [sizeLine_eq]; omega) fun tn H5 kd etn2 => ?_
          have k5d := (k59.trans ka).trans (kLA (L := L) (A := A) ((kb.trans kc).trans kd))
          have k05 := k05.trans k5d
          have kad := ka.then0 ((kb.trans kc).trans kd)
          have mem : ∀ y ∈ rs.drop g ++ nw.take 1, y ∈ rs ∨ y ∈ nw := fun y hy => by
            rcases List.mem_append.mp hy with z | z
            · exact .inl (List.mem_of_mem_drop z)
            · exact .inr (List.mem_of_mem_take z)
          have okn : RsOk (rs.drop g ++ nw.take 1) := by
            refine ⟨fun y hy => ?_, ?_⟩
            · rcases mem y hy with z | z
              · exact okr.1 y z
              · exact (ho y z).1
            · have e1 := size_append (rs.take g) (rs.drop g)
              rw [List.take_append_drop] at e1
              have e2 := size_append (nw.take 1) (nw.drop 1)
              rw [List.take_append_drop] at e2
              rw [size_append]
              omega
          have hln : ∀ y ∈ rs.drop g ++ nw.take 1, y.length < 65536 := fun y hy => by
            rcases mem y hy with z | z
            · exact orec y z
            · have := (ho y z).2; omega
          have hn : RecT H5 tn (rs.drop g ++ nw.take 1) := ⟨_, etn2, papp (pdrop g (recs_kp kad ov9)) (ptake 1 (recs_kp kad yv9))⟩
          have W5 := W.draw k05 (hda.kp0 ((kb.trans kc).trans kd))
          have hp5 := kad.t _ _ hp9
          have ro5 : RecT H5 to_ rs := ⟨oxs, kad.t _ _ eo9, recs_kp kad ov9⟩
          have hWn : word = "write" → rs.drop g ++ nw.take 1 = rs ++ [x] := fun z => absurd z hwd
          have hDn : word = "drop" → rs.drop g ++ nw.take 1 = rs.dropLast := fun z => by rw [hren] at z; exact absurd z (by decide)
          clear mem
          generalize rs.drop g ++ nw.take 1 = nw at okn hln hn hWn hDn
          simp only [L2.start, List.map_cons, List.map_nil, List.length_cons, List.length_nil, List.replicate, List.cons_append, List.nil_append, List.set_cons_succ, List.set_cons_zero]
          refine ⟨_, rfl, _, rfl, _, rfl, _, rfl, _, rfl, ?_⟩
          have szw : size nw ≤ 100000 := okn.2
          refine ⟨L, j, word, tn, tp, rfl, A, d, c, o, e, r, cells, octs, evs, rs, nw, x, W5, hw, hn, fun y hy => ⟨okn.1 y hy, hln y hy⟩, by have := size_ge nw; omega, hp5, hx, hxl, by omega, fun H6 v E' r' rs' nx nr' k6 W6 sf el pe ev => ?_, fun H6 w rf k6 W6 => ?_⟩
          · have er : rs' = nw := by
              rcases nx with ⟨h1, h2⟩ | ⟨h1, h2⟩ | ⟨h1, y, h2⟩
              · rw [h2, hWn h1]
              · exact h2
              · rw [hDn h1, h2, List.dropLast_concat]
            subst er
            refine ⟨_, rfl, _, .ty "str", _, _, _, rfl, .ty _, .base (.lst ev), kit_ty (r := false) (by decide +kernel), _, rfl, iteF ?_⟩
            refine ⟨_, rfl, Nat.le_trans (show 1 ≤ 2 by decide) two_size, fun l nl => ?_⟩
            have k7 : Kp [] H6 (upd H6 l (.lst [.non])) := Kp.new nl
            have el7 : upd H6 l (.lst [.non]) l = some (.lst [.non]) := upd_same
            generalize upd H6 l (.lst [.non]) = H7 at k7 el7 ⊢
            have nN := Nc.lst (ds := [.none]) (p := 0) (f := fun _ => 4) fun d hd => by rw [List.mem_singleton.mp hd]; exact Nc.non
            refine neD_use nN nN (.lst (SqL.of (k7.k _ _ ev (by simp))) (.cons .non .nil)) (.lst (SqL.of el7) (.cons .non .nil)) (by decide) (by decide) ⟨_, rfl, ?_⟩
            rw [eqv_self nN]
            refine iteF ?_
            have W7 := W6.kp0 k7
            obtain ⟨jx7, hj7⟩ := W7.S.J.ins
            have hn7 := hn.kp (k6.then0 k7)
            have nw_ := nc_recs okn
            have ro7 := ro5.kp (k6.then0 k7)
            refine ⟨_, rfl, j, jx7, _, rfl, hj7, lk_jrecords .., j, d, r', _, rs', _, rfl, W7.S.J, fun H8 t8 k8 rt8 => ?_⟩
            have W8 := W7.kp0 k8
            refine ⟨t8, _, rfl, dp_recs rt8, nw_.shw, nw_.r2, nw_.r3 (by decide), nw_.r4 (by decide), _, rfl, tn, _, rfl, dp_recs (hn7.kp k8), nw_.shw, nw_.r2, nw_.r3 (by decide), nw_.r4 (by decide), rfl, _, rfl, ?_⟩
            have fin : ∀ H9, Kp [] H8 H9 → tRet (tIf (tB (tCall (sp_cuts_right T) [] E0 (tCons (tVar 0) (tCons (tVar 5) (tCons (tVar 8) (tCons (tVar 2) (tCons (tVar 9) (tCons (tVar 4) tNil)))))))) (tVar 9) (tC .non)) { nx := fun _ H' => Q .non H', rt := Q }
                [some (.ref L), some (.ref j), some (.ref to_), some (.bl long), some (.int ((cuts : Nat) : Int)), some (.ref d), some (.str word), some (.ref tp), some (.int ((evs.length : Nat) : Int)), some (.ref tn), none, some (.ref v), none, none] H9 := fun H9 k9 => by
              have W9 := W8.kp0 k9
              refine ⟨_, rfl, _, rfl, _, rfl, _, rfl, _, rfl, _, rfl, ?_⟩
              refine ⟨L, d, to_, tn, evs.length, cuts, rfl, A, c, o, e, cells, appl octs E', evs, E', rs, rs', W9.hd, W9.S.D, rfl, W.S.st, W9.S.ev, W.co, n1, n2, (ro7.kp k8).kp k9, (hn7.kp k8).kp k9, okr, okn, by rw [← W.ap]; exact sf, by rw [List.length_append]; omega, hcu, fun Ha ka hda => ⟨_, rfl, iteT ?_⟩⟩
              exact ⟨_, rfl, q Ha tn r' E' rs' ((((kmon k05 fun b hb => inS6a hb).trans k6).then0 ((k7.trans k8).trans k9)).trans (kmon ka fun b hb => inS6a hb)) (W9.draw ka hda) (((hn7.kp k8).kp k9).kp ka) sf el pe (nr'.imp id fun z => W5.hd.fresh k05 z)⟩
            refine ifb (fun hb => absurd hb (by simp)) fun _ => ?_
            refine ⟨_, rfl, rfl, _, rfl, ?_⟩
            refine ifb (fun hb => ?_) fun _ => iteF (fin H8 .refl)
            have hwd := str_eq hb
            have rne : rs ≠ [] := by
              rcases nx with ⟨h1, _⟩ | ⟨h1, _⟩ | ⟨_, y, h2⟩
              · rw [hwd] at h1; exact absurd h1 (by decide)
              · rw [hwd] at h1; exact absurd h1 (by decide)
              · rw [h2]; simp
            refine ⟨_, rfl, Nat.zero_le _, fun u nu => ?_⟩
            have k9 : Kp [] H8 (upd H8 u (.tup [])) := Kp.new nu
            have eu : upd H8 u (.tup []) u = some (.tup []) := upd_same
            generalize upd H8 u (.tup []) = H9 at k9 eu ⊢
            have r0 : RsOk [] := ⟨fun r hr => absurd hr (by simp), Nat.zero_le _⟩
            refine eqD_use nrs (nc_recs r0) (dp_recs ((ro7.kp k8).kp k9)) (.tup (SqT.of eu) .nil) (by decide) (by decide) ⟨_, rfl, ?_⟩
            rw [eqv_recs_iff okr, decide_eq_false rne]
            exact iteF (fin H9 k9)
          · refine ⟨_, rfl, _, .ty "str", _, _, _, rfl, .ty _, .base (.str _), kit_ty (r := true) (by decide +kernel), _, rfl, iteT ?_⟩
            obtain ⟨dx6, hd6⟩ := W6.S.D.ins
            obtain ⟨jx6, hj6⟩ := W6.S.J.ins
            have ro6 := ro5.kp k6
            have fin : ∀ (H7 : Hp) (due : V) (a13 : Option V), Kp [] H6 H7 → tRet (tIf (tAnd (tTest (tOp rEq (tCB (rLenS K) (tCons (tMeth T.CD "events" (sp_Disk_events T) [] E0 (tVar 5) tNil) tNil)) (tVar 8))) (tTest (tOp rEq (tCB (rRepr K) (tCons (tMeth T.CJ "records" (sp_Journal_records T) [] E0 (tVar 1) tNil) tNil)) (tCB (rRepr K) (tCons (tVar 2) tNil))))) (tVar 2) (tC .non)) { nx := fun _ H' => Q .non H', rt := Q }
                [some (.ref L), some (.ref j), some (.ref to_), some (.bl long), some (.int ((cuts : Nat) : Int)), some (.ref d), some (.str word), some (.ref tp), some (.int ((evs.length : Nat) : Int)), some (.ref tn), none, some (.str w), some due, a13] H7 := fun H7 due a13 k7 => by
              have W7 := W6.kp0 k7
              obtain ⟨dx7, hd7⟩ := W7.S.D.ins
              refine ⟨_, rfl, d, dx7, _, rfl, hd7, lk_dev .., d, c, o, e, cells, octs, evs, rfl, W7.S.D, fun H8 u k8 eu => ?_⟩
              obtain ⟨ys, ey, yv⟩ := eu
              have W8 := W7.kp0 k8
              obtain ⟨jx8, hj8⟩ := W8.S.J.ins
              refine ⟨u, ys, rfl, .inr (SqT.of ey), _, rfl, rfl, _, rfl, ?_⟩
              rw [plen yv]
              refine ifb (fun _ => ?_) (fun hb => absurd hb (by simp))
              refine ⟨_, rfl, j, jx8, _, rfl, hj8, lk_jrecords .., j, d, r, _, rs, _, rfl, W8.S.J, fun H9 t9 k9 rt9 => ?_⟩
              have ro9 := ((ro6.kp k7).kp k8).kp k9
              refine ⟨t9, _, rfl, dp_recs rt9, nrs.shw, nrs.r2, nrs.r3 (by decide), nrs.r4 (by decide), _, rfl, to_, _, rfl, dp_recs ro9, nrs.shw, nrs.r2, nrs.r3 (by decide), nrs.r4 (by decide), rfl, _, rfl, ?_⟩
              refine ifb (fun _ => ?_) (fun hb => absurd hb (by simp))
              have W9 := W8.kp0 k9
              refine ⟨_, rfl, q H9 to_ r [] rs ((((kmon k05 fun b hb => inS6a hb).trans (kmon k6 fun b hb => inS6a hb)).then0 ((k7.trans k8).trans k9))) ?_ ro9 (safe_nil W.S.jp) (by simp) rfl (.inl rfl)⟩
              simpa [appl] using W9
            rcases rf with ⟨rfl, rfl, room⟩ | ⟨rfl, rfl, room⟩ | ⟨rfl, rfl, er⟩
            · have hbig : cells.length / 2 < size nw + 8 := by
                unfold roomJ at room
                rw [hWn rfl, size_snoc]
                have := hs_succ octs.length (sideOf octs)
                omega
              refine ⟨_, rfl, rfl, _, rfl, iteF ?_⟩
              refine ⟨_, rfl, _, rfl, rfl, _, rfl, iteF ?_⟩
              refine ⟨_, rfl, rfl, _, rfl, iteF (iteF ?_)⟩
              refine ⟨_, rfl, rfl, _, rfl, iteT ?_⟩
              obtain ⟨nxs, en6, nv6⟩ := hn.kp k6
              have lnx := plen nv6
              refine ⟨_, rfl, tn, rfl, ⟨_, SqT.of en6⟩, fun D nD => lc_tup (K := K) (a := tn) (xs := nxs) (fun i H' => Kp [] H6 H' ∧ H' D = some (.lst ((eights (nw.take i)).map V.int))) ⟨Kp.new nD, upd_same⟩ (fun i H' _ z => SqT.of (z.1.t _ _ en6)) (fun i x H' hx z => ?_) fun H7 z => ?_⟩
              · obtain ⟨y, hy, a, rfl, ea⟩ := pget nv6 hx
                have hi : i < nw.length := (List.getElem?_eq_some_iff.mp hy).1
                have sg := size_ge nw
                refine ⟨rfl, _, rfl, a, _, rfl, .inr (SqT.of (z.1.t _ _ ea)), _, _, rfl, rfl, _, z.2, ?_, ?_⟩
                · rw [List.length_map, eights, List.length_map, List.length_take]; exact small16 (by omega)
                · refine ⟨z.1.then (Kp.set (S := [D]) z.2 (by simp) (by intro _ q; cases q)) (fun y hy => .inr (by rw [List.mem_singleton.mp hy]; exact nD)), ?_⟩
                  rw [upd_same, take_snoc hy]
                  unfold eights
                  rw [List.map_append, List.map_append]
                  rfl
              · obtain ⟨k7, eD⟩ := z
                rw [lnx, List.take_of_length_le (Nat.le_refl _)] at eD
                have W7 := W6.kp0 k7
                obtain ⟨dx7, hd7⟩ := W7.S.D.ins
                refine ⟨D, eights nw, rfl, SqL.of eD, _, rfl, d, _, dx7, _, _, rfl, hd7, T.clD, T.nDcells, lk_cells .., c, _, rfl, .inr (SqT.of W7.S.D.cel), _, _, rfl, rfl, ⟨by decide, by decide⟩, _, _, rfl, rfl, _, _, rfl, rfl, _, rfl, ?_⟩
                have big : ¬ (eights nw).sum ≤ (((cells.map V.int).length : Nat) : Int) / 2 - 8 := by
                  have h1 := eights_sum nw
                  rw [List.length_map]
                  omega
                show if decide ((eights nw).sum ≤ (((cells.map V.int).length : Nat) : Int) / 2 - 8) = true then _ else _
                rw [decide_eq_false big]
                exact iteF (fin H7 _ _ k7)
            · have hbig : cells.length / 2 < size nw + 8 := by
                unfold roomR at room
                have := hs_succ octs.length (1 - sideOf octs)
                omega
              refine ⟨_, rfl, rfl, _, rfl, iteF ?_⟩
              refine ⟨_, rfl, _, rfl, rfl, _, rfl, iteF ?_⟩
              refine ⟨_, rfl, rfl, _, rfl, iteF (iteF ?_)⟩
              refine ⟨_, rfl, rfl, _, rfl, iteT ?_⟩
              obtain ⟨nxs, en6, nv6⟩ := hn.kp k6
              have lnx := plen nv6
              refine ⟨_, rfl, tn, rfl, ⟨_, SqT.of en6⟩, fun D nD => lc_tup (K := K) (a := tn) (xs := nxs) (fun i H' => Kp [] H6 H' ∧ H' D = some (.lst ((eights (nw.take i)).map V.int))) ⟨Kp.new nD, upd_same⟩ (fun i H' _ z => SqT.of (z.1.t _ _ en6)) (fun i x H' hx z => ?_) fun H7 z => ?_⟩
              · obtain ⟨y, hy, a, rfl, ea⟩ := pget nv6 hx
                have hi : i < nw.length := (List.getElem?_eq_some_iff.mp hy).1
                have sg := size_ge nw
                refine ⟨rfl, _, rfl, a, _, rfl, .inr (SqT.of (z.1.t _ _ ea)), _, _, rfl, rfl, _, z.2, ?_, ?_⟩
                · rw [List.length_map, eights, List.length_map, List.length_take]; exact small16 (by omega)
                · refine ⟨z.1.then (Kp.set (S := [D]) z.2 (by simp) (by intro _ q; cases q)) (fun y hy => .inr (by rw [List.mem_singleton.mp hy]; exact nD)), ?_⟩
                  rw [upd_same, take_snoc hy]
                  unfold eights
                  rw [List.map_append, List.map_append]
                  rfl
              · obtain ⟨k7, eD⟩ := z
                rw [lnx, List.take_of_length_le (Nat.le_refl _)] at eD
                have W7 := W6.kp0 k7
                obtain ⟨dx7, hd7⟩ := W7.S.D.ins
                refine ⟨D, eights nw, rfl, SqL.of eD, _, rfl, d, _, dx7, _, _, rfl, hd7, T.clD, T.nDcells, lk_cells .., c, _, rfl, .inr (SqT.of W7.S.D.cel), _, _, rfl, rfl, ⟨by decide, by decide⟩, _, _, rfl, rfl, _, _, rfl, rfl, _, rfl, ?_⟩
                have big : ¬ (eights nw).sum ≤ (((cells.map V.int).length : Nat) : Int) / 2 - 8 := by
                  have h1 := eights_sum nw
                  rw [List.length_map]
                  omega
                show if decide ((eights nw).sum ≤ (((cells.map V.int).length : Nat) : Int) / 2 - 8) = true then _ else _
                rw [decide_eq_false big]
                exact iteF (fin H7 _ _ k7)
            · refine ⟨_, rfl, rfl, _, rfl, iteT ?_⟩
              refine ⟨_, rfl, _, rfl, rfl, _, rfl, iteF ?_⟩
              refine ⟨_, rfl, rfl, _, rfl, iteT ?_⟩
              refine ⟨_, rfl, Nat.zero_le _, fun u nu => ?_⟩
              have k7 : Kp [] H6 (upd H6 u (.tup [])) := Kp.new nu
              have eu : upd H6 u (.tup []) u = some (.tup []) := upd_same
              generalize upd H6 u (.tup []) = H7 at k7 eu ⊢
              refine neD_use nrs nrs (dp_recs (ro6.kp k7)) (by rw [er]; exact .tup (SqT.of eu) .nil) (by decide) (by decide) ⟨_, rfl, ?_⟩
              rw [eqv_self nrs]
              refine iteF ⟨_, rfl, rfl, _, rfl, iteF (iteF ?_)⟩
              exact fin H7 _ _ k7
        · have W5 := W.draw (k05.trans k59) hd9
          have k05 := k05.trans k59
          have hWn : word = "write" → nw = rs ++ [x] := fun z => absurd z hwd
          have hDn : word = "drop" → nw = rs.dropLast := fun z => by rw [hren] at z; exact absurd z (by decide)
          have hn : RecT H9 tn nw := ⟨_, et9, yv9⟩
          have ro5 : RecT H9 to_ rs := ⟨oxs, eo9, ov9⟩
          have okn : RsOk nw := ⟨fun y hy => (ho y hy).1, by omega⟩
          have hln : ∀ y ∈ nw, y.length < 65536 := fun y hy => by have := (ho y hy).2; omega
          have hp5 := hp9
          simp only [L2.start, List.map_cons, List.map_nil, List.length_cons, List.length_nil, List.replicate, List.cons_append, List.nil_append, List.set_cons_succ, List.set_cons_zero]
          refine ⟨_, rfl, _, rfl, _, rfl, _, rfl, _, rfl, ?_⟩
          have szw : size nw ≤ 100000 := okn.2
          refine ⟨L, j, word, tn, tp, rfl, A, d, c, o, e, r, cells, octs, evs, rs, nw, x, W5, hw, hn, fun y hy => ⟨okn.1 y hy, hln y hy⟩, by have := size_ge nw; omega, hp5, hx, hxl, by omega, fun H6 v E' r' rs' nx nr' k6 W6 sf el pe ev => ?_, fun H6 w rf k6 W6 => ?_⟩
          · have er : rs' = nw := by
              rcases nx with ⟨h1, h2⟩ | ⟨h1, h2⟩ | ⟨h1, y, h2⟩
              · rw [h2, hWn h1]
              · exact h2
              · rw [hDn h1, h2, List.dropLast_concat]
            subst er
            refine ⟨_, rfl, _, .ty "str", _, _, _, rfl, .ty _, .base (.lst ev), kit_ty (r := false) (by decide +kernel), _, rfl, iteF ?_⟩
            refine ⟨_, rfl, Nat.le_trans (show 1 ≤ 2 by decide) two_size, fun l nl => ?_⟩
            have k7 : Kp [] H6 (upd H6 l (.lst [.non])) := Kp.new nl
            have el7 : upd H6 l (.lst [.non]) l = some (.lst [.non]) := upd_same
            generalize upd H6 l (.lst [.non]) = H7 at k7 el7 ⊢
            have nN := Nc.lst (ds := [.none]) (p := 0) (f := fun _ => 4) fun d hd => by rw [List.mem_singleton.mp hd]; exact Nc.non
            refine neD_use nN nN (.lst (SqL.of (k7.k _ _ ev (by simp))) (.cons .non .nil)) (.lst (SqL.of el7) (.cons .non .nil)) (by decide) (by decide) ⟨_, rfl, ?_⟩
            rw [eqv_self nN]
            refine iteF ?_
            have W7 := W6.kp0 k7
            obtain ⟨jx7, hj7⟩ := W7.S.J.ins
            have hn7 := hn.kp (k6.then0 k7)
            have nw_ := nc_recs okn
            have ro7 := ro5.kp (k6.then0 k7)
            refine ⟨_, rfl, j, jx7, _, rfl, hj7, lk_jrecords .., j, d, r', _, rs', _, rfl, W7.S.J, fun H8 t8 k8 rt8 => ?_⟩
            have W8 := W7.kp0 k8
            refine ⟨t8, _, rfl, dp_recs rt8, nw_.shw, nw_.r2, nw_.r3 (by decide), nw_.r4 (by decide), _, rfl, tn, _, rfl, dp_recs (hn7.kp k8), nw_.shw, nw_.r2, nw_.r3 (by decide), nw_.r4 (by decide), rfl, _, rfl, ?_⟩
            have fin : ∀ H9, Kp [] H8 H9 → tRet (tIf (tB (tCall (sp_cuts_right T) [] E0 (tCons (tVar 0) (tCons (tVar 5) (tCons (tVar 8) (tCons (tVar 2) (tCons (tVar 9) (tCons (tVar 4) tNil)))))))) (tVar 9) (tC .non)) { nx := fun _ H' => Q .non H', rt := Q }
                [some (.ref L), some (.ref j), some (.ref to_), some (.bl long), some (.int ((cuts : Nat) : Int)), some (.ref d), some (.str word), some (.ref tp), some (.int ((evs.length : Nat) : Int)), some (.ref tn), none, some (.ref v), none, none] H9 := fun H9 k9 => by
              have W9 := W8.kp0 k9
              refine ⟨_, rfl, _, rfl, _, rfl, _, rfl, _, rfl, _, rfl, ?_⟩
              refine ⟨L, d, to_, tn, evs.length, cuts, rfl, A, c, o, e, cells, appl octs E', evs, E', rs, rs', W9.hd, W9.S.D, rfl, W.S.st, W9.S.ev, W.co, n1, n2, (ro7.kp k8).kp k9, (hn7.kp k8).kp k9, okr, okn, by rw [← W.ap]; exact sf, by rw [List.length_append]; omega, hcu, fun Ha ka hda => ⟨_, rfl, iteT ?_⟩⟩
              exact ⟨_, rfl, q Ha tn r' E' rs' ((((kmon k05 fun b hb => inS6a hb).trans k6).then0 ((k7.trans k8).trans k9)).trans (kmon ka fun b hb => inS6a hb)) (W9.draw ka hda) (((hn7.kp k8).kp k9).kp ka) sf el pe (nr'.imp id fun z => W5.hd.fresh k05 z)⟩
            refine ifb (fun hb => absurd hb (by simp)) fun _ => ?_
            refine ⟨_, rfl, rfl, _, rfl, ?_⟩
            refine ifb (fun hb => ?_) fun _ => iteF (fin H8 .refl)
            have hwd := str_eq hb
            have rne : rs ≠ [] := by
              rcases nx with ⟨h1, _⟩ | ⟨h1, _⟩ | ⟨_, y, h2⟩
              · rw [hwd] at h1; exact absurd h1 (by decide)
              · rw [hwd] at h1; exact absurd h1 (by decide)
              · rw [h2]; simp
            refine ⟨_, rfl, Nat.zero_le _, fun u nu => ?_⟩
            have k9 : Kp [] H8 (upd H8 u (.tup [])) := Kp.new nu
            have eu : upd H8 u (.tup []) u = some (.tup []) := upd_same
            generalize upd H8 u (.tup []) = H9 at k9 eu ⊢
            have r0 : RsOk [] := ⟨fun r hr => absurd hr (by simp), Nat.zero_le _⟩
            refine eqD_use nrs (nc_recs r0) (dp_recs ((ro7.kp k8).kp k9)) (.tup (SqT.of eu) .nil) (by decide) (by decide) ⟨_, rfl, ?_⟩
            rw [eqv_recs_iff okr, decide_eq_false rne]
            exact iteF (fin H9 k9)
          · refine ⟨_, rfl, _, .ty "str", _, _, _, rfl, .ty _, .base (.str _), kit_ty (r := true) (by decide +kernel), _, rfl, iteT ?_⟩
            obtain ⟨dx6, hd6⟩ := W6.S.D.ins
            obtain ⟨jx6, hj6⟩ := W6.S.J.ins
            have ro6 := ro5.kp k6
            have fin : ∀ (H7 : Hp) (due : V) (a13 : Option V), Kp [] H6 H7 → tRet (tIf (tAnd (tTest (tOp rEq (tCB (rLenS K) (tCons (tMeth T.CD "events" (sp_Disk_events T) [] E0 (tVar 5) tNil) tNil)) (tVar 8))) (tTest (tOp rEq (tCB (rRepr K) (tCons (tMeth T.CJ "records" (sp_Journal_records T) [] E0 (tVar 1) tNil) tNil)) (tCB (rRepr K) (tCons (tVar 2) tNil))))) (tVar 2) (tC .non)) { nx := fun _ H' => Q .non H', rt := Q }
                [some (.ref L), some (.ref j), some (.ref to_), some (.bl long), some (.int ((cuts : Nat) : Int)), some (.ref d), some (.str word), some (.ref tp), some (.int ((evs.length : Nat) : Int)), some (.ref tn), none, some (.str w), some due, a13] H7 := fun H7 due a13 k7 => by
              have W7 := W6.kp0 k7
              obtain ⟨dx7, hd7⟩ := W7.S.D.ins
              refine ⟨_, rfl, d, dx7, _, rfl, hd7, lk_dev .., d, c, o, e, cells, octs, evs, rfl, W7.S.D, fun H8 u k8 eu => ?_⟩
              obtain ⟨ys, ey, yv⟩ := eu
              have W8 := W7.kp0 k8
              obtain ⟨jx8, hj8⟩ := W8.S.J.ins
              refine ⟨u, ys, rfl, .inr (SqT.of ey), _, rfl, rfl, _, rfl, ?_⟩
              rw [plen yv]
              refine ifb (fun _ => ?_) (fun hb => absurd hb (by simp))
              refine ⟨_, rfl, j, jx8, _, rfl, hj8, lk_jrecords .., j, d, r, _, rs, _, rfl, W8.S.J, fun H9 t9 k9 rt9 => ?_⟩
              have ro9 := ((ro6.kp k7).kp k8).kp k9
              refine ⟨t9, _, rfl, dp_recs rt9, nrs.shw, nrs.r2, nrs.r3 (by decide), nrs.r4 (by decide), _, rfl, to_, _, rfl, dp_recs ro9, nrs.shw, nrs.r2, nrs.r3 (by decide), nrs.r4 (by decide), rfl, _, rfl, ?_⟩
              refine ifb (fun _ => ?_) (fun hb => absurd hb (by simp))
              have W9 := W8.kp0 k9
              refine ⟨_, rfl, q H9 to_ r [] rs ((((kmon k05 fun b hb => inS6a hb).trans (kmon k6 fun b hb => inS6a hb)).then0 ((k7.trans k8).trans k9))) ?_ ro9 (safe_nil W.S.jp) (by simp) rfl (.inl rfl)⟩
              simpa [appl] using W9
            rcases rf with ⟨rfl, rfl, room⟩ | ⟨rfl, rfl, room⟩ | ⟨rfl, rfl, er⟩
            · have hbig : cells.length / 2 < size nw + 8 := by
                unfold roomJ at room
                rw [hWn rfl, size_snoc]
                have := hs_succ octs.length (sideOf octs)
                omega
              refine ⟨_, rfl, rfl, _, rfl, iteF ?_⟩
              refine ⟨_, rfl, _, rfl, rfl, _, rfl, iteF ?_⟩
              refine ⟨_, rfl, rfl, _, rfl, iteF (iteF ?_)⟩
              refine ⟨_, rfl, rfl, _, rfl, iteT ?_⟩
              obtain ⟨nxs, en6, nv6⟩ := hn.kp k6
              have lnx := plen nv6
              refine ⟨_, rfl, tn, rfl, ⟨_, SqT.of en6⟩, fun D nD => lc_tup (K := K) (a := tn) (xs := nxs) (fun i H' => Kp [] H6 H' ∧ H' D = some (.lst ((eights (nw.take i)).map V.int))) ⟨Kp.new nD, upd_same⟩ (fun i H' _ z => SqT.of (z.1.t _ _ en6)) (fun i x H' hx z => ?_) fun H7 z => ?_⟩
              · obtain ⟨y, hy, a, rfl, ea⟩ := pget nv6 hx
                have hi : i < nw.length := (List.getElem?_eq_some_iff.mp hy).1
                have sg := size_ge nw
                refine ⟨rfl, _, rfl, a, _, rfl, .inr (SqT.of (z.1.t _ _ ea)), _, _, rfl, rfl, _, z.2, ?_, ?_⟩
                · rw [List.length_map, eights, List.length_map, List.length_take]; exact small16 (by omega)
                · refine ⟨z.1.then (Kp.set (S := [D]) z.2 (by simp) (by intro _ q; cases q)) (fun y hy => .inr (by rw [List.mem_singleton.mp hy]; exact nD)), ?_⟩
                  rw [upd_same, take_snoc hy]
                  unfold eights
                  rw [List.map_append, List.map_append]
                  rfl
              · obtain ⟨k7, eD⟩ := z
                rw [lnx, List.take_of_length_le (Nat.le_refl _)] at eD
                have W7 := W6.kp0 k7
                obtain ⟨dx7, hd7⟩ := W7.S.D.ins
                refine ⟨D, eights nw, rfl, SqL.of eD, _, rfl, d, _, dx7, _, _, rfl, hd7, T.clD, T.nDcells, lk_cells .., c, _, rfl, .inr (SqT.of W7.S.D.cel), _, _, rfl, rfl, ⟨by decide, by decide⟩, _, _, rfl, rfl, _, _, rfl, rfl, _, rfl, ?_⟩
                have big : ¬ (eights nw).sum ≤ (((cells.map V.int).length : Nat) : Int) / 2 - 8 := by
                  have h1 := eights_sum nw
                  rw [List.length_map]
                  omega
                show if decide ((eights nw).sum ≤ (((cells.map V.int).length : Nat) : Int) / 2 - 8) = true then _ else _
                rw [decide_eq_false big]
                exact iteF (fin H7 _ _ k7)
            · have hbig : cells.length / 2 < size nw + 8 := by
                unfold roomR at room
                have := hs_succ octs.length (1 - sideOf octs)
                omega
              refine ⟨_, rfl, rfl, _, rfl, iteF ?_⟩
              refine ⟨_, rfl, _, rfl, rfl, _, rfl, iteF ?_⟩
              refine ⟨_, rfl, rfl, _, rfl, iteF (iteF ?_)⟩
              refine ⟨_, rfl, rfl, _, rfl, iteT ?_⟩
              obtain ⟨nxs, en6, nv6⟩ := hn.kp k6
              have lnx := plen nv6
              refine ⟨_, rfl, tn, rfl, ⟨_, SqT.of en6⟩, fun D nD => lc_tup (K := K) (a := tn) (xs := nxs) (fun i H' => Kp [] H6 H' ∧ H' D = some (.lst ((eights (nw.take i)).map V.int))) ⟨Kp.new nD, upd_same⟩ (fun i H' _ z => SqT.of (z.1.t _ _ en6)) (fun i x H' hx z => ?_) fun H7 z => ?_⟩
              · obtain ⟨y, hy, a, rfl, ea⟩ := pget nv6 hx
                have hi : i < nw.length := (List.getElem?_eq_some_iff.mp hy).1
                have sg := size_ge nw
                refine ⟨rfl, _, rfl, a, _, rfl, .inr (SqT.of (z.1.t _ _ ea)), _, _, rfl, rfl, _, z.2, ?_, ?_⟩
                · rw [List.length_map, eights, List.length_map, List.length_take]; exact small16 (by omega)
                · refine ⟨z.1.then (Kp.set (S := [D]) z.2 (by simp) (by intro _ q; cases q)) (fun y hy => .inr (by rw [List.mem_singleton.mp hy]; exact nD)), ?_⟩
                  rw [upd_same, take_snoc hy]
                  unfold eights
                  rw [List.map_append, List.map_append]
                  rfl
              · obtain ⟨k7, eD⟩ := z
                rw [lnx, List.take_of_length_le (Nat.le_refl _)] at eD
                have W7 := W6.kp0 k7
                obtain ⟨dx7, hd7⟩ := W7.S.D.ins
                refine ⟨D, eights nw, rfl, SqL.of eD, _, rfl, d, _, dx7, _, _, rfl, hd7, T.clD, T.nDcells, lk_cells .., c, _, rfl, .inr (SqT.of W7.S.D.cel), _, _, rfl, rfl, ⟨by decide, by decide⟩, _, _, rfl, rfl, _, _, rfl, rfl, _, rfl, ?_⟩
                have big : ¬ (eights nw).sum ≤ (((cells.map V.int).length : Nat) : Int) / 2 - 8 := by
                  have h1 := eights_sum nw
                  rw [List.length_map]
                  omega
                show if decide ((eights nw).sum ≤ (((cells.map V.int).length : Nat) : Int) / 2 - 8) = true then _ else _
                rw [decide_eq_false big]
                exact iteF (fin H7 _ _ k7)
            · refine ⟨_, rfl, rfl, _, rfl, iteT ?_⟩
              refine ⟨_, rfl, _, rfl, rfl, _, rfl, iteF ?_⟩
              refine ⟨_, rfl, rfl, _, rfl, iteT ?_⟩
              refine ⟨_, rfl, Nat.zero_le _, fun u nu => ?_⟩
              have k7 : Kp [] H6 (upd H6 u (.tup [])) := Kp.new nu
              have eu : upd H6 u (.tup []) u = some (.tup []) := upd_same
              generalize upd H6 u (.tup []) = H7 at k7 eu ⊢
              refine neD_use nrs nrs (dp_recs (ro6.kp k7)) (by rw [er]; exact .tup (SqT.of eu) .nil) (by decide) (by decide) ⟨_, rfl, ?_⟩
              rw [eqv_self nrs]
              refine iteF ⟨_, rfl, rfl, _, rfl, iteF (iteF ?_)⟩
              exact fin H7 _ _ k7
    · have hdr : word = "drop" := by
        rcases hw with z | z | z
        · exact absurd z hwd
        · exact z
        · exact absurd z (str_ne hb2)
      have hWn : word = "write" → rs.dropLast = rs ++ [x] := fun z => absurd z hwd
      have hDn : word = "drop" → rs.dropLast = rs.dropLast := fun _ => rfl
      have hn : RecT H5 tn rs.dropLast := by
        refine ⟨_, etn', ?_⟩
        rw [List.dropLast_eq_take, List.dropLast_eq_take, lo]
        exact ptake _ (recs_kp k45 ov4)
      have dl : ∀ y ∈ rs.dropLast, y ∈ rs := fun y hy => by
        rw [List.dropLast_eq_take] at hy
        exact List.mem_of_mem_take hy
      have szd : size rs.dropLast ≤ size rs := by
        rcases snoc_or rs with z | ⟨ys, y, z⟩
        · rw [z]; exact Nat.le_refl _
        · rw [z, List.dropLast_concat, size_snoc]; omega
      have okn : RsOk rs.dropLast := ⟨fun y hy => okr.1 y (dl y hy), by omega⟩
      have hln : ∀ y ∈ rs.dropLast, y.length < 65536 := fun y hy => orec y (dl y hy)
      obtain ⟨nw, enw⟩ : ∃ nw, nw = rs.dropLast := ⟨_, rfl⟩
      have hDn : word = "drop" → nw = rs.dropLast := fun _ => enw
      rw [← enw] at hWn hn okn hln
      clear enw
      simp only [L2.start, List.map_cons, List.map_nil, List.length_cons, List.length_nil, List.replicate, List.cons_append, List.nil_append, List.set_cons_succ, List.set_cons_zero]
      refine ⟨_, rfl, _, rfl, _, rfl, _, rfl, _, rfl, ?_⟩
      have szw : size nw ≤ 100000 := okn.2
      refine ⟨L, j, word, tn, tp, rfl, A, d, c, o, e, r, cells, octs, evs, rs, nw, x, W5, hw, hn, fun y hy => ⟨okn.1 y hy, hln y hy⟩, by have := size_ge nw; omega, hp5, hx, hxl, by omega, fun H6 v E' r' rs' nx nr' k6 W6 sf el pe ev => ?_, fun H6 w rf k6 W6 => ?_⟩
      · have er : rs' = nw := by
          rcases nx with ⟨h1, h2⟩ | ⟨h1, h2⟩ | ⟨h1, y, h2⟩
          · rw [h2, hWn h1]
          · exact h2
          · rw [hDn h1, h2, List.dropLast_concat]
        subst er
        refine ⟨_, rfl, _, .ty "str", _, _, _, rfl, .ty _, .base (.lst ev), kit_ty (r := false) (by decide +kernel), _, rfl, iteF ?_⟩
        refine ⟨_, rfl, Nat.le_trans (show 1 ≤ 2 by decide) two_size, fun l nl => ?_⟩
        have k7 : Kp [] H6 (upd H6 l (.lst [.non])) := Kp.new nl
        have el7 : upd H6 l (.lst [.non]) l = some (.lst [.non]) := upd_same
        generalize upd H6 l (.lst [.non]) = H7 at k7 el7 ⊢
        have nN := Nc.lst (ds := [.none]) (p := 0) (f := fun _ => 4) fun d hd => by rw [List.mem_singleton.mp hd]; exact Nc.non
        refine neD_use nN nN (.lst (SqL.of (k7.k _ _ ev (by simp))) (.cons .non .nil)) (.lst (SqL.of el7) (.cons .non .nil)) (by decide) (by decide) ⟨_, rfl, ?_⟩
        rw [eqv_self nN]
        refine iteF ?_
        have W7 := W6.kp0 k7
        obtain ⟨jx7, hj7⟩ := W7.S.J.ins
        have hn7 := hn.kp (k6.then0 k7)
        have nw_ := nc_recs okn
        have ro7 := ro5.kp (k6.then0 k7)
        refine ⟨_, rfl, j, jx7, _, rfl, hj7, lk_jrecords .., j, d, r', _, rs', _, rfl, W7.S.J, fun H8 t8 k8 rt8 => ?_⟩
        have W8 := W7.kp0 k8
        refine ⟨t8, _, rfl, dp_recs rt8, nw_.shw, nw_.r2, nw_.r3 (by decide), nw_.r4 (by decide), _, rfl, tn, _, rfl, dp_recs (hn7.kp k8), nw_.shw, nw_.r2, nw_.r3 (by decide), nw_.r4 (by decide), rfl, _, rfl, ?_⟩
        have fin : ∀ H9, Kp [] H8 H9 → tRet (tIf (tB (tCall (sp_cuts_right T) [] E0 (tCons (tVar 0) (tCons (tVar 5) (tCons (tVar 8) (tCons (tVar 2) (tCons (tVar 9) (tCons (tVar 4) tNil)))))))) (tVar 9) (tC .non)) { nx := fun _ H' => Q .non H', rt := Q }
            [some (.ref L), some (.ref j), some (.ref to_), some (.bl long), some (.int ((cuts : Nat) : Int)), some (.ref d), some (.str word), some (.ref tp), some (.int ((evs.length : Nat) : Int)), some (.ref tn), none, some (.ref v), none, none] H9 := fun H9 k9 => by
          have W9 := W8.kp0 k9
          refine ⟨_, rfl, _, rfl, _, rfl, _, rfl, _, rfl, _, rfl, ?_⟩
          refine ⟨L, d, to_, tn, evs.length, cuts, rfl, A, c, o, e, cells, appl octs E', evs, E', rs, rs', W9.hd, W9.S.D, rfl, W.S.st, W9.S.ev, W.co, n1, n2, (ro7.kp k8).kp k9, (hn7.kp k8).kp k9, okr, okn, by rw [← W.ap]; exact sf, by rw [List.length_append]; omega, hcu, fun Ha ka hda => ⟨_, rfl, iteT ?_⟩⟩
          exact ⟨_, rfl, q Ha tn r' E' rs' ((((kmon k05 fun b hb => inS6a hb).trans k6).then0 ((k7.trans k8).trans k9)).trans (kmon ka fun b hb => inS6a hb)) (W9.draw ka hda) (((hn7.kp k8).kp k9).kp ka) sf el pe (nr'.imp id fun z => W5.hd.fresh k05 z)⟩
        refine ifb (fun hb => absurd hb (by simp)) fun _ => ?_
        refine ⟨_, rfl, rfl, _, rfl, ?_⟩
        refine ifb (fun hb => ?_) fun _ => iteF (fin H8 .refl)
        have hwd := str_eq hb
        have rne : rs ≠ [] := by
          rcases nx with ⟨h1, _⟩ | ⟨h1, _⟩ | ⟨_, y, h2⟩
          · rw [hwd] at h1; exact absurd h1 (by decide)
          · rw [hwd] at h1; exact absurd h1 (by decide)
          · rw [h2]; simp
        refine ⟨_, rfl, Nat.zero_le _, fun u nu => ?_⟩
        have k9 : Kp [] H8 (upd H8 u (.tup [])) := Kp.new nu
        have eu : upd H8 u (.tup []) u = some (.tup []) := upd_same
        generalize upd H8 u (.tup []) = H9 at k9 eu ⊢
        have r0 : RsOk [] := ⟨fun r hr => absurd hr (by simp), Nat.zero_le _⟩
        refine eqD_use nrs (nc_recs r0) (dp_recs ((ro7.kp k8).kp k9)) (.tup (SqT.of eu) .nil) (by decide) (by decide) ⟨_, rfl, ?_⟩
        rw [eqv_recs_iff okr, decide_eq_false rne]
        exact iteF (fin H9 k9)
      · refine ⟨_, rfl, _, .ty "str", _, _, _, rfl, .ty _, .base (.str _), kit_ty (r := true) (by decide +kernel), _, rfl, iteT ?_⟩
        obtain ⟨dx6, hd6⟩ := W6.S.D.ins
        obtain ⟨jx6, hj6⟩ := W6.S.J.ins
        have ro6 := ro5.kp k6
        have fin : ∀ (H7 : Hp) (due : V) (a13 : Option V), Kp [] H6 H7 → tRet (tIf (tAnd (tTest (tOp rEq (tCB (rLenS K) (tCons (tMeth T.CD "events" (sp_Disk_events T) [] E0 (tVar 5) tNil) tNil)) (tVar 8))) (tTest (tOp rEq (tCB (rRepr K) (tCons (tMeth T.CJ "records" (sp_Journal_records T) [] E0 (tVar 1) tNil) tNil)) (tCB (rRepr K) (tCons (tVar 2) tNil))))) (tVar 2) (tC .non)) { nx := fun _ H' => Q .non H', rt := Q }
            [some (.ref L), some (.ref j), some (.ref to_), some (.bl long), some (.int ((cuts : Nat) : Int)), some (.ref d), some (.str word), some (.ref tp), some (.int ((evs.length : Nat) : Int)), some (.ref tn), none, some (.str w), some due, a13] H7 := fun H7 due a13 k7 => by
          have W7 := W6.kp0 k7
          obtain ⟨dx7, hd7⟩ := W7.S.D.ins
          refine ⟨_, rfl, d, dx7, _, rfl, hd7, lk_dev .., d, c, o, e, cells, octs, evs, rfl, W7.S.D, fun H8 u k8 eu => ?_⟩
          obtain ⟨ys, ey, yv⟩ := eu
          have W8 := W7.kp0 k8
          obtain ⟨jx8, hj8⟩ := W8.S.J.ins
          refine ⟨u, ys, rfl, .inr (SqT.of ey), _, rfl, rfl, _, rfl, ?_⟩
          rw [plen yv]
          refine ifb (fun _ => ?_) (fun hb => absurd hb (by simp))
          refine ⟨_, rfl, j, jx8, _, rfl, hj8, lk_jrecords .., j, d, r, _, rs, _, rfl, W8.S.J, fun H9 t9 k9 rt9 => ?_⟩
          have ro9 := ((ro6.kp k7).kp k8).kp k9
          refine ⟨t9, _, rfl, dp_recs rt9, nrs.shw, nrs.r2, nrs.r3 (by decide), nrs.r4 (by decide), _, rfl, to_, _, rfl, dp_recs ro9, nrs.shw, nrs.r2, nrs.r3 (by decide), nrs.r4 (by decide), rfl, _, rfl, ?_⟩
          refine ifb (fun _ => ?_) (fun hb => absurd hb (by simp))
          have W9 := W8.kp0 k9
          refine ⟨_, rfl, q H9 to_ r [] rs ((((kmon k05 fun b hb => inS6a hb).trans (kmon k6 fun b hb => inS6a hb)).then0 ((k7.trans k8).trans k9))) ?_ ro9 (safe_nil W.S.jp) (by simp) rfl (.inl rfl)⟩
          simpa [appl] using W9
        rcases rf with ⟨rfl, rfl, room⟩ | ⟨rfl, rfl, room⟩ | ⟨rfl, rfl, er⟩
        · have hbig : cells.length / 2 < size nw + 8 := by
            unfold roomJ at room
            rw [hWn rfl, size_snoc]
            have := hs_succ octs.length (sideOf octs)
            omega
          refine ⟨_, rfl, rfl, _, rfl, iteF ?_⟩
          refine ⟨_, rfl, _, rfl, rfl, _, rfl, iteF ?_⟩
          refine ⟨_, rfl, rfl, _, rfl, iteF (iteF ?_)⟩
          refine ⟨_, rfl, rfl, _, rfl, iteT ?_⟩
          obtain ⟨nxs, en6, nv6⟩ := hn.kp k6
          have lnx := plen nv6
          refine ⟨_, rfl, tn, rfl, ⟨_, SqT.of en6⟩, fun D nD => lc_tup (K := K) (a := tn) (xs := nxs) (fun i H' => Kp [] H6 H' ∧ H' D = some (.lst ((eights (nw.take i)).map V.int))) ⟨Kp.new nD, upd_same⟩ (fun i H' _ z => SqT.of (z.1.t _ _ en6)) (fun i x H' hx z => ?_) fun H7 z => ?_⟩
          · obtain ⟨y, hy, a, rfl, ea⟩ := pget nv6 hx
            have hi : i < nw.length := (List.getElem?_eq_some_iff.mp hy).1
            have sg := size_ge nw
            refine ⟨rfl, _, rfl, a, _, rfl, .inr (SqT.of (z.1.t _ _ ea)), _, _, rfl, rfl, _, z.2, ?_, ?_⟩
            · rw [List.length_map, eights, List.length_map, List.length_take]; exact small16 (by omega)
            · refine ⟨z.1.then (Kp.set (S := [D]) z.2 (by simp) (by intro _ q; cases q)) (fun y hy => .inr (by rw [List.mem_singleton.mp hy]; exact nD)), ?_⟩
              rw [upd_same, take_snoc hy]
              unfold eights
              rw [List.map_append, List.map_append]
              rfl
          · obtain ⟨k7, eD⟩ := z
            rw [lnx, List.take_of_length_le (Nat.le_refl _)] at eD
            have W7 := W6.kp0 k7
            obtain ⟨dx7, hd7⟩ := W7.S.D.ins
            refine ⟨D, eights nw, rfl, SqL.of eD, _, rfl, d, _, dx7, _, _, rfl, hd7, T.clD, T.nDcells, lk_cells .., c, _, rfl, .inr (SqT.of W7.S.D.cel), _, _, rfl, rfl, ⟨by decide, by decide⟩, _, _, rfl, rfl, _, _, rfl, rfl, _, rfl, ?_⟩
            have big : ¬ (eights nw).sum ≤ (((cells.map V.int).length : Nat) : Int) / 2 - 8 := by
              have h1 := eights_sum nw
              rw [List.length_map]
              omega
            show if decide ((eights nw).sum ≤ (((cells.map V.int).length : Nat) : Int) / 2 - 8) = true then _ else _
            rw [decide_eq_false big]
            exact iteF (fin H7 _ _ k7)
        · have hbig : cells.length / 2 < size nw + 8 := by
            unfold roomR at room
            have := hs_succ octs.length (1 - sideOf octs)
            omega
          refine ⟨_, rfl, rfl, _, rfl, iteF ?_⟩
          refine ⟨_, rfl, _, rfl, rfl, _, rfl, iteF ?_⟩
          refine ⟨_, rfl, rfl, _, rfl, iteF (iteF ?_)⟩
          refine ⟨_, rfl, rfl, _, rfl, iteT ?_⟩
          obtain ⟨nxs, en6, nv6⟩ := hn.kp k6
          have lnx := plen nv6
          refine ⟨_, rfl, tn, rfl, ⟨_, SqT.of en6⟩, fun D nD => lc_tup (K := K) (a := tn) (xs := nxs) (fun i H' => Kp [] H6 H' ∧ H' D = some (.lst ((eights (nw.take i)).map V.int))) ⟨Kp.new nD, upd_same⟩ (fun i H' _ z => SqT.of (z.1.t _ _ en6)) (fun i x H' hx z => ?_) fun H7 z => ?_⟩
          · obtain ⟨y, hy, a, rfl, ea⟩ := pget nv6 hx
            have hi : i < nw.length := (List.getElem?_eq_some_iff.mp hy).1
            have sg := size_ge nw
            refine ⟨rfl, _, rfl, a, _, rfl, .inr (SqT.of (z.1.t _ _ ea)), _, _, rfl, rfl, _, z.2, ?_, ?_⟩
            · rw [List.length_map, eights, List.length_map, List.length_take]; exact small16 (by omega)
            · refine ⟨z.1.then (Kp.set (S := [D]) z.2 (by simp) (by intro _ q; cases q)) (fun y hy => .inr (by rw [List.mem_singleton.mp hy]; exact nD)), ?_⟩
              rw [upd_same, take_snoc hy]
              unfold eights
              rw [List.map_append, List.map_append]
              rfl
          · obtain ⟨k7, eD⟩ := z
            rw [lnx, List.take_of_length_le (Nat.le_refl _)] at eD
            have W7 := W6.kp0 k7
            obtain ⟨dx7, hd7⟩ := W7.S.D.ins
            refine ⟨D, eights nw, rfl, SqL.of eD, _, rfl, d, _, dx7, _, _, rfl, hd7, T.clD, T.nDcells, lk_cells .., c, _, rfl, .inr (SqT.of W7.S.D.cel), _, _, rfl, rfl, ⟨by decide, by decide⟩, _, _, rfl, rfl, _, _, rfl, rfl, _, rfl, ?_⟩
            have big : ¬ (eights nw).sum ≤ (((cells.map V.int).length : Nat) : Int) / 2 - 8 := by
              have h1 := eights_sum nw
              rw [List.length_map]
              omega
            show if decide ((eights nw).sum ≤ (((cells.map V.int).length : Nat) : Int) / 2 - 8) = true then _ else _
            rw [decide_eq_false big]
            exact iteF (fin H7 _ _ k7)
        · refine ⟨_, rfl, rfl, _, rfl, iteT ?_⟩
          refine ⟨_, rfl, _, rfl, rfl, _, rfl, iteF ?_⟩
          refine ⟨_, rfl, rfl, _, rfl, iteT ?_⟩
          refine ⟨_, rfl, Nat.zero_le _, fun u nu => ?_⟩
          have k7 : Kp [] H6 (upd H6 u (.tup [])) := Kp.new nu
          have eu : upd H6 u (.tup []) u = some (.tup []) := upd_same
          generalize upd H6 u (.tup []) = H7 at k7 eu ⊢
          refine neD_use nrs nrs (dp_recs (ro6.kp k7)) (by rw [er]; exact .tup (SqT.of eu) .nil) (by decide) (by decide) ⟨_, rfl, ?_⟩
          rw [eqv_self nrs]
          refine iteF ⟨_, rfl, rfl, _, rfl, iteF (iteF ?_)⟩
          exact fin H7 _ _ k7
end
end KJ
end

section
namespace KJ
open PySem PySem.Spec PyProof.Rows L2 KM
section
variable {P : Program} {w : World} {K : PySem.W.Frag} {mg : Str → Option Value} {base : Heap}
theorem zero_jp {n : Nat} : Jp (List.replicate n 0) [] := by
  have z : ∀ i, (List.replicate n (0 : Int)).getD i 0 = 0 := fun i => by
    rw [List.getD_eq_getElem?_getD, List.getElem?_replicate]
    split <;> rfl
  refine ⟨?_, fun h => ?_⟩
  · exact .nil _
  · have := h.2
    rw [z] at this
    exact absurd this (by decide)
theorem zero_oct {n : Nat} : ∀ x ∈ List.replicate n (0 : Int), Oct x := fun x hx => by rw [(List.mem_replicate.mp hx).2]; exact oct01.1
/-- a journal just opened -/
theorem fresh_js {T : Tx P K mg} {H H' : Hp} {j d c o e r : Addr} {cells : List Int} {rs : List (List Int)} (D0 : Dsk T H d c o e cells cells []) (k : Kp [] H H') (nr : H r = none) (J : Jrn T H' j d r (sideOf cells) rs (hs cells.length (sideOf cells) + size rs))
    (h1 : 1 ≤ cells.length) (h2 : cells.length ≤ 20000) (ho : ∀ x ∈ cells, Oct x) (jp : Jp cells rs) : JS T H' j d c o e r cells cells [] rs := by
  refine ⟨D0.kp0 k, J, fun z => ?_, fun z => ?_, jp, ho, h1, h2, rfl, EvOk.nil _⟩
  · rw [z, D0.oct] at nr; cases nr
  · obtain ⟨xs, he, _⟩ := D0.evl
    rw [z, he] at nr; cases nr
def sp_day_right (T : Tx P K mg) : Sp := fun vs H Q _ => ∃ (L : Addr) (many turns cuts : Nat), vs = [.ref L, .int ((many : Nat) : Int), .int ((turns : Nat) : Int), .int ((cuts : Nat) : Int)] ∧ ∃ A, Hd H L A ∧ 1 ≤ many ∧ many ≤ 20000 ∧ turns ≤ 20 ∧ cuts ≤ 10 ∧ ∀ H', Kp [L, A] H H' → Hd H' L A → Q (.bl true) H'
--N 4
theorem ok_day_right (T : Tx P K mg) : FnG P w K mg base (L2.CX P w) 9 T.f_day_right T.d_day_right ["_law_heap_here", "_law_many", "_law_turns", "_law_cuts"] (sp_day_right T) := by
  refine T.F_day_right.okG (k := 8) sc_day_right (fun vs H Q E h => by obtain ⟨_, _, _, _, rfl, _⟩ := h; rfl) (fun cdv A outer s H vs Q E hr hgd h => ?_)
  refine ⟨_, PSs.nox (pss_cons (ps_par (i := 4) (j := 5) rfl sc_day_right.nd rfl rfl (by decide) rfl rfl (pa_cons (pe_make T.mkJ (ok_Journal_init T) (hr.mono (by decide)) rfl T.gJ T.b_Journal_init .nil passL (pa_cons (pe_make T.mkD (ok_Disk_init T) (hr.mono (by decide)) rfl T.gD T.b_Disk_init .nil passL (pa_cons (pe_op op_rep1 (pe_tup (pa_cons pe_int pa_nil)) (pv 1)) pa_nil)) pa_nil)) (pa_cons (pe_tup pa_nil) pa_nil)) (by rfl))
 (pss_cons (ps_if (PW.pt (pw_or (pt_cmpR (op_neD hr.units) (pe_meth0 (pv 4) T.clJ T.m_Journal_records (ok_Journal_records T) (hr.mono (by decide)) T.b_Journal_records .nil passL) (pe_tup pa_nil) (nomark _)) (pw_or1 (pt_cmpR (op_neD hr.units) (pe_meth0 (pe_fld (pv 4) rfl) T.clD T.m_Disk_events (ok_Disk_events T) (hr.mono (by decide)) T.b_Disk_events .nil passL) (pe_tup pa_nil) (nomark _)))))
 (pss_one (ps_ret pe_bl))
 pss_nil)
 (pss_cons (ps_for PassesOwn.never rfl (pi_range1 rfl T.n_range (pa_cons (pv 2) pa_nil)) (pg_name (i := 6) sc_day_right.nd rfl (Or.inl rfl))
 (pss_cons (ps_set (i := 7) sc_day_right.nd rfl (Or.inl rfl) (pe_callB call_len_seq rfl T.n_len (by decide +kernel) (pa_cons (pe_meth0 (pe_fld (pv 4) rfl) T.clD T.m_Disk_events (ok_Disk_events T) (hr.mono (by decide)) T.b_Disk_events .nil passL) pa_nil)))
 (pss_cons (ps_set (i := 8) sc_day_right.nd rfl (Or.inl rfl) (pe_callG (ok_turn T) (hr.mono (by decide)) hgd rfl T.g_turn T.F_turn.kp T.b_turn .nil passL (pa_cons (pv 0) (pa_cons (pv 4) (pa_cons (pv 5) (pa_cons (pe_cmpR op_gt (pv 1) pe_int (nomark _)) (pa_cons (pv 3) pa_nil)))))))
 (pss_cons (ps_if (pt_cmpR op_isN (pv 8) pe_non (nomark _))
 (pss_one (ps_ret pe_bl))
 pss_nil)
 (pss_cons (ps_if (pt_cmpR op_eq (pe_call (ok_draw T) (hr.mono (by decide)) rfl T.g_draw T.F_draw.kp T.b_draw .nil passL (pa_cons (pv 0) (pa_cons pe_int pa_nil))) pe_int (nomark _))
 (pss_cons (ps_par (i := 9) (j := 10) rfl sc_day_right.nd rfl rfl (by decide) rfl rfl (pa_cons (pe_fld (pv 4) rfl) (pa_cons (pe_callB call_len_seq rfl T.n_len (by decide +kernel) (pa_cons (pe_meth0 (pe_fld (pv 4) rfl) T.clD T.m_Disk_events (ok_Disk_events T) (hr.mono (by decide)) T.b_Disk_events .nil passL) pa_nil)) pa_nil)) (by rfl))
 (pss_cons (ps_set (i := 11) sc_day_right.nd rfl (Or.inl rfl) (pe_call (ok_left T) (hr.mono (by decide)) rfl T.g_left T.F_left.kp T.b_left .nil passL (pa_cons (pv 0) (pa_cons (pe_fld (pv 9) rfl) (pa_cons (pe_slice sl_tupA (pe_meth0 (pv 9) T.clD T.m_Disk_events (ok_Disk_events T) (hr.mono (by decide)) T.b_Disk_events .nil passL) po_none (po_some (pe_call (ok_pick T) (hr.mono (by decide)) rfl T.g_pick T.F_pick.kp T.b_pick .nil passL (pa_cons (pv 0) (pa_cons (pe_lst (pa_cons (pv 10) (pa_cons (pe_callB (call_max2 rfl) rfl T.n_max (by decide +kernel) (pa_cons (pv 7) (pa_cons (pe_op op_sub (pe_op op_sub (pv 10) pe_int) (pe_call (ok_draw T) (hr.mono (by decide)) rfl T.g_draw T.F_draw.kp T.b_draw .nil passL (pa_cons (pv 0) (pa_cons pe_int pa_nil)))) pa_nil))) pa_nil))) pa_nil))))) pa_nil)))))
 (pss_cons (ps_set (i := 12) sc_day_right.nd rfl (Or.inl rfl) (pe_makeK0 T.mkJ (ok_Journal_init T) (hr.mono (by decide)) rfl T.gJ (kb_Journal_init T) passL (pk_cons (pe_makeK0 T.mkD (ok_Disk_init T) (hr.mono (by decide)) rfl T.gD (kb_Disk_init T) passL (pk_cons (pv 11) pk_nil)) pk_nil)))
 (pss_cons (ps_if (PW.pt (pw_and (pt_cmpR op_ne (pe_callB (call_repr hgd hr.units) rfl T.n_repr (by decide +kernel) (pa_cons (pe_meth0 (pv 12) T.clJ T.m_Journal_records (ok_Journal_records T) (hr.mono (by decide)) T.b_Journal_records .nil passL) pa_nil)) (pe_callB (call_repr hgd hr.units) rfl T.n_repr (by decide +kernel) (pa_cons (pv 8) pa_nil)) (nomark _)) (pw_and1 (pt_cmpR op_ne (pe_callB (call_repr hgd hr.units) rfl T.n_repr (by decide +kernel) (pa_cons (pe_meth0 (pv 12) T.clJ T.m_Journal_records (ok_Journal_records T) (hr.mono (by decide)) T.b_Journal_records .nil passL) pa_nil)) (pe_callB (call_repr hgd hr.units) rfl T.n_repr (by decide +kernel) (pa_cons (pv 5) pa_nil)) (nomark _)))))
 (pss_one (ps_ret pe_bl))
 pss_nil)
 (pss_one (ps_par (i := 4) (j := 8) rfl sc_day_right.nd rfl rfl (by decide) rfl rfl (pa_cons (pv 12) (pa_cons (pe_ifExp (pt_cmpR (op_eqD hr.units) (pe_meth0 (pv 12) T.clJ T.m_Journal_records (ok_Journal_records T) (hr.mono (by decide)) T.b_Journal_records .nil passL) (pv 8) (nomark _)) (pv 8) (pv 5)) pa_nil)) (by rfl)))))))
 pss_nil)
 (pss_one (ps_set (i := 5) sc_day_right.nd rfl (Or.inl rfl) (pv 8))))))))
 (pss_one (ps_ret pe_bl))))), ?_⟩
  obtain ⟨L, many, turns, cuts, rfl, A, hd, m1, m2, tl, cl, q⟩ := h
  refine ⟨Nat.le_trans (show 1 ≤ 2 by decide) two_size, fun t nt => ?_⟩
  have k1 : Kp [] H (upd H t (.tup [.int 0])) := Kp.new nt
  have et : upd H t (.tup [.int 0]) t = some (.tup [.int 0]) := upd_same
  generalize upd H t (.tup [.int 0]) = H1 at k1 et ⊢
  refine ⟨_, rfl, rep_use et (by omega) (by omega) fun c H2 k2 ec => ?_⟩
  have ez : List.replicate ((many : Nat) : Int).toNat (V.int 0) = (List.replicate many (0 : Int)).map V.int := by rw [Int.toNat_natCast, List.map_replicate]
  rw [ez] at ec
  have lz : (List.replicate many (0 : Int)).length = many := List.length_replicate
  refine fun d dd nd ndd ned => disk_use nd ndd ned ec (by rw [lz]; exact m1) (by rw [lz]; exact m2) zero_oct fun H3 o e k3 no ne D => ⟨rfl, ?_⟩
  refine fun j dj nj ndj nej => jrn_use nj ndj nej D (by rw [lz]; exact m1) (by rw [lz]; exact m2) zero_oct zero_jp fun H4 r k4 nr J => ⟨rfl, ?_⟩
  have S4 := fresh_js D k4 nr J (by rw [lz]; exact m1) (by rw [lz]; exact m2) zero_oct zero_jp
  have k12 := k1.trans k2
  have k13 := k12.trans k3
  have k14 := k13.trans k4
  have fd := k12.fresh0 nd
  have fo := k12.fresh0 no
  have fe := k12.fresh0 ne
  have fj := k13.fresh0 nj
  have fr := k13.fresh0 nr
  refine ⟨Nat.zero_le _, fun t0 nt0 => ?_⟩
  have k5 : Kp [] H4 (upd H4 t0 (.tup [])) := Kp.new nt0
  have et0 : upd H4 t0 (.tup []) t0 = some (.tup []) := upd_same
  generalize upd H4 t0 (.tup []) = H5 at k5 et0 ⊢
  have k05 := k14.trans k5
  have W5 : Wd T H5 L A j d c o e r (List.replicate many 0) (List.replicate many 0) [] [] := ⟨hd.kp0 k05, S4.kp0 k5, hd.nn fo, hd.nn fe, hd.nn fr, rfl, zero_oct⟩
  refine ⟨_, _, rfl, ?_⟩
  -- the tests
  have r0 : RsOk [] := ⟨fun r hr => absurd hr (by simp), Nat.zero_le _⟩
  have n0 := nc_recs r0
  obtain ⟨jx, hj⟩ := W5.S.J.ins
  refine ⟨_, rfl, j, jx, _, rfl, hj, lk_jrecords .., j, d, r, _, [], _, rfl, W5.S.J, fun H6 t6 k6 rt6 => ⟨Nat.zero_le _, fun u nu => ?_⟩⟩
  have k7 : Kp [] H6 (upd H6 u (.tup [])) := Kp.new nu
  have eu : upd H6 u (.tup []) u = some (.tup []) := upd_same
  generalize upd H6 u (.tup []) = H7 at k7 eu ⊢
  refine neD_use n0 n0 (dp_recs (rt6.kp k7)) (.tup (SqT.of eu) .nil) (by decide) (by decide) ⟨_, rfl, ?_⟩
  rw [eqv_self n0]
  refine iteF ?_
  have W7 := W5.kp0 (k6.trans k7)
  obtain ⟨jx7, hj7⟩ := W7.S.J.ins
  obtain ⟨dx7, hd7⟩ := W7.S.D.ins
  refine ⟨_, rfl, j, _, jx7, _, _, rfl, hj7, T.clJ, T.nJdisk, lk_disk .., d, dx7, _, rfl, hd7, lk_dev .., d, c, o, e, _, _, [], rfl, W7.S.D, fun H8 t8 k8 et8 => ⟨Nat.zero_le _, fun w nw => ?_⟩⟩
  have k9 : Kp [] H8 (upd H8 w (.tup [])) := Kp.new nw
  have ew : upd H8 w (.tup []) w = some (.tup []) := upd_same
  generalize upd H8 w (.tup []) = H9 at k9 ew ⊢
  refine neD_use nc_nil nc_nil (dp_evs (et8.kp k9)) (.tup (SqT.of ew) .nil) (by decide) (by decide) ⟨_, rfl, ?_⟩
  rw [eqv_self nc_nil]
  refine iteF ?_
  have W9 := W7.kp0 (k8.trans k9)
  have k09 := k05.trans ((k6.trans k7).trans (k8.trans k9))
  have et9 := ((k6.trans k7).trans (k8.trans k9)).t _ _ et0
  -- the days' turns
  refine ⟨_, rfl, _, rfl, by omega, by omega, ?_⟩
  rw [Int.toNat_natCast]
  refine for_range (lo := 0) (n := turns) (fun i σ H' => ∃ (j d c o e r tr : Addr) (cells octs : List Int) (evs : List Ev) (rs : List (List Int)) (a6 a7 a8 a9 a10 a11 a12 : Option V), σ = [some (.ref L), some (.int ((many : Nat) : Int)), some (.int ((turns : Nat) : Int)), some (.int ((cuts : Nat) : Int)), some (.ref j), some (.ref tr), a6, a7, a8, a9, a10, a11, a12] ∧
    Kp [L, A] H H' ∧ Wd T H' L A j d c o e r cells octs evs rs ∧ RecT H' tr rs ∧ H j = none ∧ H o = none ∧ H e = none ∧ H r = none ∧ evs.length ≤ i * 30000)
    ⟨j, d, c, o, e, r, t0, _, _, [], [], none, none, none, none, none, none, none, rfl, kLA k09, W9, ⟨[], et9, .nil⟩, fj, fo, fe, fr, Nat.zero_le _⟩ (fun i σ H' hi z => ?_) fun σ H' z => ?_
  · obtain ⟨j, d, c, o, e, r, tr, cells, octs, evs, rs, a6, a7, a8, a9, a10, a11, a12, rfl, k, W, rt, fj, fo, fe, fr, el⟩ := z
    obtain ⟨jx, hj⟩ := W.S.J.ins
    obtain ⟨dx, hdk⟩ := W.S.D.ins
    refine ⟨_, rfl, j, _, jx, _, _, rfl, hj, T.clJ, T.nJdisk, lk_disk .., d, dx, _, rfl, hdk, lk_dev .., d, c, o, e, cells, octs, evs, rfl, W.S.D, fun H1 te k1 ete => ?_⟩
    obtain ⟨exs, ex, exv⟩ := ete
    refine ⟨te, exs, rfl, .inr (SqT.of ex), ?_⟩
    rw [plen exv]
    have W1 := W.kp0 k1
    refine ⟨_, rfl, _, rfl, _, rfl, _, rfl, _, _, rfl, rfl, _, rfl, ?_⟩
    refine ⟨L, j, tr, decide ((1000 : Int) < ((many : Nat) : Int)), cuts, rfl, A, d, c, o, e, r, cells, octs, evs, rs, W1, rt.kp k1, by omega, cl, fun H2 tb r' E' rs' k2 W2 rb sf elE pe fr' => ?_⟩
    have rt2 := (rt.kp k1).kp k2
    have fr2 : H r' = none := by
      rcases fr' with z | z
      · rw [z]; exact fr
      · exact W.hd.fresh k (k1.fresh0 z)
    have k02 : Kp [L, A] H H2 := (k.then0 k1).then k2 fun z hz => by
      simp only [List.mem_cons, List.not_mem_nil, or_false] at hz
      rcases hz with rfl | rfl | rfl | rfl | rfl | rfl
      · exact .inl (by simp)
      · exact .inl (by simp)
      · exact .inr fj
      · exact .inr fo
      · exact .inr fe
      · exact .inr fr
    have okb := W2.S.ok
    have okr := W.S.ok
    refine ⟨_, rfl, rfl, _, rfl, iteF ?_⟩
    refine ⟨_, rfl, L, 3, rfl, A, W2.hd, by decide, by decide, fun H3 m k3 hd3 hm => ⟨rfl, _, rfl, ?_⟩⟩
    have W3 := W2.draw k3 hd3
    have k03 := k02.trans k3
    have lev : (evs ++ E').length = evs.length + E'.length := List.length_append
    refine ifb (fun _ => ?_) (fun _ => ?_)
    · obtain ⟨jx3, hj3⟩ := W3.S.J.ins
      obtain ⟨dx3, hd3'⟩ := W3.S.D.ins
      refine ⟨_, rfl, j, _, jx3, _, _, rfl, hj3, T.clJ, T.nJdisk, lk_disk .., _, rfl, j, _, jx3, _, _, rfl, hj3, T.clJ, T.nJdisk, lk_disk .., d, dx3, _, rfl, hd3', lk_dev .., d, c, o, e, cells, _, _, rfl, W3.S.D, fun H4 te4 k4 ete4 => ?_⟩
      obtain ⟨exs4, ex4, exv4⟩ := ete4
      refine ⟨te4, exs4, rfl, .inr (SqT.of ex4), _, _, rfl, ?_⟩
      rw [plen exv4, lev]
      have W4 := W3.kp0 k4
      obtain ⟨dx4, hd4⟩ := W4.S.D.ins
      refine ⟨_, rfl, _, rfl, d, _, dx4, _, _, rfl, hd4, T.clD, T.nDcells, lk_cells .., _, rfl, d, dx4, _, rfl, hd4, lk_dev .., d, c, o, e, cells, _, _, rfl, W4.S.D, fun H5 te5 k5 ete5 => ?_⟩
      obtain ⟨exs5, ex5, exv5⟩ := ete5
      have W5 := W4.kp0 k5
      simp only [tNoPart]
      -- where the cut is
      refine ⟨_, rfl, _, rfl, _, rfl, _, rfl, _, _, rfl, rfl, _, rfl, L, 9, rfl, A, W5.hd, by decide, by decide, fun H6 g k6 hd6 hg => ?_⟩
      have W6 := W5.draw k6 hd6
      obtain ⟨cut, hcut, c1, c2⟩ : ∃ cut : Nat, (if ((evs.length + E'.length : Nat) : Int) - 1 - ((g : Nat) : Int) > ((evs.length : Nat) : Int) then ((evs.length + E'.length : Nat) : Int) - 1 - ((g : Nat) : Int) else ((evs.length : Nat) : Int)) = ((cut : Nat) : Int) ∧ evs.length ≤ cut ∧ cut ≤ evs.length + E'.length := by
        split
        · exact ⟨evs.length + E'.length - 1 - g, by omega, by omega, by omega⟩
        · exact ⟨evs.length, rfl, Nat.le_refl _, by omega⟩
      refine ⟨_, _, rfl, rfl, _, _, rfl, two_size, fun s ns => ?_⟩
      have es0 : [V.int ((evs.length + E'.length : Nat) : Int), V.int (if ((evs.length + E'.length : Nat) : Int) - 1 - ((g : Nat) : Int) > ((evs.length : Nat) : Int) then ((evs.length + E'.length : Nat) : Int) - 1 - ((g : Nat) : Int) else ((evs.length : Nat) : Int))] = [nV (evs.length + E'.length), nV cut] := by rw [hcut]; rfl
      have k7 : Kp [] H6 (upd H6 s (.lst [V.int ((evs.length + E'.length : Nat) : Int), V.int (if ((evs.length + E'.length : Nat) : Int) - 1 - ((g : Nat) : Int) > ((evs.length : Nat) : Int) then ((evs.length + E'.length : Nat) : Int) - 1 - ((g : Nat) : Int) else ((evs.length : Nat) : Int))])) := Kp.new ns
      have es : (upd H6 s (.lst [V.int ((evs.length + E'.length : Nat) : Int), V.int (if ((evs.length + E'.length : Nat) : Int) - 1 - ((g : Nat) : Int) > ((evs.length : Nat) : Int) then ((evs.length + E'.length : Nat) : Int) - 1 - ((g : Nat) : Int) else ((evs.length : Nat) : Int))])) s = some (.lst [nV (evs.length + E'.length), nV cut]) := by rw [upd_same, es0]
      generalize upd H6 s (.lst [V.int ((evs.length + E'.length : Nat) : Int), V.int (if ((evs.length + E'.length : Nat) : Int) - 1 - ((g : Nat) : Int) > ((evs.length : Nat) : Int) then ((evs.length + E'.length : Nat) : Int) - 1 - ((g : Nat) : Int) else ((evs.length : Nat) : Int))]) = H7 at k7 es ⊢
      have W7 := W6.kp0 k7
      have nns := W6.hd.nn ns
      refine ⟨L, s, _, rfl, A, W7.hd, es, (show 1 ≤ 2 by decide), (show 2 < 1073741824 by decide), nns.1, nns.2, fun H8 xv k8 hd8 hxv => ?_⟩
      have W8 := W7.draw k8 hd8
      obtain ⟨at_, rfl, b1, b2⟩ : ∃ at_ : Nat, xv = nV at_ ∧ evs.length ≤ at_ ∧ at_ ≤ evs.length + E'.length := by
        simp only [List.mem_cons, List.not_mem_nil, or_false] at hxv
        rcases hxv with rfl | rfl
        · exact ⟨_, rfl, by omega, Nat.le_refl _⟩
        · exact ⟨cut, rfl, c1, c2⟩
      have k58 := (k6.trans (kLA k7)).trans k8
      refine ⟨_, rfl, sl_use (k58.t _ _ ex5) fun t9 H9 k9 et9 => ?_⟩
      rw [cutV_to] at et9
      have hev : EvT H9 t9 (evs ++ E'.take (at_ - evs.length)) := by
        have h1 := ptake at_ (evs_kp k9 (evs_kp k58 exv5))
        rw [List.take_append, List.take_of_length_le b1] at h1
        exact ⟨_, et9, h1⟩
      have W9 := W8.kp0 k9
      refine ⟨L, c, t9, cells, evs ++ E'.take (at_ - evs.length), rfl, A, W9.hd, W9.S.D.cel, hev, fun p x hx => ?_, W.co, by rw [List.length_append, List.length_take]; omega, W.S.n2, fun Ha v dd ka hda ev cu => ?_⟩
      · rcases List.mem_append.mp hx with z | z
        · exact W.S.ev p x z
        · exact W2.S.ev p x (List.mem_append_right _ (List.mem_of_mem_take z))
      have Wa := W9.draw ka hda
      have cu2 := cu.settled W.S.st
      rw [← W.ap] at cu2
      have kk3a : Kp [L, A] H3 Ha := (((kLA (k4.trans k5)).trans k58).trans (kLA k9)).trans ka
      have k0a := k03.trans kk3a
      have ld : dd.length = cells.length := cu.len
      obtain ⟨rs2, jp2, hrs⟩ : ∃ rs2, Jp dd rs2 ∧ (rs2 = rs ∨ rs2 = rs') := by
        rcases sf.mid _ _ cu2 with z | z
        · exact ⟨rs, z, .inl rfl⟩
        · exact ⟨rs', z, .inr rfl⟩
      have ok2 : RsOk rs2 := by rcases hrs with z | z <;> rw [z] <;> assumption
      have nl1 : 1 ≤ dd.length := by rw [ld]; exact W.S.n1
      have nl2 : dd.length ≤ 20000 := by rw [ld]; exact W.S.n2
      -- opened again
      refine ⟨_, rfl, rfl, rfl, fun d2 dd2 nd2 ndd2 ned2 => disk_use nd2 ndd2 ned2 ev nl1 nl2 cu.oct fun Hb o2 e2 kb no2 ne2 D2 => ⟨rfl, ?_⟩⟩
      refine ⟨rfl, rfl, fun j2 dj2 nj2 ndj2 nej2 => jrn_use nj2 ndj2 nej2 D2 nl1 nl2 cu.oct jp2 fun Hc r2 kc nr2 J2 => ⟨rfl, ?_⟩⟩
      have S2 := fresh_js D2 kc nr2 J2 nl1 nl2 cu.oct jp2
      have k0b : Kp [L, A] H Hb := k0a.then0 kb
      have gd := Wa.hd.fresh k0a nd2
      have go := Wa.hd.fresh k0a no2
      have ge := Wa.hd.fresh k0a ne2
      have hdb := Wa.hd.kp0 kb
      have gj := hdb.fresh k0b nj2
      have gr := hdb.fresh k0b nr2
      have Wc : Wd T Hc L A j2 d2 v o2 e2 r2 dd dd [] rs2 := ⟨hdb.kp0 kc, S2, hd.nn go, hd.nn ge, hd.nn gr, rfl, cu.oct⟩
      have rbc := ((rb.kp k3).kp kk3a).kp (kb.trans kc)
      have rtc := ((rt2.kp k3).kp kk3a).kp (kb.trans kc)
      have k0c := k0b.then0 kc
      have nb := nc_recs okb
      have nr_ := nc_recs okr
      have n2_ := nc_recs ok2
      obtain ⟨jxc, hjc⟩ := Wc.S.J.ins
      -- what it holds
      refine ⟨_, rfl, j2, jxc, _, rfl, hjc, lk_jrecords .., j2, d2, r2, _, rs2, _, rfl, Wc.S.J, fun Hd1 td kd rtd => ⟨td, _, rfl, dp_recs rtd, n2_.shw, n2_.r2, n2_.r3 (by decide), n2_.r4 (by decide), _, rfl, tb, _, rfl, dp_recs (rbc.kp kd), nb.shw, nb.r2, nb.r3 (by decide), nb.r4 (by decide), rfl, _, rfl, ?_⟩⟩
      rcases hrs with hrs | hrs
      · refine ifb (fun _ => ?_) (fun _ => ?_)
        · have Wd1 := Wc.kp0 kd
          obtain ⟨jxd, hjd⟩ := Wd1.S.J.ins
          refine ⟨_, rfl, j2, jxd, _, rfl, hjd, lk_jrecords .., j2, d2, r2, _, rs2, _, rfl, Wd1.S.J, fun He te2 ke rte => ⟨te2, _, rfl, dp_recs rte, n2_.shw, n2_.r2, n2_.r3 (by decide), n2_.r4 (by decide), _, rfl, tr, _, rfl, dp_recs ((rtc.kp kd).kp ke), nr_.shw, nr_.r2, nr_.r3 (by decide), nr_.r4 (by decide), rfl, _, rfl, ?_⟩⟩
          refine ifb (fun hb => absurd hb (by rw [hrs]; simp)) fun _ => ?_
          have kx := kd.trans ke
          have hrs : rs2 = rs ∨ rs2 = rs' := .inl hrs
          have Wx := Wc.kp0 kx
          obtain ⟨jxx, hjx⟩ := Wx.S.J.ins
          refine ⟨_, rfl, _, rfl, j2, jxx, _, rfl, hjx, lk_jrecords .., j2, d2, r2, _, rs2, _, rfl, Wx.S.J, fun Hy ty ky rty => ⟨_, rfl, ?_⟩⟩
          have rby := (rbc.kp kx).kp ky
          have rty2 := (rtc.kp kx).kp ky
          refine eqD_use n2_ nb (dp_recs rty) (dp_recs rby) (by decide) (by decide) ⟨_, rfl, ?_⟩
          rw [eqv_recs_iff ok2]
          have Wy := Wx.kp0 ky
          have ky0 := k0c.then0 (kx.trans ky)
          by_cases hE : rs2 = rs'
          · rw [decide_eq_true hE]
            refine iteT ⟨_, rfl, _, _, rfl, _, rfl, ?_⟩
            exact ⟨j2, d2, v, o2, e2, r2, tb, dd, dd, [], rs2, _, _, _, _, _, _, _, rfl, ky0, Wy, by rw [hE]; exact rby, gj, go, ge, gr, Nat.zero_le _⟩
          · rw [decide_eq_false hE]
            refine iteF ⟨_, rfl, _, _, rfl, _, rfl, ?_⟩
            exact ⟨j2, d2, v, o2, e2, r2, tr, dd, dd, [], rs2, _, _, _, _, _, _, _, rfl, ky0, Wy, by rw [hrs.resolve_right hE]; exact rty2, gj, go, ge, gr, Nat.zero_le _⟩
        · have kx := kd
          have hrs : rs2 = rs ∨ rs2 = rs' := .inl hrs
          refine iteF ?_
          have Wx := Wc.kp0 kx
          obtain ⟨jxx, hjx⟩ := Wx.S.J.ins
          refine ⟨_, rfl, _, rfl, j2, jxx, _, rfl, hjx, lk_jrecords .., j2, d2, r2, _, rs2, _, rfl, Wx.S.J, fun Hy ty ky rty => ⟨_, rfl, ?_⟩⟩
          have rby := (rbc.kp kx).kp ky
          have rty2 := (rtc.kp kx).kp ky
          refine eqD_use n2_ nb (dp_recs rty) (dp_recs rby) (by decide) (by decide) ⟨_, rfl, ?_⟩
          rw [eqv_recs_iff ok2]
          have Wy := Wx.kp0 ky
          have ky0 := k0c.then0 (kx.trans ky)
          by_cases hE : rs2 = rs'
          · rw [decide_eq_true hE]
            refine iteT ⟨_, rfl, _, _, rfl, _, rfl, ?_⟩
            exact ⟨j2, d2, v, o2, e2, r2, tb, dd, dd, [], rs2, _, _, _, _, _, _, _, rfl, ky0, Wy, by rw [hE]; exact rby, gj, go, ge, gr, Nat.zero_le _⟩
          · rw [decide_eq_false hE]
            refine iteF ⟨_, rfl, _, _, rfl, _, rfl, ?_⟩
            exact ⟨j2, d2, v, o2, e2, r2, tr, dd, dd, [], rs2, _, _, _, _, _, _, _, rfl, ky0, Wy, by rw [hrs.resolve_right hE]; exact rty2, gj, go, ge, gr, Nat.zero_le _⟩
      · refine ifb (fun hb => absurd hb (by rw [hrs]; simp)) fun _ => ?_
        have kx := kd
        have hrs : rs2 = rs ∨ rs2 = rs' := .inr hrs
        refine iteF ?_
        have Wx := Wc.kp0 kx
        obtain ⟨jxx, hjx⟩ := Wx.S.J.ins
        refine ⟨_, rfl, _, rfl, j2, jxx, _, rfl, hjx, lk_jrecords .., j2, d2, r2, _, rs2, _, rfl, Wx.S.J, fun Hy ty ky rty => ⟨_, rfl, ?_⟩⟩
        have rby := (rbc.kp kx).kp ky
        have rty2 := (rtc.kp kx).kp ky
        refine eqD_use n2_ nb (dp_recs rty) (dp_recs rby) (by decide) (by decide) ⟨_, rfl, ?_⟩
        rw [eqv_recs_iff ok2]
        have Wy := Wx.kp0 ky
        have ky0 := k0c.then0 (kx.trans ky)
        by_cases hE : rs2 = rs'
        · rw [decide_eq_true hE]
          refine iteT ⟨_, rfl, _, _, rfl, _, rfl, ?_⟩
          exact ⟨j2, d2, v, o2, e2, r2, tb, dd, dd, [], rs2, _, _, _, _, _, _, _, rfl, ky0, Wy, by rw [hE]; exact rby, gj, go, ge, gr, Nat.zero_le _⟩
        · rw [decide_eq_false hE]
          refine iteF ⟨_, rfl, _, _, rfl, _, rfl, ?_⟩
          exact ⟨j2, d2, v, o2, e2, r2, tr, dd, dd, [], rs2, _, _, _, _, _, _, _, rfl, ky0, Wy, by rw [hrs.resolve_right hE]; exact rty2, gj, go, ge, gr, Nat.zero_le _⟩
    · refine ⟨_, rfl, j, d, c, o, e, r', tb, cells, _, _, rs', _, _, _, _, _, _, _, rfl, k03, W3, rb.kp k3, fj, fo, fe, fr2, ?_⟩
      rw [lev]
      omega
  · obtain ⟨j, d, c, o, e, r, tr, cells, octs, evs, rs, a6, a7, a8, a9, a10, a11, a12, rfl, k, W, rt, fj, fo, fe, fr, el⟩ := z
    exact q H' k W.hd
end
end KJ
end

section
namespace KJ
open PySem PySem.Spec PyProof.Rows L2 KM
section
variable {P : Program} {w : World} {K : PySem.W.Frag} {mg : Str → Option Value} {base : Heap}
theorem roomJ_of {octs : List Int} {rs : List (List Int)} {k : Nat} (h : size rs + k ≤ (octs.length - 1) / 2) : roomJ octs rs k := by
  unfold roomJ
  rw [hs_succ]; omega
theorem roomR_of {octs : List Int} {ss : List (List Int)} (h : size ss ≤ (octs.length - 1) / 2) : roomR octs ss := by
  unfold roomR
  rw [hs_succ]; omega
theorem JS.nn {T : Tx P K mg} {H : Hp} {j d c o e r x : Addr} {cells octs : List Int} {evs : List Ev} {rs : List (List Int)} (S : JS T H j d c o e r cells octs evs rs) (nx : H x = none) : x ≠ j ∧ x ≠ d ∧ x ≠ o ∧ x ≠ e ∧ x ≠ r := by
  obtain ⟨dx, hd⟩ := S.D.ins
  obtain ⟨jx, hj⟩ := S.J.ins
  obtain ⟨xs, he, _⟩ := S.D.evl
  obtain ⟨ys, hr, _⟩ := S.J.lst
  have ho := S.D.oct
  exact ⟨(ne_of_none hj nx).symm, (ne_of_none hd nx).symm, (ne_of_none ho nx).symm, (ne_of_none he nx).symm, (ne_of_none hr nx).symm⟩
theorem rep_empty (n : Nat) : size (List.replicate n []) = 3 * n := by
  induction n with
  | zero => rfl
  | succ n ih => rw [List.replicate_succ, size_cons, ih]; simp; omega
theorem recs_rep {H : Hp} {t : Addr} {r : List Int} (h : H t = some (.tup (r.map V.int))) : ∀ n : Nat, RecsV H (List.replicate n (.ref t)) (List.replicate n r)
  | 0 => .nil
  | n + 1 => .cons ⟨t, rfl, h⟩ (recs_rep h n)
def sp_many_right (T : Tx P K mg) : Sp := fun vs H Q _ => vs = [] ∧ ∀ H', Kp [] H H' → Q (.bl true) H'
--N 0
theorem ok_many_right (T : Tx P K mg) : FnOk P w K mg base (L2.CX P w) 6 T.f_many_right T.d_many_right [] (sp_many_right T) := by
  refine T.F_many_right.ok (k := 5) sc_many_right (fun vs H Q E h => by obtain ⟨rfl, _⟩ := h; rfl) (fun cdv A outer s H vs Q E hr h => ?_)
  refine ⟨_, PSs.nox (pss_cons (ps_par (i := 0) (j := 1) rfl sc_many_right.nd rfl rfl (by decide) rfl rfl (pa_cons (pe_make T.mkJ (ok_Journal_init T) (hr.mono (by decide)) rfl T.gJ T.b_Journal_init .nil passL (pa_cons (pe_make T.mkD (ok_Disk_init T) (hr.mono (by decide)) rfl T.gD T.b_Disk_init .nil passL (pa_cons (pe_op op_rep1 (pe_tup (pa_cons pe_int pa_nil)) pe_int) pa_nil)) pa_nil)) (pa_cons (pe_make T.mkJ (ok_Journal_init T) (hr.mono (by decide)) rfl T.gJ T.b_Journal_init .nil passL (pa_cons (pe_make T.mkD (ok_Disk_init T) (hr.mono (by decide)) rfl T.gD T.b_Disk_init .nil passL (pa_cons (pe_op op_rep1 (pe_tup (pa_cons pe_int pa_nil)) pe_int) pa_nil)) pa_nil)) pa_nil)) (by rfl))
 (pss_cons (ps_expr (pe_meth (pv 0) T.clJ T.m_Journal_renew (ok_Journal_renew T) (hr.mono (by decide)) T.b_Journal_renew .nil passL (pa_cons (pe_op op_rep1 (pe_tup (pa_cons (pe_tup pa_nil) pa_nil)) pe_int) pa_nil)))
 (pss_cons (ps_for PassesOwn.never rfl (pi_range1 rfl T.n_range (pa_cons pe_int pa_nil)) (pg_name (i := 2) sc_many_right.nd rfl (Or.inl rfl))
 (pss_one (ps_expr (pe_meth (pv 1) T.clJ T.m_Journal_write (ok_Journal_write T) (hr.mono (by decide)) T.b_Journal_write .nil passL (pa_cons (pe_tup pa_nil) pa_nil)))))
 (pss_one (ps_ret (pe_and (pe_cmpR (op_eqD hr.units) (pe_meth0 (pv 0) T.clJ T.m_Journal_records (ok_Journal_records T) (hr.mono (by decide)) T.b_Journal_records .nil passL) (pe_op op_rep1 (pe_tup (pa_cons (pe_tup pa_nil) pa_nil)) pe_int) (nomark _)) (pe_one (pe_cmpR (op_eqD hr.units) (pe_meth0 (pv 1) T.clJ T.m_Journal_records (ok_Journal_records T) (hr.mono (by decide)) T.b_Journal_records .nil passL) (pe_op op_rep1 (pe_tup (pa_cons (pe_tup pa_nil) pa_nil)) pe_int) (nomark _))))))))), ?_⟩
  obtain ⟨rfl, q⟩ := h
  have lz : (List.replicate 400 (0 : Int)).length = 400 := List.length_replicate
  have z1 : 1 ≤ (List.replicate 400 (0 : Int)).length := by rw [lz]; decide
  have z2 : (List.replicate 400 (0 : Int)).length ≤ 20000 := by rw [lz]; decide
  have ez : List.replicate (400 : Int).toNat (V.int 0) = (List.replicate 400 (0 : Int)).map V.int := by rw [List.map_replicate]; rfl
  refine ⟨Nat.le_trans (show 1 ≤ 2 by decide) two_size, fun t nt => ?_⟩
  have k1 : Kp [] H (upd H t (.tup [.int 0])) := Kp.new nt
  have et : upd H t (.tup [.int 0]) t = some (.tup [.int 0]) := upd_same
  generalize upd H t (.tup [.int 0]) = H1 at k1 et ⊢
  try simp only [tC]
  refine rep_use (k := 400) et (by decide) (by decide) fun c H2 k2 ec => ?_
  rw [ez] at ec
  refine fun d dd nd ndd ned => disk_use nd ndd ned ec z1 z2 zero_oct fun H3 o e k3 no ne D => ⟨rfl, ?_⟩
  refine fun j dj nj ndj nej => jrn_use nj ndj nej D z1 z2 zero_oct zero_jp fun H4 r k4 nr J => ⟨rfl, ?_⟩
  have S4 := fresh_js D k4 nr J z1 z2 zero_oct zero_jp
  have k04 := ((k1.trans k2).trans k3).trans k4
  have fd := (k1.trans k2).fresh0 nd
  have fo := (k1.trans k2).fresh0 no
  have fe := (k1.trans k2).fresh0 ne
  have fj := ((k1.trans k2).trans k3).fresh0 nj
  have fr := ((k1.trans k2).trans k3).fresh0 nr
  refine ⟨Nat.le_trans (show 1 ≤ 2 by decide) two_size, fun t' nt' => ?_⟩
  have k5 : Kp [] H4 (upd H4 t' (.tup [.int 0])) := Kp.new nt'
  have et' : upd H4 t' (.tup [.int 0]) t' = some (.tup [.int 0]) := upd_same
  generalize upd H4 t' (.tup [.int 0]) = H5 at k5 et' ⊢
  try simp only [tC]
  refine rep_use (k := 400) et' (by decide) (by decide) fun c' H6 k6 ec' => ?_
  rw [ez] at ec'
  refine fun d' dd' nd' ndd' ned' => disk_use nd' ndd' ned' ec' z1 z2 zero_oct fun H7 o' e' k7 no' ne' D' => ⟨rfl, ?_⟩
  refine fun j' dj' nj' ndj' nej' => jrn_use nj' ndj' nej' D' z1 z2 zero_oct zero_jp fun H8 r' k8 nr' J' => ⟨rfl, ?_⟩
  have S8' := fresh_js D' k8 nr' J' z1 z2 zero_oct zero_jp
  have S6 := S4.kp0 (k5.trans k6)
  have S7 := S6.kp0 k7
  have S8 := S7.kp0 k8
  have k48 := ((k5.trans k6).trans k7).trans k8
  have k08 := k04.trans k48
  have md := S6.nn nd'
  have mo := S6.nn no'
  have me := S6.nn ne'
  have mj := S7.nn nj'
  have mr := S7.nn nr'
  have fo' := (k04.trans (k5.trans k6)).fresh0 no'
  have fe' := (k04.trans (k5.trans k6)).fresh0 ne'
  have fj' := (k04.trans ((k5.trans k6).trans k7)).fresh0 nj'
  have fr' := (k04.trans ((k5.trans k6).trans k7)).fresh0 nr'
  refine ⟨_, _, rfl, ?_⟩
  -- renew
  obtain ⟨jx, hj⟩ := S8.J.ins
  refine ⟨_, rfl, j, jx, _, rfl, hj, lk_renew .., Nat.zero_le _, fun u nu => ?_⟩
  have k9 : Kp [] H8 (upd H8 u (.tup [])) := Kp.new nu
  have eu : upd H8 u (.tup []) u = some (.tup []) := upd_same
  generalize upd H8 u (.tup []) = H9 at k9 eu ⊢
  refine ⟨Nat.le_trans (show 1 ≤ 2 by decide) two_size, fun w nw => ?_⟩
  have ka : Kp [] H9 (upd H9 w (.tup [.ref u])) := Kp.new nw
  have ew : upd H9 w (.tup [.ref u]) w = some (.tup [.ref u]) := upd_same
  generalize upd H9 w (.tup [.ref u]) = Ha at ka ew ⊢
  try simp only [tC]
  refine rep_use (k := 24) ew (by decide) (by decide) fun p Hb kb ep => ?_
  have k8b := (k9.trans ka).trans kb
  have eub := (ka.trans kb).t _ _ eu
  have rp : RecT Hb p (List.replicate 24 []) := ⟨_, ep, recs_rep (r := []) eub 24⟩
  have Sb := S8.kp0 k8b
  have Sb' := S8'.kp0 k8b
  have sz24 := rep_empty 24
  refine ⟨j, p, d, c, o, e, r, _, _, [], [], List.replicate 24 [], rfl, Sb, rp, fun y hy => ?_, by decide, by decide, fun room Hc E' r2 kc nr2 Sc sf el pe => ?_, fun room => absurd (roomR_of (by rw [lz, sz24]; decide)) room⟩
  · rw [(List.mem_replicate.mp hy).2]
    exact ⟨fun z hz => absurd hz (by simp), by decide⟩
  have m2 := Sb'.nn nr2
  have fr2 := (k08.trans k8b).fresh0 nr2
  have Sc' := Sb'.kp kc (by simp [mj.1, mj.2.2.1, mj.2.2.2.1]) (by simp [md.1, md.2.2.1, md.2.2.2.1]) (by simp [mo.1, mo.2.2.1, mo.2.2.2.1]) (by simp [me.1, me.2.2.1, me.2.2.2.1]) (by simp [mr.1, mr.2.2.1, mr.2.2.2.1])
  have k0c : Kp [] H Hc := (k08.trans k8b).then kc fun z hz => by
    simp only [List.mem_cons, List.not_mem_nil, or_false] at hz
    rcases hz with rfl | rfl | rfl
    · exact .inr fj
    · exact .inr fo
    · exact .inr fe
  generalize appl (List.replicate 400 0) E' = octs1 at Sc
  refine ⟨24, rfl, by decide, by decide, ?_⟩
  rw [show (24 : Int).toNat = 24 from rfl]
  refine for_range (lo := 0) (n := 24) (fun i σ H' => ∃ (octs' : List Int) (evs1 evs' : List Ev) (a2 : Option V), σ = [some (.ref j), some (.ref j'), a2] ∧ Kp [] H H' ∧ JS T H' j d c o e r2 (List.replicate 400 0) octs1 evs1 (List.replicate 24 []) ∧ JS T H' j' d' c' o' e' r' (List.replicate 400 0) octs' evs' (List.replicate i []) ∧ evs'.length ≤ i * 30)
    ⟨_, _, [], none, rfl, k0c, Sc, Sc', Nat.zero_le _⟩ (fun i σ H' hi z => ?_) fun σ H' z => ?_
  · obtain ⟨octs', evs1, evs', a2, rfl, k, S, S', le⟩ := z
    obtain ⟨jx', hj'⟩ := S'.J.ins
    refine ⟨_, rfl, j', jx', _, rfl, hj', lk_write .., Nat.zero_le _, fun v nv => ?_⟩
    have kd : Kp [] H' (upd H' v (.tup [])) := Kp.new nv
    have ev : upd H' v (.tup []) v = some (.tup []) := upd_same
    generalize upd H' v (.tup []) = Hd_ at kd ev ⊢
    have szi := rep_empty i
    have S2' := S'.kp0 kd
    have ln' := S'.D.ln
    refine ⟨j', v, d', c', o', e', r', _, octs', evs', _, [], rfl, S2', ev, fun z hz => absurd hz (by simp), by decide, by simp; omega, by rw [List.length_replicate]; omega, fun room He E2 ke Se sf2 el2 pe2 => ?_, fun room => absurd (roomJ_of (by rw [ln', lz, szi]; simp; omega)) room⟩
    have Sx := (S.kp0 kd).kp ke (by simp [mj.1.symm, mo.1.symm, me.1.symm, mr.1.symm]) (by simp [mj.2.1.symm, mo.2.1.symm, me.2.1.symm, mr.2.1.symm]) (by simp [mj.2.2.1.symm, mo.2.2.1.symm, me.2.2.1.symm, mr.2.2.1.symm]) (by simp [mj.2.2.2.1.symm, mo.2.2.2.1.symm, me.2.2.2.1.symm, mr.2.2.2.1.symm]) (by simp [m2.1, m2.2.2.1, m2.2.2.2.1, m2.2.2.2.2])
    refine ⟨_, evs1, _, _, rfl, (k.trans kd).then ke fun z hz => ?_, Sx, by rw [show List.replicate (i + 1) ([] : List Int) = List.replicate i [] ++ [[]] from List.replicate_succ']; exact Se, by rw [List.length_append]; simp at el2; omega⟩
    simp only [List.mem_cons, List.not_mem_nil, or_false] at hz
    rcases hz with rfl | rfl | rfl | rfl
    · exact .inr fj'
    · exact .inr fo'
    · exact .inr fe'
    · exact .inr fr'
  · obtain ⟨octs', evs1, evs', a2, rfl, k, S, S', le⟩ := z
    have okr : RsOk (List.replicate 24 []) := ⟨fun y hy x hx => by rw [(List.mem_replicate.mp hy).2] at hx; exact absurd hx (by simp), by rw [sz24]; decide⟩
    have nr := nc_recs okr
    obtain ⟨jx2, hj2⟩ := S.J.ins
    refine ⟨_, rfl, j, jx2, _, rfl, hj2, lk_jrecords .., j, d, r2, _, _, _, rfl, S.J, fun Hf t2 kf rt2 => ⟨Nat.zero_le _, fun u nu => ?_⟩⟩
    have kg : Kp [] Hf (upd Hf u (.tup [])) := Kp.new nu
    have eu2 : upd Hf u (.tup []) u = some (.tup []) := upd_same
    generalize upd Hf u (.tup []) = Hg at kg eu2 ⊢
    refine ⟨Nat.le_trans (show 1 ≤ 2 by decide) two_size, fun w nw => ?_⟩
    have kh : Kp [] Hg (upd Hg w (.tup [.ref u])) := Kp.new nw
    have ew2 : upd Hg w (.tup [.ref u]) w = some (.tup [.ref u]) := upd_same
    generalize upd Hg w (.tup [.ref u]) = Hh at kh ew2 ⊢
    try simp only [tC]
    refine rep_use (k := 24) ew2 (by decide) (by decide) fun p2 Hi ki ep2 => ?_
    have rp2 : RecT Hi p2 (List.replicate 24 []) := ⟨_, ep2, recs_rep (r := []) ((kh.trans ki).t _ _ eu2) 24⟩
    have kgi := (kg.trans kh).trans ki
    refine eqD_use nr nr (dp_recs (rt2.kp kgi)) (dp_recs rp2) (by decide) (by decide) ⟨_, rfl, ?_⟩
    rw [eqv_self nr]
    have Si := (S'.kp0 kf).kp0 kgi
    obtain ⟨jx3, hj3⟩ := Si.J.ins
    refine iteT ⟨_, rfl, j', jx3, _, rfl, hj3, lk_jrecords .., j', d', r', _, _, _, rfl, Si.J, fun Hk t3 kk rt3 => ⟨Nat.zero_le _, fun u3 nu3 => ?_⟩⟩
    have kl : Kp [] Hk (upd Hk u3 (.tup [])) := Kp.new nu3
    have eu3 : upd Hk u3 (.tup []) u3 = some (.tup []) := upd_same
    generalize upd Hk u3 (.tup []) = Hl at kl eu3 ⊢
    refine ⟨Nat.le_trans (show 1 ≤ 2 by decide) two_size, fun w3 nw3 => ?_⟩
    have km : Kp [] Hl (upd Hl w3 (.tup [.ref u3])) := Kp.new nw3
    have ew3 : upd Hl w3 (.tup [.ref u3]) w3 = some (.tup [.ref u3]) := upd_same
    generalize upd Hl w3 (.tup [.ref u3]) = Hm at km ew3 ⊢
    try simp only [tC]
    refine rep_use (k := 24) ew3 (by decide) (by decide) fun p3 Hn kn ep3 => ?_
    have rp3 : RecT Hn p3 (List.replicate 24 []) := ⟨_, ep3, recs_rep (r := []) ((km.trans kn).t _ _ eu3) 24⟩
    refine eqD_use nr nr (dp_recs (rt3.kp ((kl.trans km).trans kn))) (dp_recs rp3) (by decide) (by decide) ?_
    rw [eqv_self nr]
    exact q Hn ((((k.trans kf).trans kgi).trans kk).trans ((kl.trans km).trans kn))
end
end KJ
end

section
namespace KJ
open PySem PySem.Spec PyProof.Rows L2 KM
section
variable {P : Program} {w : World} {K : PySem.W.Frag} {mg : Str → Option Value} {base : Heap}
/-- what can't be the cells of a disk -/
def Odd (H : Hp) (L A : Addr) (v : V) : Prop := v = .non ∨ (∃ n, v = .int n) ∨ (∃ x, v = .str x) ∨ (∃ a xs, v = .ref a ∧ H a = some (.lst xs) ∧ a ≠ L ∧ a ≠ A) ∨ (∃ a, v = .ref a ∧ H a = some (.dK []) ∧ a ≠ L ∧ a ≠ A) ∨
  ∃ c xs bs, v = .ref c ∧ H c = some (.tup xs) ∧ Paired (CV H) xs bs ∧ (¬ (1 ≤ xs.length ∧ xs.length ≤ 20000) ∨ bs.all id = false)
theorem Odd.kp {H H' : Hp} {L A : Addr} {v : V} (k : Kp [L, A] H H') (h : Odd H L A v) : Odd H' L A v := by
  rcases h with h | h | h | ⟨a, xs, e1, e2, n1, n2⟩ | ⟨a, e1, e2, n1, n2⟩ | ⟨c, xs, bs, e1, e2, e3, e4⟩
  · exact .inl h
  · exact .inr (.inl h)
  · exact .inr (.inr (.inl h))
  · exact .inr (.inr (.inr (.inl ⟨a, xs, e1, k.k _ _ e2 (by simp [n1, n2]), n1, n2⟩)))
  · exact .inr (.inr (.inr (.inr (.inl ⟨a, e1, k.k _ _ e2 (by simp [n1, n2]), n1, n2⟩))))
  · exact .inr (.inr (.inr (.inr (.inr ⟨c, xs, bs, e1, k.t _ _ e2, pmap e3 fun _ _ z => z.kp k, e4⟩))))
theorem Odd.bad {T : Tx P K mg} {H : Hp} {L A : Addr} {v : V} (h : Odd H L A v) : BadC T H v := by
  rcases h with rfl | ⟨n, rfl⟩ | ⟨x, rfl⟩ | ⟨a, xs, rfl, e2, n1, n2⟩ | ⟨a, rfl, e2, n1, n2⟩ | ⟨c, xs, bs, e1, e2, e3, e4⟩
  · exact .inl ⟨"NoneType", .base .non, kit_ty (by decide +kernel)⟩
  · exact .inl ⟨"int", .base (.int _), kit_ty (by decide +kernel)⟩
  · exact .inl ⟨"str", .base (.str _), kit_ty (by decide +kernel)⟩
  · exact .inl ⟨"list", .base (.lst e2), kit_ty (by decide +kernel)⟩
  · exact .inl ⟨"dict", .base (.dK e2), kit_ty (by decide +kernel)⟩
  · exact .inr ⟨c, xs, bs, e1, e2, e3, e4⟩
theorem Odd.add {H H' : Hp} {L A : Addr} {l : List V} {v : V} (h : ∀ x ∈ l, Odd H L A x) (k : Kp [] H H') (hv : Odd H' L A v) : ∀ x ∈ l ++ [v], Odd H' L A x := fun x hx => by
  rcases List.mem_append.mp hx with z | z
  · exact (h x z).kp (kLA k)
  · rw [List.mem_singleton.mp z]; exact hv
theorem ci {H : Hp} (n : Int) : CV H (.int n) (decide (0 ≤ n) && decide (n < 256)) := .inl ⟨n, rfl, rfl⟩
theorem cz {H : Hp} {v : V} (h : v = .non ∨ (∃ k, v = .bl k) ∨ (∃ x, v = .str x) ∨ ∃ a xs, v = .ref a ∧ H a = some (.tup xs)) : CV H v false := .inr ⟨rfl, h⟩
theorem Odd.tup {H : Hp} {L A c : Addr} {xs : List V} {bs : List Bool} (e : H c = some (.tup xs)) (p : Paired (CV H) xs bs) (h : bs.all id = false) : Odd H L A (.ref c) := .inr (.inr (.inr (.inr (.inr ⟨c, xs, bs, rfl, e, p, .inr h⟩))))
theorem sz {n : Nat} (h : n ≤ 16000000) : n ≤ sizeLine := by rw [sizeLine_eq]; omega
def sp_odds_right (T : Tx P K mg) : Sp := fun vs H Q _ => ∃ (L : Addr), vs = [.ref L] ∧ ∃ A, Hd H L A ∧ ∀ H', Kp [L, A] H H' → Hd H' L A → Q (.bl true) H'
--N 1
theorem ok_odds_right (T : Tx P K mg) : FnOk P w K mg base (L2.CX P w) 6 T.f_odds_right T.d_odds_right ["_law_heap_here"] (sp_odds_right T) := by
  refine T.F_odds_right.ok (k := 5) sc_odds_right (fun vs H Q E h => by obtain ⟨_, rfl, _⟩ := h; rfl) (fun cdv A outer s H vs Q E hr h => ?_)
  refine ⟨_, PSs.nox (pss_cons (ps_set (i := 1) sc_odds_right.nd rfl (Or.inl rfl) (pe_lst (pa_cons (pe_tup pa_nil) (pa_cons (pe_lst (pa_cons pe_int pa_nil)) (pa_cons (pe_tup (pa_cons pe_int pa_nil)) (pa_cons (pe_tup (pa_cons pe_int (pa_cons (pe_un un_neg pe_int) pa_nil))) (pa_cons (pe_tup (pa_cons pe_bl pa_nil)) (pa_cons (pe_tup (pa_cons pe_int (pa_cons pe_bl pa_nil))) (pa_cons (pe_tup (pa_cons pe_non pa_nil)) (pa_cons (pe_tup (pa_cons pe_str pa_nil)) (pa_cons (pe_tup (pa_cons pe_int (pa_cons (pe_tup (pa_cons pe_int pa_nil)) pa_nil))) (pa_cons pe_non (pa_cons pe_int (pa_cons pe_str (pa_cons pe_dnewK (pa_cons (pe_tup (pa_cons pe_int (pa_cons pe_int (pa_cons pe_int pa_nil)))) pa_nil))))))))))))))))
 (pss_cons (ps_if (pt_cmpR op_eq (pe_call (ok_draw T) (hr.mono (by decide)) rfl T.g_draw T.F_draw.kp T.b_draw .nil passL (pa_cons (pv 0) (pa_cons pe_int pa_nil))) pe_int (nomark _))
 (pss_one (ps_set (i := 1) sc_odds_right.nd rfl (Or.inl rfl) (pe_lst (pa_cons (pe_op op_rep1 (pe_tup (pa_cons pe_int pa_nil)) pe_int) pa_nil))))
 pss_nil)
 (pss_one (ps_try_as (i := 2) rfl rfl sc_odds_right.nd rfl rfl ⟨rfl, by decide, .inl T.gM⟩ takes0 (fun W pn xe tk hpo =>
 (pss_cons (ps_expr (pe_make T.mkD (ok_Disk_init T) (hr.mono (by decide)) rfl T.gD T.b_Disk_init .nil (passesN tk 3) (pa_cons (pe_call (ok_pick T) (hr.mono (by decide)) rfl T.g_pick T.F_pick.kp T.b_pick .nil passL (pa_cons (pv 0) (pa_cons (pv 1) pa_nil))) pa_nil)))
 (pss_one (ps_ret pe_bl))))
 (fun a oe cls d pn hz hf =>
 (pss_one (ps_ret (pe_and (pe_callB (call_isE hz hf) rfl T.n_isinstance (by decide +kernel) (pa_cons (pv 2) (pa_cons (pe_glob (v := .ref T.CR) rfl T.gR rfl) pa_nil))) (pe_and (pe_not (pe_callB (call_isE hz hf) rfl T.n_isinstance (by decide +kernel) (pa_cons (pv 2) (pa_cons (pe_glob (v := .ref T.CN) rfl T.gN rfl) pa_nil)))) (pe_one (pe_cmpR op_eq (pe_xf T.eR.fc T.eR.T.noN hz hf (pv 2)) pe_str (nomark _)))))))))))), ?_⟩
  obtain ⟨L, rfl, A, hd, q⟩ := h
  have o0 : ∀ x ∈ ([] : List V), Odd H L A x := fun x hx => absurd hx (by simp)
  have h0 : Kp [] H H := .refl
  refine ⟨Nat.zero_le _, fun p00 np00 => ?_⟩
  have k00 : Kp [] H (upd H p00 (.tup [])) := Kp.new np00
  have e00 : upd H p00 (.tup []) p00 = some (.tup []) := upd_same
  generalize upd H p00 (.tup []) = H1 at k00 e00 ⊢
  have o00' := Odd.add o0 k00 (.inr (.inr (.inr (.inr (.inr ⟨p00, [], [], rfl, e00, .nil, .inl (by decide)⟩)))))
  have h00 := h0.trans k00
  refine ⟨sz (by simp), fun p1 np1 => ?_⟩
  have k1 : Kp [] H1 (upd H1 p1 (.lst [.int 0])) := Kp.new np1
  have e1 : upd H1 p1 (.lst [.int 0]) p1 = some (.lst [.int 0]) := upd_same
  generalize upd H1 p1 (.lst [.int 0]) = H2 at k1 e1 ⊢
  have o1' := Odd.add o00' k1 (.inr (.inr (.inr (.inl ⟨p1, _, rfl, e1, (hd.kp0 h00).nn np1⟩))))
  have h1 := h00.trans k1
  refine ⟨sz (by simp), fun p2 np2 => ?_⟩
  have k2 : Kp [] H2 (upd H2 p2 (.tup [.int 256])) := Kp.new np2
  have e2 : upd H2 p2 (.tup [.int 256]) p2 = some (.tup [.int 256]) := upd_same
  generalize upd H2 p2 (.tup [.int 256]) = H3 at k2 e2 ⊢
  have o2' := Odd.add o1' k2 (.tup e2 (.cons (ci 256) .nil) (by decide))
  have h2 := h1.trans k2
  refine ⟨_, rfl, sz (by simp), fun p3 np3 => ?_⟩
  have k3 : Kp [] H3 (upd H3 p3 (.tup [.int 0, .int (-1)])) := Kp.new np3
  have e3 : upd H3 p3 (.tup [.int 0, .int (-1)]) p3 = some (.tup [.int 0, .int (-1)]) := upd_same
  generalize upd H3 p3 (.tup [.int 0, .int (-1)]) = H4 at k3 e3 ⊢
  have o3' := Odd.add o2' k3 (.tup e3 (.cons (ci 0) (.cons (ci (-1)) .nil)) (by decide))
  have h3 := h2.trans k3
  refine ⟨sz (by simp), fun p4 np4 => ?_⟩
  have k4 : Kp [] H4 (upd H4 p4 (.tup [.bl true])) := Kp.new np4
  have e4 : upd H4 p4 (.tup [.bl true]) p4 = some (.tup [.bl true]) := upd_same
  generalize upd H4 p4 (.tup [.bl true]) = H5 at k4 e4 ⊢
  have o4' := Odd.add o3' k4 (.tup e4 (.cons (cz (.inr (.inl ⟨_, rfl⟩))) .nil) rfl)
  have h4 := h3.trans k4
  refine ⟨sz (by simp), fun p5 np5 => ?_⟩
  have k5 : Kp [] H5 (upd H5 p5 (.tup [.int 0, .bl false])) := Kp.new np5
  have e5 : upd H5 p5 (.tup [.int 0, .bl false]) p5 = some (.tup [.int 0, .bl false]) := upd_same
  generalize upd H5 p5 (.tup [.int 0, .bl false]) = H6 at k5 e5 ⊢
  have o5' := Odd.add o4' k5 (.tup e5 (.cons (ci 0) (.cons (cz (.inr (.inl ⟨_, rfl⟩))) .nil)) (by decide))
  have h5 := h4.trans k5
  refine ⟨sz (by simp), fun p6 np6 => ?_⟩
  have k6 : Kp [] H6 (upd H6 p6 (.tup [.non])) := Kp.new np6
  have e6 : upd H6 p6 (.tup [.non]) p6 = some (.tup [.non]) := upd_same
  generalize upd H6 p6 (.tup [.non]) = H7 at k6 e6 ⊢
  have o6' := Odd.add o5' k6 (.tup e6 (.cons (cz (.inl rfl)) .nil) rfl)
  have h6 := h5.trans k6
  refine ⟨sz (by simp), fun p7 np7 => ?_⟩
  have k7 : Kp [] H7 (upd H7 p7 (.tup [.str "0"])) := Kp.new np7
  have e7 : upd H7 p7 (.tup [.str "0"]) p7 = some (.tup [.str "0"]) := upd_same
  generalize upd H7 p7 (.tup [.str "0"]) = H8 at k7 e7 ⊢
  have o7' := Odd.add o6' k7 (.tup e7 (.cons (cz (.inr (.inr (.inl ⟨_, rfl⟩)))) .nil) rfl)
  have h7 := h6.trans k7
  refine ⟨sz (by simp), fun p8 np8 => ?_⟩
  have k8 : Kp [] H8 (upd H8 p8 (.tup [.int 0])) := Kp.new np8
  have e8 : upd H8 p8 (.tup [.int 0]) p8 = some (.tup [.int 0]) := upd_same
  generalize upd H8 p8 (.tup [.int 0]) = H9 at k8 e8 ⊢
  have h8 := h7.trans k8
  refine ⟨sz (by simp), fun p9 np9 => ?_⟩
  have k9 : Kp [] H9 (upd H9 p9 (.tup [.int 0, .ref p8])) := Kp.new np9
  have e9 : upd H9 p9 (.tup [.int 0, .ref p8]) p9 = some (.tup [.int 0, .ref p8]) := upd_same
  generalize upd H9 p9 (.tup [.int 0, .ref p8]) = H10 at k9 e9 ⊢
  have o9' := Odd.add (fun x hx => (o7' x hx).kp (kLA k8)) k9 (.tup e9 (.cons (ci 0) (.cons (cz (.inr (.inr (.inr ⟨p8, _, rfl, k9.t _ _ e8⟩)))) .nil)) (by decide))
  have h9 := h8.trans k9
  refine fun p10 np10 => ?_
  have k10 : Kp [] H10 (upd H10 p10 (.dK [])) := Kp.new np10
  have e10 : upd H10 p10 (.dK []) p10 = some (.dK []) := upd_same
  generalize upd H10 p10 (.dK []) = H11 at k10 e10 ⊢
  have o10' := Odd.add (Odd.add (Odd.add (Odd.add o9' .refl (.inl rfl)) .refl (.inr (.inl ⟨5, rfl⟩))) .refl (.inr (.inr (.inl ⟨"00", rfl⟩)))) k10 (.inr (.inr (.inr (.inr (.inl ⟨p10, rfl, e10, (hd.kp0 h9).nn np10⟩)))))
  have h10 := h9.trans k10
  refine ⟨sz (by simp), fun p11 np11 => ?_⟩
  have k11 : Kp [] H11 (upd H11 p11 (.tup [.int 3, .int 4, .int 300])) := Kp.new np11
  have e11 : upd H11 p11 (.tup [.int 3, .int 4, .int 300]) p11 = some (.tup [.int 3, .int 4, .int 300]) := upd_same
  generalize upd H11 p11 (.tup [.int 3, .int 4, .int 300]) = H12 at k11 e11 ⊢
  have o11' := Odd.add o10' k11 (.tup e11 (.cons (ci 3) (.cons (ci 4) (.cons (ci 300) .nil))) (by decide))
  have h11 := h10.trans k11
  refine ⟨sz (by simp), fun sx nsx => ?_⟩
  have k20 : Kp [] H12 (upd H12 sx (.lst [.ref p00, .ref p1, .ref p2, .ref p3, .ref p4, .ref p5, .ref p6, .ref p7, .ref p9, .non, .int 5, .str "00", .ref p10, .ref p11])) := Kp.new nsx
  have es : upd H12 sx (.lst [.ref p00, .ref p1, .ref p2, .ref p3, .ref p4, .ref p5, .ref p6, .ref p7, .ref p9, .non, .int 5, .str "00", .ref p10, .ref p11]) sx = some (.lst [.ref p00, .ref p1, .ref p2, .ref p3, .ref p4, .ref p5, .ref p6, .ref p7, .ref p9, .non, .int 5, .str "00", .ref p10, .ref p11]) := upd_same
  generalize upd H12 sx (.lst [.ref p00, .ref p1, .ref p2, .ref p3, .ref p4, .ref p5, .ref p6, .ref p7, .ref p9, .non, .int 5, .str "00", .ref p10, .ref p11]) = H20 at k20 es ⊢
  have oo : ∀ x ∈ ([.ref p00, .ref p1, .ref p2, .ref p3, .ref p4, .ref p5, .ref p6, .ref p7, .ref p9, .non, .int 5, .str "00", .ref p10, .ref p11] : List V), Odd H20 L A x := fun x hx => (o11' x hx).kp (kLA k20)
  have h20 := h11.trans k20
  have nns := (hd.kp0 h11).nn nsx
  have hd20 := hd.kp0 h20
  refine ⟨_, rfl, L, 20, rfl, A, hd20, by decide, by decide, fun H21 m k21 hd21 hm => ⟨rfl, _, rfl, ?_⟩⟩
  have h21 := (kLA (L := L) (A := A) h20).trans k21
  have es21 := k21.k _ _ es (by simp [nns])
  have oo21 : ∀ x ∈ ([.ref p00, .ref p1, .ref p2, .ref p3, .ref p4, .ref p5, .ref p6, .ref p7, .ref p9, .non, .int 5, .str "00", .ref p10, .ref p11] : List V), Odd H21 L A x := fun x hx => (oo x hx).kp k21
  have lo1 : 1 ≤ ([.ref p00, .ref p1, .ref p2, .ref p3, .ref p4, .ref p5, .ref p6, .ref p7, .ref p9, .non, .int 5, .str "00", .ref p10, .ref p11] : List V).length := by show 1 ≤ 14; decide
  have lo2 : ([.ref p00, .ref p1, .ref p2, .ref p3, .ref p4, .ref p5, .ref p6, .ref p7, .ref p9, .non, .int 5, .str "00", .ref p10, .ref p11] : List V).length < 1073741824 := by show 14 < 1073741824; decide
  generalize ([.ref p00, .ref p1, .ref p2, .ref p3, .ref p4, .ref p5, .ref p6, .ref p7, .ref p9, .non, .int 5, .str "00", .ref p10, .ref p11] : List V) = odds at *
  refine ifb (fun _ => ?_) (fun _ => ?_)
  · refine ⟨sz (by simp), fun t nt => ?_⟩
    have k22 : Kp [] H21 (upd H21 t (.tup [.int 1])) := Kp.new nt
    have et : upd H21 t (.tup [.int 1]) t = some (.tup [.int 1]) := upd_same
    generalize upd H21 t (.tup [.int 1]) = H22 at k22 et ⊢
    try simp only [tC]
    refine rep_use (k := 20001) et (by decide) (by decide) fun c H23 k23 ec => ?_
    refine ⟨sz (by simp), fun sx nsx => ?_⟩
    have k24 : Kp [] H23 (upd H23 sx (.lst [.ref c])) := Kp.new nsx
    have esx : upd H23 sx (.lst [.ref c]) sx = some (.lst [.ref c]) := upd_same
    generalize upd H23 sx (.lst [.ref c]) = H24 at k24 esx ⊢
    have k4 := (k22.trans k23).trans k24
    have hdx := hd21.kp0 k4
    have hx0 := h21.trans (kLA (L := L) (A := A) k4)
    have nn := (hd21.kp0 (k22.trans k23)).nn nsx
    have nx1 := nn.1
    have nx2 := nn.2
    have lx1 : 1 ≤ ([V.ref c] : List V).length := by show 1 ≤ 1; decide
    have lx2 : ([V.ref c] : List V).length < 1073741824 := by show 1 < 1073741824; decide
    have er : List.replicate (20001 : Int).toNat (V.int 1) = (List.replicate 20001 (1 : Int)).map V.int := by rw [List.map_replicate]; rfl
    rw [er] at ec
    have lr : ((List.replicate 20001 (1 : Int)).map V.int).length = 20001 := by rw [List.length_map, List.length_replicate]
    have o1 : ∀ x ∈ List.replicate 20001 (1 : Int), Oct x := fun x hx => by rw [(List.mem_replicate.mp hx).2]; exact oct01.2
    have oox : ∀ x ∈ ([V.ref c] : List V), Odd H24 L A x := fun x hx => by
      rw [List.mem_singleton.mp hx]
      exact .inr (.inr (.inr (.inr (.inr ⟨c, _, _, rfl, k24.t _ _ ec, octs_cv o1, .inl fun z => by rw [lr] at z; omega⟩))))
    clear er ec lr o1
    refine ⟨_, rfl, _, rfl, ?_⟩
    refine ⟨L, sx, _, rfl, A, hdx, esx, lx1, lx2, nx1, nx2, fun H' x k' hd' hx => ?_⟩
    have ox := (oox x hx).kp k'
    refine fun d dd nd ndd ned => ?_
    have km := made_kp (C := T.CD) (fs := []) nd ndd ned
    refine ⟨d, dd, x, rfl, upd_same, .inr ⟨(ox.kp (kLA km)).bad, fun H'' d' k'' nd'' ed σ hσ => ⟨true, T.eR.te, fun _ a na => ?_, fun z => nomatch z⟩⟩⟩
    have g2 : (σ.set 2 (some (.ref a)))[2]? = some (some (.ref a)) := List.getElem?_set_self (by omega)
    refine ⟨_, g2, T.CR, d', rfl, rfl, T.eR.is, T.CR, true, _, rfl, ed, T.kRR, _, rfl, iteT ?_⟩
    refine ⟨_, g2, T.CR, d', rfl, rfl, T.eR.is, T.CN, false, _, rfl, ed, T.kRN, _, rfl, _, rfl, iteT ?_⟩
    refine ⟨_, g2, rfl, rfl, d', _, .str "cells", rfl, ed, by simp [List.lookup], rfl, ?_⟩
    have e1 : decide (V.str "cells" = V.str "cells") = true := by simp
    show Q (.bl (decide (V.str "cells" = V.str "cells"))) H''
    rw [e1]
    exact q H'' ((hx0.trans k').trans (kLA (km.trans k''))) (hd'.kp0 (km.trans k''))
  · have hdx := hd21
    have hx0 := h21
    have esx := es21
    have nx1 := nns.1
    have nx2 := nns.2
    have oox := oo21
    refine ⟨_, rfl, _, rfl, ?_⟩
    have lx1 := lo1
    have lx2 := lo2
    refine ⟨L, sx, _, rfl, A, hdx, esx, lx1, lx2, nx1, nx2, fun H' x k' hd' hx => ?_⟩
    have ox := (oox x hx).kp k'
    refine fun d dd nd ndd ned => ?_
    have km := made_kp (C := T.CD) (fs := []) nd ndd ned
    refine ⟨d, dd, x, rfl, upd_same, .inr ⟨(ox.kp (kLA km)).bad, fun H'' d' k'' nd'' ed σ hσ => ⟨true, T.eR.te, fun _ a na => ?_, fun z => nomatch z⟩⟩⟩
    have g2 : (σ.set 2 (some (.ref a)))[2]? = some (some (.ref a)) := List.getElem?_set_self (by omega)
    refine ⟨_, g2, T.CR, d', rfl, rfl, T.eR.is, T.CR, true, _, rfl, ed, T.kRR, _, rfl, iteT ?_⟩
    refine ⟨_, g2, T.CR, d', rfl, rfl, T.eR.is, T.CN, false, _, rfl, ed, T.kRN, _, rfl, _, rfl, iteT ?_⟩
    refine ⟨_, g2, rfl, rfl, d', _, .str "cells", rfl, ed, by simp [List.lookup], rfl, ?_⟩
    have e1 : decide (V.str "cells" = V.str "cells") = true := by simp
    show Q (.bl (decide (V.str "cells" = V.str "cells"))) H''
    rw [e1]
    exact q H'' ((hx0.trans k').trans (kLA (km.trans k''))) (hd'.kp0 (km.trans k''))
end
end KJ
end

section
namespace KJ
open PySem PySem.Spec PyProof.Rows L2 KM
section
variable {P : Program} {w : World} {K : PySem.W.Frag} {mg : Str → Option Value} {base : Heap}
def sp_strange_right (T : Tx P K mg) : Sp := fun vs H Q _ => ∃ (L : Addr), vs = [.ref L] ∧ ∃ A, Hd H L A ∧ ∀ H', Kp [L, A] H H' → Hd H' L A → Q (.bl true) H'
--N 1
theorem ok_strange_right (T : Tx P K mg) : FnOk P w K mg base (L2.CX P w) 6 T.f_strange_right T.d_strange_right ["_law_heap_here"] (sp_strange_right T) := by
  refine T.F_strange_right.ok (k := 5) sc_strange_right (fun vs H Q E h => by obtain ⟨_, rfl, _⟩ := h; rfl) (fun cdv A outer s H vs Q E hr h => ?_)
  refine ⟨_, PSs.nox (pss_cons (ps_set (i := 1) sc_strange_right.nd rfl (Or.inl rfl) (pe_callTy call_tuple_of rfl T.n_tuple (by decide +kernel) (pa_cons (pe_lc (own := [("_law_at", 2)]) (g := gName 2) (tt := tYes) rfl sc_strange_right.nd (pi_range1 rfl T.n_range (pa_cons (pe_op op_add pe_int (pe_call (ok_draw T) (hr.mono (by decide)) rfl T.g_draw T.F_draw.kp T.b_draw .nil passL (pa_cons (pv 0) (pa_cons pe_int pa_nil)))) pa_nil)) (blkOk_by (own := [("_law_at", 2)]) (N := ["_law_heap_here", "_law_cells", "_law_at", "_law_journal", "error", "_law_records", "_law_record_here"]) (sc := defScope s_strange_right) (by decide +kernel)) (fun _ _ _ _ _ => pg_name (i := 2) sc_strange_right.nd rfl (Or.inl rfl)) (fun _ _ _ _ _ => pts_nil) (fun _ _ _ _ _ => (pe_call (ok_pick T) (hr.mono (by decide)) rfl T.g_pick T.F_pick.kp T.b_pick .nil passL (pa_cons (pv 0) (pa_cons (pe_lst (pa_cons pe_int (pa_cons pe_int (pa_cons pe_int (pa_cons (pe_call (ok_octet T) (hr.mono (by decide)) rfl T.g_octet T.F_octet.kp T.b_octet .nil passL (pa_cons (pv 0) pa_nil)) pa_nil))))) pa_nil))))) pa_nil)))
 (pss_cons (ps_try_as (i := 4) rfl rfl sc_strange_right.nd rfl rfl ⟨rfl, by decide, .inl T.gM⟩ takes0 (fun W pn xe tk hpo =>
 (pss_one (ps_set (i := 3) sc_strange_right.nd rfl (Or.inl rfl) (pe_make T.mkJ (ok_Journal_init T) (hr.mono (by decide)) rfl T.gJ T.b_Journal_init .nil (passesN tk 7) (pa_cons (pe_make T.mkD (ok_Disk_init T) (hr.mono (by decide)) rfl T.gD T.b_Disk_init .nil (passesN tk 7) (pa_cons (pv 1) pa_nil)) pa_nil)))))
 (fun a oe cls d pn hz hf =>
 (pss_one (ps_ret (pe_and (pe_callB (call_isE hz hf) rfl T.n_isinstance (by decide +kernel) (pa_cons (pv 4) (pa_cons (pe_glob (v := .ref T.CB) rfl T.gB rfl) pa_nil))) (pe_and (pe_not (pe_callB (call_isE hz hf) rfl T.n_isinstance (by decide +kernel) (pa_cons (pv 4) (pa_cons (pe_glob (v := .ref T.CR) rfl T.gR rfl) pa_nil)))) (pe_one (pe_cmpR op_eq (pe_xf T.eB.fc T.eB.T.noN hz hf (pv 4)) pe_str (nomark _)))))))))
 (pss_cons (ps_set (i := 5) sc_strange_right.nd rfl (Or.inl rfl) (pe_meth0 (pv 3) T.clJ T.m_Journal_records (ok_Journal_records T) (hr.mono (by decide)) T.b_Journal_records .nil passL))
 (pss_one (ps_ret (pe_and (pe_callB call_isi rfl T.n_isinstance (by decide +kernel) (pa_cons (pv 5) (pa_cons (pe_bltn (v := .ty "tuple") rfl T.n_tuple (by decide +kernel) rfl) pa_nil))) (pe_one (pe_callB (cr_all rfl) rfl T.n_all (by decide +kernel) (pa_cons (pe_lc (own := [("_law_record_here", 6)]) (g := gName 6) (tt := tYes) rfl sc_strange_right.nd (pi_tup (pv 5)) (blkOk_by (own := [("_law_record_here", 6)]) (N := ["_law_heap_here", "_law_cells", "_law_at", "_law_journal", "error", "_law_records", "_law_record_here"]) (sc := defScope s_strange_right) (by decide +kernel)) (fun _ _ _ _ _ => pg_name (i := 6) sc_strange_right.nd rfl (Or.inl rfl)) (fun _ _ _ _ _ => pts_nil) (fun _ _ _ _ _ => (pe_callB (r := rIsi K) call_isi rfl T.n_isinstance (by decide +kernel) (pa_cons (pv 6) (pa_cons (pe_bltn (v := .ty "tuple") rfl T.n_tuple (by decide +kernel) rfl) pa_nil))))) pa_nil))))))))), ?_⟩
  obtain ⟨L, rfl, A, hd, q⟩ := h
  refine ⟨_, rfl, L, 24, rfl, A, hd, by decide, by decide, fun H1 m k1 hd1 hm => ?_⟩
  refine ⟨_, _, rfl, rfl, _, rfl, by omega, by omega, fun D nD => ?_⟩
  have en : (1 + ((m : Nat) : Int)).toNat = m + 1 := by omega
  rw [en]
  have nd := hd1.nn nD
  refine lc_range (lo := 0) (n := m + 1) (fun i H' => Kp [L, A] H1 H' ∧ Hd H' L A ∧ ∃ r : List Int, H' D = some (.lst (r.map V.int)) ∧ r.length = i ∧ ∀ y ∈ r, Oct y) ⟨Kp.new nD, hd1.kp (Kp.new nD (S := [])) (by simp) (by simp), [], upd_same, rfl, fun y hy => absurd hy (by simp)⟩ (fun i H' hi z => ?_) fun H2 z => ?_
  · obtain ⟨kz, hz, r, eD, lr, ho⟩ := z
    refine ⟨rfl, _, rfl, _, rfl, L, rfl, A, hz, fun H3 y k3 hd3 oy => ⟨sz (by simp), fun s ns => ?_⟩⟩
    have k4 : Kp [] H3 (upd H3 s (.lst [.int 0, .int 0, .int 1, .int y])) := Kp.new ns
    have es : upd H3 s (.lst [.int 0, .int 0, .int 1, .int y]) s = some (.lst [.int 0, .int 0, .int 1, .int y]) := upd_same
    generalize upd H3 s (.lst [.int 0, .int 0, .int 1, .int y]) = H4 at k4 es ⊢
    have nns := hd3.nn ns
    refine ⟨L, s, _, rfl, A, hd3.kp0 k4, es, (show 1 ≤ 4 by decide), (show 4 < 1073741824 by decide), nns.1, nns.2, fun H5 xv k5 hd5 hxv => ?_⟩
    obtain ⟨x, rfl, ox⟩ : ∃ x : Int, xv = .int x ∧ Oct x := by
      simp only [List.mem_cons, List.not_mem_nil, or_false] at hxv
      rcases hxv with rfl | rfl | rfl | rfl
      · exact ⟨_, rfl, oct01.1⟩
      · exact ⟨_, rfl, oct01.1⟩
      · exact ⟨_, rfl, oct01.2⟩
      · exact ⟨_, rfl, oy⟩
    have kk := (k3.trans (kLA k4)).trans k5
    have eD5 := kk.k _ _ eD (by simp [nd])
    refine ⟨_, eD5, by rw [List.length_map]; exact small16 (by omega), ?_⟩
    have k6 : Kp [D] H5 (upd H5 D (.lst (r.map V.int ++ [.int x]))) := Kp.set eD5 (by simp) (by intro _ q; cases q)
    refine ⟨(kz.trans kk).then k6 (fun z hz => .inr (by rw [List.mem_singleton.mp hz]; exact nD)), hd5.kp k6 (by simp [nd.1.symm]) (by simp [nd.2.symm]), r ++ [x], by rw [upd_same, List.map_append]; rfl, by rw [List.length_append, List.length_singleton]; omega, fun z hz => ?_⟩
    rcases List.mem_append.mp hz with h1 | h1
    · exact ho z h1
    · rw [List.mem_singleton.mp h1]; exact ox
  · obtain ⟨kz, hz, cells, eD, lr, ho⟩ := z
    refine ⟨D, _, rfl, .inl ⟨SqL.of eD, fun c nc => ?_⟩⟩
    have k3 : Kp [] H2 (upd H2 c (.tup (cells.map V.int))) := Kp.new nc
    have ec : upd H2 c (.tup (cells.map V.int)) c = some (.tup (cells.map V.int)) := upd_same
    generalize upd H2 c (.tup (cells.map V.int)) = H3 at k3 ec ⊢
    have k03 := (k1.trans kz).trans (kLA (L := L) (A := A) k3)
    have hd3 := hz.kp0 k3
    refine ⟨_, rfl, fun d dd nd ndd ned => disk_use nd ndd ned ec (by omega) (by omega) ho fun H4 o e k4 no ne Dk => ⟨rfl, ?_⟩⟩
    refine fun j dj nj ndj nej => jrn_useX nj ndj nej Dk (by omega) (by omega) ho (fun rs H5 r jp k5 nr J => ⟨rfl, ?_⟩) fun no_ H5 d' k5 nd' ed σ hσ => ⟨true, T.eB.te, fun _ a na => ?_, fun z => nomatch z⟩
    · have S := fresh_js Dk k5 nr J (by omega) (by omega) ho jp
      obtain ⟨jx, hj⟩ := S.J.ins
      refine ⟨_, rfl, j, jx, _, rfl, hj, lk_jrecords .., j, d, r, _, rs, _, rfl, S.J, fun H6 t k6 rt => ?_⟩
      obtain ⟨xs, et, rv⟩ := rt
      refine ⟨_, rfl, _, .ty "tuple", _, _, _, rfl, .ty _, .base (.tup et), kit_ty (r := true) (by decide +kernel), _, rfl, iteT ?_⟩
      refine ⟨_, rfl, t, rfl, ⟨_, SqT.of et⟩, fun B nB => lc_tup (K := K) (a := t) (xs := xs) (fun i H' => Kp [] H6 H' ∧ H' B = some (.lst ((List.replicate i true).map V.bl))) ⟨Kp.new nB, upd_same⟩ (fun i H' _ z => SqT.of (z.1.t _ _ et)) (fun i x H' hx z => ?_) fun H7 z => ?_⟩
      · obtain ⟨y, hy, a, rfl, ea⟩ := pget rv hx
        have hi : i < xs.length := (List.getElem?_eq_some_iff.mp hx).1
        have sg := size_ge rs
        have ss := S.sz
        have lx := plen rv
        refine ⟨rfl, _, rfl, _, .ty "tuple", _, _, _, rfl, .ty _, .base (.tup (z.1.t _ _ ea)), kit_ty (r := true) (by decide +kernel), _, z.2, by rw [List.length_map, List.length_replicate]; exact small16 (by omega), ?_⟩
        refine ⟨z.1.then (Kp.set (S := [B]) z.2 (by simp) (by intro _ q; cases q)) (fun y hy => .inr (by rw [List.mem_singleton.mp hy]; exact nB)), ?_⟩
        rw [upd_same, List.replicate_succ', List.map_append]
        rfl
      · refine ⟨B, _, rfl, SqL.of z.2, ?_⟩
        have e1 : (List.replicate xs.length true).all id = true := by rw [List.all_eq_true]; intro x hx; exact (List.mem_replicate.mp hx).2
        rw [e1]
        have kk := ((k4.trans k5).trans k6).trans z.1
        exact q H7 (k03.trans (kLA kk)) (hd3.kp0 kk)
    · have g2 : (σ.set 4 (some (.ref a)))[4]? = some (some (.ref a)) := List.getElem?_set_self (by omega)
      refine ⟨_, g2, T.CB, d', rfl, rfl, T.eB.is, T.CB, true, _, rfl, ed, T.kBB, _, rfl, iteT ?_⟩
      refine ⟨_, g2, T.CB, d', rfl, rfl, T.eB.is, T.CR, false, _, rfl, ed, T.kBR, _, rfl, _, rfl, iteT ?_⟩
      refine ⟨_, g2, rfl, rfl, d', _, .str "journal", rfl, ed, by simp [List.lookup], rfl, ?_⟩
      have e1 : decide (V.str "journal" = V.str "journal") = true := by simp
      show Q (.bl (decide (V.str "journal" = V.str "journal"))) H5
      rw [e1]
      exact q H5 (k03.trans (kLA (k4.trans k5))) (hd3.kp0 (k4.trans k5))
end
end KJ
end

section
namespace KJ
open PySem PySem.Spec PyProof.Rows L2 KM
section
variable {P : Program} {w : World} {K : PySem.W.Frag} {mg : Str → Option Value} {base : Heap}
theorem sorted_ext : ∀ {l m : List Int}, l.Pairwise (· < ·) → m.Pairwise (· < ·) → (∀ k, k ∈ l ↔ k ∈ m) → l = m
  | [], [], _, _, _ => rfl
  | [], b :: m, _, _, h => absurd ((h b).mpr List.mem_cons_self) (by simp)
  | a :: l, [], _, _, h => absurd ((h a).mp List.mem_cons_self) (by simp)
  | a :: l, b :: m, hl, hm, h => by
    obtain ⟨al, hl'⟩ := List.pairwise_cons.mp hl
    obtain ⟨bm, hm'⟩ := List.pairwise_cons.mp hm
    have e : a = b := by
      rcases List.mem_cons.mp ((h a).mp List.mem_cons_self) with z | z
      · exact z
      · rcases List.mem_cons.mp ((h b).mpr List.mem_cons_self) with y | y
        · exact y.symm
        · have := bm a z
          have := al b y
          omega
    subst e
    have t : ∀ k, k ∈ l ↔ k ∈ m := fun k => by
      constructor
      · intro hk
        rcases List.mem_cons.mp ((h k).mp (List.mem_cons_of_mem _ hk)) with z | z
        · have := al k hk; omega
        · exact z
      · intro hk
        rcases List.mem_cons.mp ((h k).mpr (List.mem_cons_of_mem _ hk)) with z | z
        · have := bm k hk; omega
        · exact z
    exact congrArg (a :: ·) (sorted_ext hl' hm' t)
def natI (ps : List Nat) : List Int := ps.map fun (i : Nat) => ((i : Nat) : Int)
theorem natI_nV (ps : List Nat) : ps.map nV = (natI ps).map V.int := by unfold natI; rw [List.map_map]; rfl
theorem mem_natI {ps : List Nat} {k : Int} : k ∈ natI ps ↔ ∃ i ∈ ps, ((i : Nat) : Int) = k := List.mem_map
theorem pendL_sorted (n : Nat) (es : List Ev) : (natI (pendL n es)).Pairwise (· < ·) := by
  unfold natI
  rw [List.pairwise_map]
  have h : (pendL n es).Pairwise (· < ·) := List.Pairwise.filter _ List.pairwise_lt_range
  exact h.imp fun z => by omega
theorem mem_pendL {n : Nat} {es : List Ev} (h : EvOk n es) {i : Nat} : i ∈ pendL n es ↔ i ∈ pend es := by
  unfold pendL
  rw [List.mem_filter, List.mem_range]
  constructor
  · intro z; simpa using z.2
  · intro z; exact ⟨h.pend z, by simpa using z⟩
def sp_pending_places (T : Tx P K mg) : Sp := fun vs H Q _ => ∃ (t : Addr) (n : Nat) (es : List Ev), vs = [.ref t] ∧ EvT H t es ∧ EvOk n es ∧ es.length < 60 ∧ ∀ H' p, Kp [] H H' → H' p = some (.tup ((pendL n es).map nV)) → Q (.ref p) H'
--N 3
theorem ok_pending_places (T : Tx P K mg) : FnOk P w K mg base (L2.CX P w) 1 T.f_pending_places T.d_pending_places ["events"] (sp_pending_places T) := by
  refine T.F_pending_places.ok (k := 0) sc_pending_places (fun vs H Q E h => by obtain ⟨_, _, _, rfl, _⟩ := h; rfl) (fun cdv A outer s H vs Q E hr h => ?_)
  refine ⟨_, PSs.nox (pss_cons (ps_set (i := 1) sc_pending_places.nd rfl (Or.inl rfl) (pe_lst pa_nil))
 (pss_cons (ps_for PassesOwn.never rfl (pi_tup (pv 0)) (pg_name (i := 2) sc_pending_places.nd rfl (Or.inl rfl))
 (pss_one (ps_if (pt_cmpR op_isN (pv 2) pe_non (nomark _))
 (pss_one (ps_set (i := 1) sc_pending_places.nd rfl (Or.inl rfl) (pe_lst pa_nil)))
 (pss_one (ps_expr (pe_bm PySem.F.plainAttrs_list PySem.F.slot_list_append PySem.F.type_list_append mt_append (pv 1) (pa_cons (pe_ix ix_tup (pv 2) pe_int (fun _ _ => rfl)) pa_nil)))))))
 (pss_one (ps_ret (pe_callTy call_tuple_of rfl T.n_tuple (by decide +kernel) (pa_cons (pe_callB (cr_sortedSet rfl) rfl T.n_sorted (by decide +kernel) (pa_cons (pe_callTy (cr_setI rfl) rfl T.n_set (by decide +kernel) (pa_cons (pv 1) pa_nil)) pa_nil)) pa_nil)))))), ?_⟩
  obtain ⟨t, n, es, rfl, ⟨xs, et, rv⟩, eok, hl, q⟩ := h
  have lx := plen rv
  refine ⟨Nat.zero_le _, fun l nl => ?_⟩
  have k1 : Kp [] H (upd H l (.lst [])) := Kp.new nl
  have el : upd H l (.lst []) l = some (.lst []) := upd_same
  generalize upd H l (.lst []) = H1 at k1 el ⊢
  refine ⟨_, rfl, t, rfl, ⟨_, SqT.of (k1.t _ _ et)⟩, for_tup (K := K) (a := t) (xs := xs) (fun i σ H' => ∃ (l : Addr) (a2 : Option V), σ = [some (.ref t), some (.ref l), a2] ∧ Kp [] H H' ∧ H' l = some (.lst ((pend (es.take i)).map nV)) ∧ H l = none)
    ⟨l, none, rfl, k1, by simpa [pend] using el, nl⟩ (fun i σ H' _ z => by
      obtain ⟨_, _, _, k, _⟩ := z
      exact SqT.of (k.t _ _ et)) (fun i x σ H' hx z => ?_) fun σ H' z => ?_⟩
  · obtain ⟨l, a2, rfl, k, el, nl⟩ := z
    obtain ⟨e, he, ev⟩ := pget rv hx
    have hi : i < es.length := (List.getElem?_eq_some_iff.mp he).1
    have tk := take_snoc he
    rcases e with _ | ⟨pp, y⟩
    · obtain rfl : x = .non := ev
      refine ⟨_, rfl, rfl, _, rfl, iteT ⟨Nat.zero_le _, fun l2 nl2 => ?_⟩⟩
      have k2 : Kp [] H' (upd H' l2 (.lst [])) := Kp.new nl2
      refine ⟨l2, _, rfl, k.trans k2, ?_, k.fresh0 nl2⟩
      rw [upd_same, tk, pend_snoc]
      rfl
    · obtain ⟨a, rfl, ea⟩ := ev
      have ea' := k.t _ _ ea
      have pl := pend_len (es.take i)
      rw [List.length_take] at pl
      refine ⟨_, rfl, rfl, _, rfl, iteF ?_⟩
      refine ⟨_, rfl, .inl ⟨rfl, _, SqL.of el⟩, _, rfl, a, _, _, _, rfl, rfl, SqT.of ea', atI_nat (j := 0) rfl, l, _, nV pp, rfl, rfl, el, by rw [nat_len]; exact small16 (by omega), ?_⟩
      have k2 : Kp [l] H' (upd H' l (.lst ((pend (es.take i)).map nV ++ [nV pp]))) := Kp.set el (by simp) (by intro _ z; cases z)
      refine ⟨l, _, rfl, k.then k2 (fun z hz => .inr (by rw [List.mem_singleton.mp hz]; exact nl)), ?_, nl⟩
      rw [upd_same, tk, pend_snoc]
      show _ = some (HO.lst ((pend (es.take i) ++ [pp]).map nV))
      rw [List.map_append]
      rfl
  · obtain ⟨l, a2, rfl, k, el, nl⟩ := z
    rw [lx, List.take_of_length_le (Nat.le_refl _), natI_nV] at el
    have pl := pend_len es
    have nil_ : (natI (pend es)).length = (pend es).length := List.length_map _
    refine ⟨_, rfl, l, natI (pend es), rfl, SqL.of el, by omega, fun p cc np hc => ?_⟩
    refine ⟨p, _, cc, rfl, upd_same, by omega, fun ns u hs hm hlen nu => ?_⟩
    refine ⟨u, _, rfl, .inl ⟨SqL.of upd_same, fun v nv => ?_⟩⟩
    have e1 : ns = natI (pendL n es) := by
      refine sorted_ext hs (pendL_sorted n es) fun k => ?_
      rw [hm k, decide_eq_true_eq, mem_natI, mem_natI]
      constructor
      · rintro ⟨i, hi, e⟩; exact ⟨i, (mem_pendL eok).mpr hi, e⟩
      · rintro ⟨i, hi, e⟩; exact ⟨i, (mem_pendL eok).mp hi, e⟩
    have kp : Kp [] H' (upd H' p (SetO w p (fun j => decide (j ∈ natI (pend es))) cc)) := Kp.new np
    refine q _ v ((k.trans kp).trans ((Kp.new nu).trans (Kp.new nv))) ?_
    rw [upd_same, e1, natI_nV]
def setAll (c : List Int) (ps : List (Nat × Int)) : List Int := ps.foldl (fun c p => c.set p.1 p.2) c
theorem setAll_length (ps : List (Nat × Int)) : ∀ c : List Int, (setAll c ps).length = c.length := by
  induction ps with
  | nil => intro c; rfl
  | cons p ps ih => intro c; show (setAll (c.set p.1 p.2) ps).length = _; rw [ih, List.length_set]
theorem setAll_snoc (c : List Int) (ps : List (Nat × Int)) (p : Nat × Int) : setAll c (ps ++ [p]) = (setAll c ps).set p.1 p.2 := by unfold setAll; rw [List.foldl_append]; rfl
def sp_cut_cells (T : Tx P K mg) : Sp := fun vs H Q _ => ∃ (c t u : Addr) (cells : List Int) (es : List Ev) (os : List Int), vs = [.ref c, .ref t, .ref u] ∧ H c = some (.tup (cells.map V.int)) ∧ EvT H t es ∧ EvOk cells.length es ∧ es.length < 60 ∧ H u = some (.tup (os.map V.int)) ∧ (pendL cells.length es).length = os.length ∧ cells.length ≤ 20000 ∧
  ∀ H' p, Kp [] H H' → H' p = some (.tup ((setAll (appl cells es) ((pendL cells.length es).zip os)).map V.int)) → Q (.ref p) H'
--N 6
theorem ok_cut_cells (T : Tx P K mg) : FnOk P w K mg base (L2.CX P w) 2 T.f_cut_cells T.d_cut_cells ["cells", "events", "octets"] (sp_cut_cells T) := by
  refine T.F_cut_cells.ok (k := 1) sc_cut_cells (fun vs H Q E h => by obtain ⟨_, _, _, _, _, _, rfl, _⟩ := h; rfl) (fun cdv A outer s H vs Q E hr h => ?_)
  refine ⟨_, PSs.nox (pss_cons (ps_set (i := 3) sc_cut_cells.nd rfl (Or.inl rfl) (pe_callTy call_list_of rfl T.n_list (by decide +kernel) (pa_cons (pv 0) pa_nil)))
 (pss_cons (ps_for PassesOwn.never rfl (pi_tup (pv 1)) (pg_name (i := 4) sc_cut_cells.nd rfl (Or.inl rfl))
 (pss_one (ps_if (pt_cmpR op_notN (pv 4) pe_non (nomark _))
 (pss_one (ps_asg (pe_ix ix_tup (pv 4) pe_int (fun _ _ => rfl)) (pg_sub (pv 3) (pe_ix ix_tup (pv 4) pe_int (fun _ _ => rfl)) set_list)))
 pss_nil)))
 (pss_cons (ps_for PassesOwn.never rfl (RZ.pi_zipA rfl T.n_zip (pa_cons (pe_call (ok_pending_places T) (hr.mono (by decide)) rfl T.g_pending_places T.F_pending_places.kp T.b_pending_places .nil passL (pa_cons (pv 1) pa_nil)) (pa_cons (pv 2) pa_nil))) (pg_tup rfl (pgs_cons (pg_name (i := 5) sc_cut_cells.nd rfl (Or.inl rfl)) (pgs_cons (pg_name (i := 6) sc_cut_cells.nd rfl (Or.inl rfl)) pgs_nil)))
 (pss_one (ps_asg (pv 6) (pg_sub (pv 3) (pv 5) set_list))))
 (pss_one (ps_ret (pe_callTy call_tuple_of rfl T.n_tuple (by decide +kernel) (pa_cons (pv 3) pa_nil))))))), ?_⟩
  obtain ⟨c, t, u, cells, es, os, rfl, ec, ⟨xs, et, rv⟩, eok, hl, eu, hlen, hn, q⟩ := h
  have lx := plen rv
  refine ⟨_, rfl, c, _, rfl, .inr (SqT.of ec), fun n nn => ?_⟩
  have k1 : Kp [] H (upd H n (.lst (cells.map V.int))) := Kp.new nn
  have en : upd H n (.lst (cells.map V.int)) n = some (.lst (cells.map V.int)) := upd_same
  generalize upd H n (.lst (cells.map V.int)) = H1 at k1 en ⊢
  refine ⟨_, rfl, t, rfl, ⟨_, SqT.of (k1.t _ _ et)⟩, for_tup (K := K) (a := t) (xs := xs) (fun i σ H' => (∃ a4, σ = [some (.ref c), some (.ref t), some (.ref u), some (.ref n), a4, none, none]) ∧ Kp [] H H' ∧ H' n = some (.lst ((appl cells (es.take i)).map V.int)))
    ⟨⟨none, rfl⟩, k1, by simpa [appl] using en⟩ (fun i σ H' _ z => SqT.of (z.2.1.t _ _ et)) (fun i x σ H' hx z => ?_) fun σ H' z => ?_⟩
  · obtain ⟨⟨a4, rfl⟩, k, en'⟩ := z
    obtain ⟨e, he, ev⟩ := pget rv hx
    have tk := take_snoc he
    rcases e with _ | ⟨pp, y⟩
    · obtain rfl : x = .non := ev
      refine ⟨_, rfl, rfl, _, rfl, iteF ⟨⟨_, rfl⟩, k, ?_⟩⟩
      rw [tk, appl_append]
      exact en'
    · obtain ⟨a, rfl, ea⟩ := ev
      have ea' := k.t _ _ ea
      have hb := (eok pp y (List.mem_of_getElem? he)).1
      refine ⟨_, rfl, rfl, _, rfl, iteT ?_⟩
      refine ⟨_, rfl, a, _, _, _, rfl, rfl, SqT.of ea', atI_nat (j := 1) rfl, _, rfl, _, rfl, a, _, _, _, rfl, rfl, SqT.of ea', atI_nat (j := 0) rfl, n, _, _, pp, rfl, rfl, en', ixn (by rw [List.length_map, appl_length]; exact hb), ?_⟩
      rw [map_set]
      have k6 : Kp [n] H' (upd H' n (.lst (((appl cells (es.take i)).set pp y).map V.int))) := Kp.set en' (by simp) (by intro _ z; cases z)
      refine ⟨⟨_, rfl⟩, k.then k6 (fun z hz => .inr (by rw [List.mem_singleton.mp hz]; exact nn)), ?_⟩
      rw [upd_same, tk, appl_append]
      rfl
  · obtain ⟨⟨a4, rfl⟩, k, en'⟩ := z
    rw [lx, List.take_of_length_le (Nat.le_refl _)] at en'
    refine ⟨_, rfl, t, cells.length, es, rfl, ⟨_, k.t _ _ et, evs_kp k rv⟩, eok, hl, fun H2 p k2 ep => ?_⟩
    have en2 := k2.k _ _ en' (by simp)
    have k02 := k.trans k2
    have eu2 := k02.t _ _ eu
    generalize epl : pendL cells.length es = pl at *
    have pm : ∀ i ∈ pl, i < cells.length := fun i hi => by
      rw [← epl] at hi
      exact List.mem_range.mp (List.mem_filter.mp hi).1
    refine ⟨_, rfl, p, u, pl.map nV, os.map V.int, rfl, .inr ⟨SqT.of ep, SqT.of eu2, RZ.for_zipT (by rw [nat_len, List.length_map]; exact hlen) (fun i σ H' => (∃ a5 a6, σ = [some (.ref c), some (.ref t), some (.ref u), some (.ref n), a4, a5, a6]) ∧ Kp [] H H' ∧ H' p = some (.tup (pl.map nV)) ∧ H' n = some (.lst ((setAll (appl cells es) ((pl.zip os).take i)).map V.int)))
      ⟨⟨none, none, rfl⟩, k02, ep, by simpa [setAll] using en2⟩ (fun i σ H' z => ⟨SqT.of z.2.2.1, SqT.of (z.2.1.t _ _ eu)⟩) (fun i x y a σ H' hx hy z na => ?_) fun σ H' z => ?_⟩⟩
    · obtain ⟨⟨a5, a6, rfl⟩, k, ep', en'⟩ := z
      rw [List.getElem?_map] at hx hy
      cases hx' : pl[i]? with
      | none => rw [hx'] at hx; cases hx
      | some b =>
        cases hy' : os[i]? with
        | none => rw [hy'] at hy; cases hy
        | some oy =>
          rw [hx'] at hx
          rw [hy'] at hy
          obtain rfl : nV b = x := Option.some.inj hx
          obtain rfl : V.int oy = y := Option.some.inj hy
          have hb := pm b (List.mem_of_getElem? hx')
          have hz : (pl.zip os)[i]? = some (b, oy) := by rw [List.getElem?_zip_eq_some]; exact ⟨hx', hy'⟩
          have k3 : Kp [] H' (upd H' a (.tup [nV b, .int oy])) := Kp.new na
          have e3 : upd H' a (.tup [nV b, .int oy]) a = some (.tup [nV b, .int oy]) := upd_same
          generalize upd H' a (.tup [nV b, .int oy]) = H3 at k3 e3 ⊢
          have en3 := k3.k _ _ en' (by simp)
          refine ⟨a, _, rfl, SqT.of e3, rfl, _, _, rfl, _, _, rfl, rfl, ?_⟩
          refine ⟨_, rfl, _, rfl, _, rfl, n, _, _, b, rfl, rfl, en3, ixn (by rw [List.length_map, setAll_length, appl_length]; exact hb), ?_⟩
          rw [map_set]
          have k6 : Kp [n] H3 (upd H3 n (.lst (((setAll (appl cells es) ((pl.zip os).take i)).set b oy).map V.int))) := Kp.set en3 (by simp) (by intro _ z; cases z)
          refine ⟨⟨_, _, rfl⟩, (k.trans k3).then k6 (fun z hz => .inr (by rw [List.mem_singleton.mp hz]; exact nn)), k6.t _ _ (k3.t _ _ ep'), ?_⟩
          rw [upd_same, take_snoc hz, setAll_snoc]
    · obtain ⟨⟨a5, a6, rfl⟩, k, ep', en'⟩ := z
      rw [nat_len, List.take_of_length_le (by rw [List.length_zip]; omega)] at en'
      refine ⟨_, rfl, n, _, rfl, .inl ⟨SqL.of en', fun v nv => ?_⟩⟩
      have k6 : Kp [] H' (upd H' v (.tup ((setAll (appl cells es) (pl.zip os)).map V.int))) := Kp.new nv
      have ev : upd H' v (.tup ((setAll (appl cells es) (pl.zip os)).map V.int)) v = some (.tup ((setAll (appl cells es) (pl.zip os)).map V.int)) := upd_same
      generalize upd H' v (.tup ((setAll (appl cells es) (pl.zip os)).map V.int)) = H6 at k6 ev ⊢
      exact q H6 v (k.trans k6) ev
end
end KJ
end

section
namespace KJ
open PySem PySem.Spec PyProof.Rows L2 KM
section
variable {P : Program} {w : World} {K : PySem.W.Frag} {mg : Str → Option Value} {base : Heap}
theorem eqV_nat (i j : Nat) : eqV (nV i) (nV j) = decide (i = j) := by
  show (((i : Nat) : Int) == ((j : Nat) : Int)) = _
  by_cases h : i = j
  · simp [h]
  · rw [decide_eq_false h]; simp; omega
theorem setAll_off : ∀ (ps : List (Nat × Int)) (c : List Int) (i : Nat), (∀ p ∈ ps, p.1 ≠ i) → (setAll c ps).getD i 0 = c.getD i 0
  | [], _, _, _ => rfl
  | p :: ps, c, i, h => by
    show (setAll (c.set p.1 p.2) ps).getD i 0 = _
    rw [setAll_off ps _ i fun q hq => h q (List.mem_cons_of_mem _ hq), getD_set, if_neg fun z => h p List.mem_cons_self z.1]
theorem setAll_at : ∀ (pl : List Nat) (os : List Int) (c : List Int) (j i : Nat), pl.Nodup → pl[j]? = some i → j < os.length → i < c.length → (setAll c (pl.zip os)).getD i 0 = os.getD j 0
  | [], _, _, _, _, _, h, _, _ => by simp at h
  | p :: pl, [], _, _, _, _, _, h, _ => absurd h (by simp)
  | p :: pl, x :: os, c, 0, i, nd, h, _, hi => by
    obtain rfl : p = i := by simpa using h
    show (setAll (c.set p x) (pl.zip os)).getD p 0 = x
    rw [setAll_off, getD_set, if_pos ⟨rfl, hi⟩]
    intro q hq z
    have hm := (List.of_mem_zip hq).1
    rw [z] at hm
    exact (List.nodup_cons.mp nd).1 hm
  | p :: pl, x :: os, c, j + 1, i, nd, h, hj, hi => by
    show (setAll (c.set p x) (pl.zip os)).getD i 0 = os.getD j 0
    exact setAll_at pl os _ j i (List.nodup_cons.mp nd).2 (by simpa using h) (by simpa using hj) (by rw [List.length_set]; exact hi)
theorem pendL_nodup (n : Nat) (es : List Ev) : (pendL n es).Nodup := List.Pairwise.filter _ List.nodup_range
theorem natI_abs {ps : List Nat} (h : ∀ i ∈ ps, i < 10 ^ 9) : ∀ x ∈ natI ps, x.natAbs < 10 ^ 9 := fun x hx => by
  obtain ⟨i, hi, rfl⟩ := mem_natI.mp hx
  rw [Int.natAbs_natCast]
  exact h i hi
def sp_disk_right (T : Tx P K mg) : Sp := fun vs H Q _ => ∃ (L c : Addr), vs = [.ref L, .ref c] ∧ ∃ (A : Addr) (cells : List Int), Hd H L A ∧ H c = some (.tup (cells.map V.int)) ∧ 1 ≤ cells.length ∧ cells.length ≤ 100 ∧ (∀ x ∈ cells, Oct x) ∧ ∀ H', Kp [L, A] H H' → Hd H' L A → Q (.bl true) H'
--N 2
theorem ok_disk_right (T : Tx P K mg) : FnG P w K mg base (L2.CX P w) 6 T.f_disk_right T.d_disk_right ["_law_heap_here", "_law_cells"] (sp_disk_right T) := by
  refine T.F_disk_right.okG (k := 5) sc_disk_right (fun vs H Q E h => by obtain ⟨_, _, rfl, _⟩ := h; rfl) (fun cdv A outer s H vs Q E hr hgd h => ?_)
  refine ⟨_, PSs.nox (pss_cons (ps_asg (pe_tup (pa_cons (pe_make T.mkD (ok_Disk_init T) (hr.mono (by decide)) rfl T.gD T.b_Disk_init .nil passL (pa_cons (pv 1) pa_nil)) (pa_cons (pe_lst pa_nil) (pa_cons (pe_callTy call_list_of rfl T.n_list (by decide +kernel) (pa_cons (pv 1) pa_nil)) pa_nil)))) (pg_tup rfl (pgs_cons (pg_name (i := 2) sc_disk_right.nd rfl (Or.inr rfl)) (pgs_cons (pg_name (i := 3) sc_disk_right.nd rfl (Or.inl rfl)) (pgs_cons (pg_name (i := 4) sc_disk_right.nd rfl (Or.inl rfl)) pgs_nil)))))
 (pss_cons (ps_for PassesOwn.never rfl (pi_range1 rfl T.n_range (pa_cons (pe_op op_add pe_int (pe_call (ok_draw T) (hr.mono (by decide)) rfl T.g_draw T.F_draw.kp T.b_draw .nil passL (pa_cons (pv 0) (pa_cons pe_int pa_nil)))) pa_nil)) (pg_name (i := 5) sc_disk_right.nd rfl (Or.inl rfl))
 (pss_cons (ps_par (i := 6) (j := 7) rfl sc_disk_right.nd rfl rfl (by decide) rfl rfl (pa_cons (pe_call (ok_draw T) (hr.mono (by decide)) rfl T.g_draw T.F_draw.kp T.b_draw .nil passL (pa_cons (pv 0) (pa_cons (pe_callB call_len_seq rfl T.n_len (by decide +kernel) (pa_cons (pv 1) pa_nil)) pa_nil))) (pa_cons (pe_call (ok_octet T) (hr.mono (by decide)) rfl T.g_octet T.F_octet.kp T.b_octet .nil passL (pa_cons (pv 0) pa_nil)) pa_nil)) (by rfl))
 (pss_cons (ps_if (pt_cmpR op_eq (pe_call (ok_draw T) (hr.mono (by decide)) rfl T.g_draw T.F_draw.kp T.b_draw .nil passL (pa_cons (pv 0) (pa_cons pe_int pa_nil))) pe_int (nomark _))
 (pss_cons (ps_expr (pe_meth0 (pv 2) T.clD T.m_Disk_flush (ok_Disk_flush T) (hr.mono (by decide)) T.b_Disk_flush .nil passL))
 (pss_one (ps_expr (pe_bm PySem.F.plainAttrs_list PySem.F.slot_list_append PySem.F.type_list_append mt_append (pv 3) (pa_cons pe_non pa_nil)))))
 (pss_cons (ps_set (i := 8) sc_disk_right.nd rfl (Or.inl rfl) (pe_ifExp (pt_cmpR op_eq (pe_call (ok_draw T) (hr.mono (by decide)) rfl T.g_draw T.F_draw.kp T.b_draw .nil passL (pa_cons (pv 0) (pa_cons pe_int pa_nil))) pe_int (nomark _)) (pe_meth (pv 2) T.clD T.m_Disk_put (ok_Disk_put T) (hr.mono (by decide)) T.b_Disk_put .nil passL (pa_cons (pv 6) (pa_cons (pv 7) pa_nil))) (pe_methK (pv 2) T.clD T.m_Disk_put (ok_Disk_put T) (hr.mono (by decide)) (kb_Disk_put T) passL (pk_cons (pv 7) (pk_cons (pv 6) pk_nil)))))
 (pss_cons (ps_expr (pe_bm PySem.F.plainAttrs_list PySem.F.slot_list_append PySem.F.type_list_append mt_append (pv 3) (pa_cons (pe_tup (pa_cons (pv 6) (pa_cons (pv 7) pa_nil))) pa_nil)))
 (pss_cons (ps_asg (pv 7) (pg_sub (pv 4) (pv 6) set_list))
 (pss_one (ps_if (pt_cmpR op_notN (pv 8) pe_non (nomark _))
 (pss_one (ps_ret pe_bl))
 pss_nil))))))
 (pss_one (ps_if (PW.pt (pw_or (pt_cmpR op_ne (pe_meth (pv 2) T.clD T.m_Disk_look (ok_Disk_look T) (hr.mono (by decide)) T.b_Disk_look .nil passL (pa_cons (pv 6) pa_nil)) (pe_ix ix_list (pv 4) (pv 6) (fun _ _ => rfl)) (nomark _)) (pw_or1 (pt_cmpR op_ne (pe_callB (call_repr hgd hr.units) rfl T.n_repr (by decide +kernel) (pa_cons (pe_lc (own := [("_law_place", 9)]) (g := gName 9) (tt := tYes) rfl sc_disk_right.nd (pi_range1 rfl T.n_range (pa_cons (pe_callB call_len_seq rfl T.n_len (by decide +kernel) (pa_cons (pv 1) pa_nil)) pa_nil)) (blkOk_by (own := [("_law_place", 9)]) (N := ["_law_heap_here", "_law_cells", "_law_disk", "_law_events", "_law_now", "_law_turn_here", "_law_at", "_law_octet_here", "_law_told", "_law_place", "_law_end", "_law_lasts", "_law_pending", "_law_last", "_law_octets", "_law_due"]) (sc := defScope s_disk_right) (by decide +kernel)) (fun _ _ _ _ _ => pg_name (i := 9) sc_disk_right.nd rfl (Or.inl rfl)) (fun _ _ _ _ _ => pts_nil) (fun _ _ _ _ _ => (pe_methK (pv 2) T.clD T.m_Disk_look (ok_Disk_look T) (hr.mono (by decide)) (kb_Disk_look T) passL (pk_cons (pv 9) pk_nil)))) pa_nil)) (pe_callB (call_repr hgd hr.units) rfl T.n_repr (by decide +kernel) (pa_cons (pv 4) pa_nil)) (nomark _)))))
 (pss_one (ps_ret pe_bl))
 pss_nil)))))
 (pss_cons (ps_set (i := 3) sc_disk_right.nd rfl (Or.inl rfl) (pe_callTy call_tuple_of rfl T.n_tuple (by decide +kernel) (pa_cons (pv 3) pa_nil)))
 (pss_cons (ps_if (PW.pt (pw_or (pt_cmpR op_ne (pe_callB (call_repr hgd hr.units) rfl T.n_repr (by decide +kernel) (pa_cons (pe_meth0 (pv 2) T.clD T.m_Disk_events (ok_Disk_events T) (hr.mono (by decide)) T.b_Disk_events .nil passL) pa_nil)) (pe_callB (call_repr hgd hr.units) rfl T.n_repr (by decide +kernel) (pa_cons (pv 3) pa_nil)) (nomark _)) (pw_or1 (pt_cmpR (op_neD hr.units) (pe_fld (pv 2) rfl) (pv 1) (nomark _)))))
 (pss_one (ps_ret pe_bl))
 pss_nil)
 (pss_cons (ps_for PassesOwn.never rfl (pi_list (pe_lst (pa_cons (pe_callB call_len_seq rfl T.n_len (by decide +kernel) (pa_cons (pv 3) pa_nil)) (pa_cons (pe_call (ok_draw T) (hr.mono (by decide)) rfl T.g_draw T.F_draw.kp T.b_draw .nil passL (pa_cons (pv 0) (pa_cons (pe_op op_add (pe_callB call_len_seq rfl T.n_len (by decide +kernel) (pa_cons (pv 3) pa_nil)) pe_int) pa_nil))) pa_nil)))) (pg_name (i := 10) sc_disk_right.nd rfl (Or.inl rfl))
 (pss_cons (ps_asg (pe_call (ok_lasting T) (hr.mono (by decide)) rfl T.g_lasting T.F_lasting.kp T.b_lasting .nil passL (pa_cons (pv 1) (pa_cons (pe_slice sl_tupA (pv 3) po_none (po_some (pv 10))) pa_nil))) (pg_unl rfl (pgs_cons (pg_name (i := 11) sc_disk_right.nd rfl (Or.inr rfl)) (pgs_cons (pg_name (i := 12) sc_disk_right.nd rfl (Or.inr rfl)) (pgs_cons (pg_name (i := 13) sc_disk_right.nd rfl (Or.inl rfl)) pgs_nil)))))
 (pss_cons (ps_set (i := 14) sc_disk_right.nd rfl (Or.inr rfl) (pe_callTy call_tuple_of rfl T.n_tuple (by decide +kernel) (pa_cons (pe_lc (own := [("_law_at", 6)]) (g := gName 6) (tt := tYes) rfl sc_disk_right.nd (pi_list (pv 12)) (blkOk_by (own := [("_law_at", 6)]) (N := ["_law_heap_here", "_law_cells", "_law_disk", "_law_events", "_law_now", "_law_turn_here", "_law_at", "_law_octet_here", "_law_told", "_law_place", "_law_end", "_law_lasts", "_law_pending", "_law_last", "_law_octets", "_law_due"]) (sc := defScope s_disk_right) (by decide +kernel)) (fun _ _ _ _ _ => pg_name (i := 6) sc_disk_right.nd rfl (Or.inl rfl)) (fun _ _ _ _ _ => pts_nil) (fun _ _ _ _ _ => (pe_call (ok_octet T) (hr.mono (by decide)) rfl T.g_octet T.F_octet.kp T.b_octet .nil passL (pa_cons (pv 0) pa_nil)))) pa_nil)))
 (pss_cons (ps_set (i := 15) sc_disk_right.nd rfl (Or.inl rfl) (pe_callTy call_tuple_of rfl T.n_tuple (by decide +kernel) (pa_cons (pe_lc (own := [("_law_at", 6)]) (g := gName 6) (tt := tYes) rfl sc_disk_right.nd (pi_range1 rfl T.n_range (pa_cons (pe_callB call_len_seq rfl T.n_len (by decide +kernel) (pa_cons (pv 1) pa_nil)) pa_nil)) (blkOk_by (own := [("_law_at", 6)]) (N := ["_law_heap_here", "_law_cells", "_law_disk", "_law_events", "_law_now", "_law_turn_here", "_law_at", "_law_octet_here", "_law_told", "_law_place", "_law_end", "_law_lasts", "_law_pending", "_law_last", "_law_octets", "_law_due"]) (sc := defScope s_disk_right) (by decide +kernel)) (fun _ _ _ _ _ => pg_name (i := 6) sc_disk_right.nd rfl (Or.inl rfl)) (fun _ _ _ _ _ => pts_nil) (fun _ _ _ _ _ => (pe_ifExp (pt_cmpR (r := rIn K false) op_in_seq (pv 6) (pv 12) (by rfl)) (pe_ix (r := rIxT K) ix_tup (pv 14) (pe_bm PySem.F.plainAttrs_list PySem.F.slot_list_index PySem.F.type_list_index mt_index (pv 12) (pa_cons (pv 6) pa_nil) : PE _ _ (tBM K "list" (rIndex K) (tVar 12) (tCons (tVar 6) tNil))) (fun _ _ => rfl)) (pe_ix (r := rIxL K) ix_list (pv 11) (pv 6) (fun _ _ => rfl))))) pa_nil)))
 (pss_cons (ps_if (PW.pt (pw_or (pt_cmpR op_ne (pe_callB (call_repr hgd hr.units) rfl T.n_repr (by decide +kernel) (pa_cons (pe_call (ok_pending_places T) (hr.mono (by decide)) rfl T.g_pending_places T.F_pending_places.kp T.b_pending_places .nil passL (pa_cons (pe_slice sl_tupA (pv 3) po_none (po_some (pv 10))) pa_nil)) pa_nil)) (pe_callB (call_repr hgd hr.units) rfl T.n_repr (by decide +kernel) (pa_cons (pe_callTy call_tuple_of rfl T.n_tuple (by decide +kernel) (pa_cons (pv 12) pa_nil)) pa_nil)) (nomark _)) (pw_or1 (pt_cmpR (op_neD hr.units) (pe_callK0 (ok_pending_places T) (hr.mono (by decide)) rfl T.g_pending_places T.F_pending_places.kp (kb_pending_places T) passL (pk_cons (pe_slice sl_tupA (pv 3) po_none (po_some (pv 10))) pk_nil)) (pe_callTy call_tuple_of rfl T.n_tuple (by decide +kernel) (pa_cons (pv 12) pa_nil)) (nomark _)))))
 (pss_one (ps_ret pe_bl))
 pss_nil)
 (pss_one (ps_if (PW.pt (pw_or (pt_cmpR op_ne (pe_callB (call_repr hgd hr.units) rfl T.n_repr (by decide +kernel) (pa_cons (pe_call (ok_cut_cells T) (hr.mono (by decide)) rfl T.g_cut_cells T.F_cut_cells.kp T.b_cut_cells .nil passL (pa_cons (pv 1) (pa_cons (pe_slice sl_tupA (pv 3) po_none (po_some (pv 10))) (pa_cons (pv 14) pa_nil)))) pa_nil)) (pe_callB (call_repr hgd hr.units) rfl T.n_repr (by decide +kernel) (pa_cons (pv 15) pa_nil)) (nomark _)) (pw_or1 (pt_cmpR (op_neD hr.units) (pe_callK0 (ok_cut_cells T) (hr.mono (by decide)) rfl T.g_cut_cells T.F_cut_cells.kp (kb_cut_cells T) passL (pk_cons (pv 14) (pk_cons (pe_slice sl_tupA (pv 3) po_none (po_some (pv 10))) (pk_cons (pv 1) pk_nil)))) (pv 15) (nomark _)))))
 (pss_one (ps_ret pe_bl))
 pss_nil)))))))
 (pss_one (ps_ret pe_bl))))))), ?_⟩
  obtain ⟨L, c, rfl, A, cells, hd, ec, n1, n2, oc, q⟩ := h
  refine ⟨_, rfl, fun d dd nd ndd ned => disk_use nd ndd ned ec n1 (by omega) oc fun H1 o e k1 no ne D1 => ⟨rfl, Nat.zero_le _, fun l nl => ?_⟩⟩
  have k2 : Kp [] H1 (upd H1 l (.lst [])) := Kp.new nl
  have el : upd H1 l (.lst []) l = some (.lst []) := upd_same
  generalize upd H1 l (.lst []) = H2 at k2 el ⊢
  refine ⟨_, rfl, c, _, rfl, .inr (SqT.of (k2.t _ _ D1.cel)), fun n nn => ?_⟩
  have k3 : Kp [] H2 (upd H2 n (.lst (cells.map V.int))) := Kp.new nn
  have en : upd H2 n (.lst (cells.map V.int)) n = some (.lst (cells.map V.int)) := upd_same
  generalize upd H2 n (.lst (cells.map V.int)) = H3 at k3 en ⊢
  refine ⟨sz (by simp), fun tt ntt => ?_⟩
  have k4 : Kp [] H3 (upd H3 tt (.tup [.ref d, .ref l, .ref n])) := Kp.new ntt
  have ett : upd H3 tt (.tup [.ref d, .ref l, .ref n]) tt = some (.tup [.ref d, .ref l, .ref n]) := upd_same
  generalize upd H3 tt (.tup [.ref d, .ref l, .ref n]) = H4 at k4 ett ⊢
  have k24 := (k2.trans k3).trans k4
  have k04 := k1.trans k24
  have D4 := D1.kp0 k24
  have el4 := k4.k _ _ (k3.k _ _ el (by simp)) (by simp)
  have en4 := k4.k _ _ en (by simp)
  have flH := k1.fresh0 nl
  have fnH := (k1.trans k2).fresh0 nn
  have so := hd.nn no
  have se := hd.nn ne
  have sl := hd.nn flH
  have sn := hd.nn fnH
  have lo : l ≠ o := fun z => by rw [z, D1.oct] at nl; cases nl
  have le_ : l ≠ e := fun z => by
    obtain ⟨xs, he, _⟩ := D1.evl
    rw [z, he] at nl; cases nl
  have no_ : n ≠ o := fun z => by rw [z, k2.k _ _ D1.oct (by simp)] at nn; cases nn
  have ne_ : n ≠ e := fun z => by
    obtain ⟨xs, he, _⟩ := D1.evl
    rw [z, k2.k _ _ he (by simp)] at nn; cases nn
  have ln_ : l ≠ n := fun z => by rw [← z, el] at nn; cases nn
  have oe := D1.ne
  obtain ⟨dx0, hd0⟩ := D1.ins
  have dno := D1.neq
  have dl : d ≠ l := fun z => by rw [← z, hd0] at nl; cases nl
  have dn : d ≠ n := fun z => by rw [← z, k2.k _ _ hd0 (by simp)] at nn; cases nn
  have dL : d ≠ L ∧ d ≠ A := by
    obtain ⟨st, ns, e1, e2, _⟩ := hd.kp0 k1
    exact ⟨ne_of hd0 e1 (by intro z; cases z), ne_of hd0 e2 (by intro z; cases z)⟩
  refine ⟨tt, _, rfl, SqT.of ett, rfl, _, _, rfl, _, _, rfl, _, _, rfl, rfl, ?_⟩
  refine ⟨_, rfl, L, 8, rfl, A, hd.kp0 k04, by decide, by decide, fun H5 g k5 hd5 hg => ?_⟩
  refine ⟨_, _, rfl, rfl, _, rfl, by omega, by omega, ?_⟩
  have eg : (5 + ((g : Nat) : Int)).toNat = 5 + g := by omega
  rw [eg]
  have el5 := k5.k _ _ el4 (by simp [sl])
  have en5 := k5.k _ _ en4 (by simp [sn])
  have D5 := D4.kp k5 (by simp [dL]) (by simp [so]) (by simp [se])
  have mem2 : ∀ {b : Addr}, b ∈ [o, e] → b = o ∨ b = e := fun {b} h => by
    rcases List.mem_cons.mp h with z | z
    · exact .inl z
    · exact .inr (List.mem_singleton.mp z)
  refine for_range (lo := 0) (n := 5 + g) (fun i σ H' => ∃ (octs : List Int) (evs : List Ev) (exs : List V) (a5 a6 a7 a8 : Option V), σ = [some (.ref L), some (.ref c), some (.ref d), some (.ref l), some (.ref n), a5, a6, a7, a8, none, none, none, none, none, none, none] ∧
    Kp [L, A] H H' ∧ Hd H' L A ∧ Dsk T H' d c o e cells octs evs ∧ H' l = some (.lst exs) ∧ EvsV H' exs evs ∧ H' n = some (.lst (octs.map V.int)) ∧ EvOk cells.length evs ∧ octs = appl cells evs ∧ evs.length = i)
    ⟨cells, [], [], none, none, none, none, rfl, (kLA k04).trans k5, hd5, D5, el5, .nil, en5, EvOk.nil _, rfl, rfl⟩ (fun i σ H' hi z => ?_) fun σ H' z => ?_
  · obtain ⟨octs, evs, exs, a5, a6, a7, a8, rfl, k, hdz, D, elz, evz, enz, eok, ap, lev⟩ := z
    have oco : ∀ x ∈ octs, Oct x := by rw [ap]; exact appl_oct _ _ (fun p x hx => (eok p x hx).2) oc
    have ln := D.ln
    refine ⟨_, rfl, _, rfl, c, _, rfl, .inr (SqT.of D.cel), L, cells.length, by rw [List.length_map]; rfl, A, hdz, n1, by omega, fun H1' at_ k1' hd1' hat => ?_⟩
    refine ⟨_, rfl, L, rfl, A, hd1', fun H2' y k2' hd2' oy => ⟨_, _, rfl, ?_⟩⟩
    refine ⟨_, rfl, L, 5, rfl, A, hd2', by decide, by decide, fun H3' m k3' hd3' hm => ⟨rfl, _, rfl, ?_⟩⟩
    have k13 := (k1'.trans k2').trans k3'
    have D3 := D.kp k13 (by simp [dL]) (by simp [so]) (by simp [se])
    have el3 := k13.k _ _ elz (by simp [sl])
    have en3 := k13.k _ _ enz (by simp [sn])
    have ev3 := evs_kp k13 evz
    have k03 := k.trans k13
    refine ifb (fun _ => ?_) (fun _ => ?_)
    · obtain ⟨dx3, hd3''⟩ := D3.ins
      refine ⟨_, rfl, d, dx3, _, rfl, hd3'', lk_flush .., d, c, o, e, cells, octs, evs, rfl, D3, by omega, fun H4' k4' D4' => ?_⟩
      have el4' := k4'.k _ _ el3 (by simp [lo, le_])
      have en4' := k4'.k _ _ en3 (by simp [no_, ne_])
      refine ⟨_, rfl, .inl ⟨rfl, _, SqL.of el4'⟩, l, exs, .non, rfl, rfl, el4', by rw [plen evz]; exact small16 (by omega), ?_⟩
      have k5' : Kp [l] H4' (upd H4' l (.lst (exs ++ [.non]))) := Kp.set el4' (by simp) (by intro _ z; cases z)
      have el5 : upd H4' l (.lst (exs ++ [.non])) l = some (.lst (exs ++ [.non])) := upd_same
      generalize upd H4' l (.lst (exs ++ [.non])) = H5 at k5' el5 ⊢
      have D5 := D4'.kp k5' (by simp [dl]) (by simp [lo.symm]) (by simp [le_.symm])
      have en5 := k5'.k _ _ en4' (by simp [ln_.symm])
      have kk : Kp [L, A] H H5 := (k03.then k4' fun z hz => by
        rcases mem2 hz with rfl | rfl
        · exact .inr no
        · exact .inr ne).then k5' fun z hz => .inr (by rw [List.mem_singleton.mp hz]; exact flH)
      have hd5 := (hd3'.kp k4' (by simp [so.1.symm, se.1.symm]) (by simp [so.2.symm, se.2.symm])).kp k5' (by simp [sl.1.symm]) (by simp [sl.2.symm])
      obtain ⟨octs5, eoct⟩ : ∃ x, x = octs := ⟨_, rfl⟩
      obtain ⟨evs5, eevs⟩ : ∃ x, x = evs ++ [none] := ⟨_, rfl⟩
      obtain ⟨exs5, eexs⟩ : ∃ x, x = exs ++ [V.non] := ⟨_, rfl⟩
      rw [← eexs] at el5
      rw [← eoct] at en5 D5
      rw [← eevs] at D5
      have k05 := kk
      have oco5 : ∀ x ∈ octs5, Oct x := by rw [eoct]; exact oco
      have ev5 : EvsV H5 exs5 evs5 := by rw [eexs, eevs]; exact papp (evs_kp k5' (evs_kp k4' ev3)) (.cons rfl .nil)
      have eok5 : EvOk cells.length evs5 := by
        rw [eevs]
        exact eok.append fun p x hx => absurd hx (by simp)
      have ap5 : octs5 = appl cells evs5 := by rw [eoct, eevs, appl_append, ← ap]; rfl
      have lev5 : evs5.length = i + 1 := by rw [eevs, List.length_append, lev]; rfl
      clear eoct eevs eexs
      obtain ⟨dx5, hd5'⟩ := D5.ins
      have ln5 := D5.ln
      refine ⟨_, rfl, d, dx5, _, rfl, hd5', lk_look .., _, rfl, d, c, o, e, cells, octs5, evs5, at_, rfl, D5, by omega, _, rfl, _, rfl, n, _, _, _, rfl, rfl, SqL.of en5, at_int (by omega), rfl, _, rfl, ?_⟩
      refine ifb (fun hb => absurd hb (by simp)) fun _ => ?_
      refine ⟨_, rfl, c, _, rfl, .inr (SqT.of D5.cel), _, rfl, by omega, by rw [List.length_map]; omega, fun B nB => ?_⟩
      rw [Int.toNat_natCast, List.length_map]
      refine lc_range (lo := 0) (n := cells.length) (fun i H' => Kp [] H5 H' ∧ H' B = some (.lst ((octs5.take i).map V.int))) ⟨Kp.new nB, upd_same⟩ (fun i H' hi z => ?_) fun H6 z => ?_
      · have e0 : (0 : Int) + ((i : Nat) : Int) = ((i : Nat) : Int) := by omega
        rw [e0]
        have Dz := D5.kp0 z.1
        obtain ⟨dxz, hdz'⟩ := Dz.ins
        refine ⟨rfl, _, rfl, d, dxz, _, rfl, hdz', lk_look .., _, rfl, d, c, o, e, cells, octs5, evs5, i, rfl, Dz, by omega, _, z.2, by rw [List.length_map, List.length_take]; exact small16 (by omega), ?_⟩
        refine ⟨z.1.then (Kp.set (S := [B]) z.2 (by simp) (by intro _ q; cases q)) (fun y hy => .inr (by rw [List.mem_singleton.mp hy]; exact nB)), ?_⟩
        have ei : octs5[i]? = some (octs5.getD i 0) := by
          rw [List.getD_eq_getElem?_getD, List.getElem?_eq_getElem (by omega)]; rfl
        rw [upd_same, take_snoc ei, List.map_append]
        rfl
      · obtain ⟨k56, eB⟩ := z
        rw [List.take_of_length_le (by omega)] at eB
        have nO := nc_ints (r := octs5) fun x hx => oct_abs (oco5 x hx)
        have nk : 12 * octs5.length + 3 ≤ 16000000 := by omega
        have en6 := k56.k _ _ en5 (by simp)
        refine ⟨B, _, rfl, dp_il eB, nO.shw, nO.r2, nO.r3 (by decide), nO.r4 nk, _, rfl, n, _, rfl, dp_il en6, nO.shw, nO.r2, nO.r3 (by decide), nO.r4 nk, rfl, _, rfl, ?_⟩
        refine ifb (fun hb => absurd hb (by simp)) fun _ => ?_
        exact ⟨octs5, evs5, exs5, _, _, _, _, rfl, k05.then0 k56, hd5.kp0 k56, D5.kp0 k56, k56.k _ _ el5 (by simp), evs_kp k56 ev5, en6, eok5, ap5, by omega⟩
    · obtain ⟨dx3, hd3''⟩ := D3.ins
      refine ⟨_, rfl, L, 2, rfl, A, hd3', by decide, by decide, fun H4' m2 k4' hd4' hm2 => ⟨rfl, _, rfl, ?_⟩⟩
      have D4' := D3.kp k4' (by simp [dL]) (by simp [so]) (by simp [se])
      have el4' := k4'.k _ _ el3 (by simp [sl])
      have en4' := k4'.k _ _ en3 (by simp [sn])
      have ev4' := evs_kp k4' ev3
      have k04' := k03.trans k4'
      obtain ⟨dx4, hd4''⟩ := D4'.ins
      refine ifb (fun _ => ?_) (fun _ => ?_)
      · refine ⟨_, rfl, d, dx4, _, rfl, hd4'', lk_put .., _, rfl, _, rfl, d, c, o, e, cells, octs, evs, at_, y, rfl, D4', by omega, by omega, fun Hp_ kp' Dp_ => ?_⟩
        have elp := kp'.k _ _ el4' (by simp [lo, le_])
        have enp := kp'.k _ _ en4' (by simp [no_, ne_])
        refine ⟨_, rfl, .inl ⟨rfl, _, SqL.of elp⟩, _, rfl, _, rfl, two_size, fun pr npr => ?_⟩
        have kq : Kp [] Hp_ (upd Hp_ pr (.tup [.int ((at_ : Nat) : Int), .int y])) := Kp.new npr
        have epr : upd Hp_ pr (.tup [.int ((at_ : Nat) : Int), .int y]) pr = some (.tup [.int ((at_ : Nat) : Int), .int y]) := upd_same
        generalize upd Hp_ pr (.tup [.int ((at_ : Nat) : Int), .int y]) = Hq at kq epr ⊢
        have elq := kq.k _ _ elp (by simp)
        have enq := kq.k _ _ enp (by simp)
        refine ⟨l, exs, .ref pr, rfl, rfl, elq, by rw [plen evz]; exact small16 (by omega), ?_⟩
        have kr : Kp [l] Hq (upd Hq l (.lst (exs ++ [.ref pr]))) := Kp.set elq (by simp) (by intro _ z; cases z)
        have elr : upd Hq l (.lst (exs ++ [.ref pr])) l = some (.lst (exs ++ [.ref pr])) := upd_same
        generalize upd Hq l (.lst (exs ++ [.ref pr])) = Hr at kr elr ⊢
        have enr := kr.k _ _ enq (by simp [ln_.symm])
        refine ⟨_, rfl, _, rfl, _, rfl, n, _, _, at_, rfl, rfl, enr, ixn (by rw [List.length_map]; omega), ?_⟩
        rw [map_set]
        have ks : Kp [n] Hr (upd Hr n (.lst ((octs.set at_ y).map V.int))) := Kp.set enr (by simp) (by intro _ z; cases z)
        have en5 : upd Hr n (.lst ((octs.set at_ y).map V.int)) n = some (.lst ((octs.set at_ y).map V.int)) := upd_same
        generalize upd Hr n (.lst ((octs.set at_ y).map V.int)) = H5 at ks en5 ⊢
        refine ⟨_, rfl, rfl, _, rfl, iteF ?_⟩
        have D5 := (((Dp_.kp0 kq).kp kr (by simp [dl]) (by simp [lo.symm]) (by simp [le_.symm])).kp ks (by simp [dn]) (by simp [no_.symm]) (by simp [ne_.symm]))
        have el5 := ks.k _ _ elr (by simp [ln_])
        have kk : Kp [L, A] H H5 := (((k04'.then kp' fun z hz => by
          rcases mem2 hz with rfl | rfl
          · exact .inr no
          · exact .inr ne).then0 kq).then kr fun z hz => .inr (by rw [List.mem_singleton.mp hz]; exact flH)).then ks fun z hz => .inr (by rw [List.mem_singleton.mp hz]; exact fnH)
        have hd5 := (((hd4'.kp kp' (by simp [so.1.symm, se.1.symm]) (by simp [so.2.symm, se.2.symm])).kp0 kq).kp kr (by simp [sl.1.symm]) (by simp [sl.2.symm])).kp ks (by simp [sn.1.symm]) (by simp [sn.2.symm])
        obtain ⟨octs5, eoct⟩ : ∃ x, x = octs.set at_ y := ⟨_, rfl⟩
        obtain ⟨evs5, eevs⟩ : ∃ x, x = evs ++ [some (at_, y)] := ⟨_, rfl⟩
        obtain ⟨exs5, eexs⟩ : ∃ x, x = exs ++ [V.ref pr] := ⟨_, rfl⟩
        rw [← eexs] at el5
        rw [← eoct] at en5 D5
        rw [← eevs] at D5
        have k05 := kk
        have oco5 : ∀ x ∈ octs5, Oct x := by
          rw [eoct]
          intro x hx
          rcases List.mem_or_eq_of_mem_set hx with z | z
          · exact oco x z
          · rw [z]; exact oy
        have ev5 : EvsV H5 exs5 evs5 := by
          rw [eexs, eevs]
          exact papp (evs_kp ks (evs_kp kr (evs_kp kq (evs_kp kp' ev4')))) (.cons ⟨pr, rfl, ks.t _ _ (kr.t _ _ epr)⟩ .nil)
        have eok5 : EvOk cells.length evs5 := by
          rw [eevs]
          refine eok.append fun p x hx => ?_
          have : p = at_ ∧ x = y := by simpa using hx
          rw [this.1, this.2]; exact ⟨hat, oy⟩
        have ap5 : octs5 = appl cells evs5 := by rw [eoct, eevs, appl_append, ← ap]; rfl
        have lev5 : evs5.length = i + 1 := by rw [eevs, List.length_append, lev]; rfl
        clear eoct eevs eexs
        obtain ⟨dx5, hd5'⟩ := D5.ins
        have ln5 := D5.ln
        refine ⟨_, rfl, d, dx5, _, rfl, hd5', lk_look .., _, rfl, d, c, o, e, cells, octs5, evs5, at_, rfl, D5, by omega, _, rfl, _, rfl, n, _, _, _, rfl, rfl, SqL.of en5, at_int (by omega), rfl, _, rfl, ?_⟩
        refine ifb (fun hb => absurd hb (by simp)) fun _ => ?_
        refine ⟨_, rfl, c, _, rfl, .inr (SqT.of D5.cel), _, rfl, by omega, by rw [List.length_map]; omega, fun B nB => ?_⟩
        rw [Int.toNat_natCast, List.length_map]
        refine lc_range (lo := 0) (n := cells.length) (fun i H' => Kp [] H5 H' ∧ H' B = some (.lst ((octs5.take i).map V.int))) ⟨Kp.new nB, upd_same⟩ (fun i H' hi z => ?_) fun H6 z => ?_
        · have e0 : (0 : Int) + ((i : Nat) : Int) = ((i : Nat) : Int) := by omega
          rw [e0]
          have Dz := D5.kp0 z.1
          obtain ⟨dxz, hdz'⟩ := Dz.ins
          refine ⟨rfl, _, rfl, d, dxz, _, rfl, hdz', lk_look .., _, rfl, d, c, o, e, cells, octs5, evs5, i, rfl, Dz, by omega, _, z.2, by rw [List.length_map, List.length_take]; exact small16 (by omega), ?_⟩
          refine ⟨z.1.then (Kp.set (S := [B]) z.2 (by simp) (by intro _ q; cases q)) (fun y hy => .inr (by rw [List.mem_singleton.mp hy]; exact nB)), ?_⟩
          have ei : octs5[i]? = some (octs5.getD i 0) := by
            rw [List.getD_eq_getElem?_getD, List.getElem?_eq_getElem (by omega)]; rfl
          rw [upd_same, take_snoc ei, List.map_append]
          rfl
        · obtain ⟨k56, eB⟩ := z
          rw [List.take_of_length_le (by omega)] at eB
          have nO := nc_ints (r := octs5) fun x hx => oct_abs (oco5 x hx)
          have nk : 12 * octs5.length + 3 ≤ 16000000 := by omega
          have en6 := k56.k _ _ en5 (by simp)
          refine ⟨B, _, rfl, dp_il eB, nO.shw, nO.r2, nO.r3 (by decide), nO.r4 nk, _, rfl, n, _, rfl, dp_il en6, nO.shw, nO.r2, nO.r3 (by decide), nO.r4 nk, rfl, _, rfl, ?_⟩
          refine ifb (fun hb => absurd hb (by simp)) fun _ => ?_
          exact ⟨octs5, evs5, exs5, _, _, _, _, rfl, k05.then0 k56, hd5.kp0 k56, D5.kp0 k56, k56.k _ _ el5 (by simp), evs_kp k56 ev5, en6, eok5, ap5, by omega⟩
      · refine ⟨_, rfl, d, dx4, _, rfl, hd4'', lk_put .., _, rfl, _, rfl, d, c, o, e, cells, octs, evs, at_, y, rfl, D4', by omega, by omega, fun Hp_ kp' Dp_ => ?_⟩
        have elp := kp'.k _ _ el4' (by simp [lo, le_])
        have enp := kp'.k _ _ en4' (by simp [no_, ne_])
        refine ⟨_, rfl, .inl ⟨rfl, _, SqL.of elp⟩, _, rfl, _, rfl, two_size, fun pr npr => ?_⟩
        have kq : Kp [] Hp_ (upd Hp_ pr (.tup [.int ((at_ : Nat) : Int), .int y])) := Kp.new npr
        have epr : upd Hp_ pr (.tup [.int ((at_ : Nat) : Int), .int y]) pr = some (.tup [.int ((at_ : Nat) : Int), .int y]) := upd_same
        generalize upd Hp_ pr (.tup [.int ((at_ : Nat) : Int), .int y]) = Hq at kq epr ⊢
        have elq := kq.k _ _ elp (by simp)
        have enq := kq.k _ _ enp (by simp)
        refine ⟨l, exs, .ref pr, rfl, rfl, elq, by rw [plen evz]; exact small16 (by omega), ?_⟩
        have kr : Kp [l] Hq (upd Hq l (.lst (exs ++ [.ref pr]))) := Kp.set elq (by simp) (by intro _ z; cases z)
        have elr : upd Hq l (.lst (exs ++ [.ref pr])) l = some (.lst (exs ++ [.ref pr])) := upd_same
        generalize upd Hq l (.lst (exs ++ [.ref pr])) = Hr at kr elr ⊢
        have enr := kr.k _ _ enq (by simp [ln_.symm])
        refine ⟨_, rfl, _, rfl, _, rfl, n, _, _, at_, rfl, rfl, enr, ixn (by rw [List.length_map]; omega), ?_⟩
        rw [map_set]
        have ks : Kp [n] Hr (upd Hr n (.lst ((octs.set at_ y).map V.int))) := Kp.set enr (by simp) (by intro _ z; cases z)
        have en5 : upd Hr n (.lst ((octs.set at_ y).map V.int)) n = some (.lst ((octs.set at_ y).map V.int)) := upd_same
        generalize upd Hr n (.lst ((octs.set at_ y).map V.int)) = H5 at ks en5 ⊢
        refine ⟨_, rfl, rfl, _, rfl, iteF ?_⟩
        have D5 := (((Dp_.kp0 kq).kp kr (by simp [dl]) (by simp [lo.symm]) (by simp [le_.symm])).kp ks (by simp [dn]) (by simp [no_.symm]) (by simp [ne_.symm]))
        have el5 := ks.k _ _ elr (by simp [ln_])
        have kk : Kp [L, A] H H5 := (((k04'.then kp' fun z hz => by
          rcases mem2 hz with rfl | rfl
          · exact .inr no
          · exact .inr ne).then0 kq).then kr fun z hz => .inr (by rw [List.mem_singleton.mp hz]; exact flH)).then ks fun z hz => .inr (by rw [List.mem_singleton.mp hz]; exact fnH)
        have hd5 := (((hd4'.kp kp' (by simp [so.1.symm, se.1.symm]) (by simp [so.2.symm, se.2.symm])).kp0 kq).kp kr (by simp [sl.1.symm]) (by simp [sl.2.symm])).kp ks (by simp [sn.1.symm]) (by simp [sn.2.symm])
        obtain ⟨octs5, eoct⟩ : ∃ x, x = octs.set at_ y := ⟨_, rfl⟩
        obtain ⟨evs5, eevs⟩ : ∃ x, x = evs ++ [some (at_, y)] := ⟨_, rfl⟩
        obtain ⟨exs5, eexs⟩ : ∃ x, x = exs ++ [V.ref pr] := ⟨_, rfl⟩
        rw [← eexs] at el5
        rw [← eoct] at en5 D5
        rw [← eevs] at D5
        have k05 := kk
        have oco5 : ∀ x ∈ octs5, Oct x := by
          rw [eoct]
          intro x hx
          rcases List.mem_or_eq_of_mem_set hx with z | z
          · exact oco x z
          · rw [z]; exact oy
        have ev5 : EvsV H5 exs5 evs5 := by
          rw [eexs, eevs]
          exact papp (evs_kp ks (evs_kp kr (evs_kp kq (evs_kp kp' ev4')))) (.cons ⟨pr, rfl, ks.t _ _ (kr.t _ _ epr)⟩ .nil)
        have eok5 : EvOk cells.length evs5 := by
          rw [eevs]
          refine eok.append fun p x hx => ?_
          have : p = at_ ∧ x = y := by simpa using hx
          rw [this.1, this.2]; exact ⟨hat, oy⟩
        have ap5 : octs5 = appl cells evs5 := by rw [eoct, eevs, appl_append, ← ap]; rfl
        have lev5 : evs5.length = i + 1 := by rw [eevs, List.length_append, lev]; rfl
        clear eoct eevs eexs
        obtain ⟨dx5, hd5'⟩ := D5.ins
        have ln5 := D5.ln
        refine ⟨_, rfl, d, dx5, _, rfl, hd5', lk_look .., _, rfl, d, c, o, e, cells, octs5, evs5, at_, rfl, D5, by omega, _, rfl, _, rfl, n, _, _, _, rfl, rfl, SqL.of en5, at_int (by omega), rfl, _, rfl, ?_⟩
        refine ifb (fun hb => absurd hb (by simp)) fun _ => ?_
        refine ⟨_, rfl, c, _, rfl, .inr (SqT.of D5.cel), _, rfl, by omega, by rw [List.length_map]; omega, fun B nB => ?_⟩
        rw [Int.toNat_natCast, List.length_map]
        refine lc_range (lo := 0) (n := cells.length) (fun i H' => Kp [] H5 H' ∧ H' B = some (.lst ((octs5.take i).map V.int))) ⟨Kp.new nB, upd_same⟩ (fun i H' hi z => ?_) fun H6 z => ?_
        · have e0 : (0 : Int) + ((i : Nat) : Int) = ((i : Nat) : Int) := by omega
          rw [e0]
          have Dz := D5.kp0 z.1
          obtain ⟨dxz, hdz'⟩ := Dz.ins
          refine ⟨rfl, _, rfl, d, dxz, _, rfl, hdz', lk_look .., _, rfl, d, c, o, e, cells, octs5, evs5, i, rfl, Dz, by omega, _, z.2, by rw [List.length_map, List.length_take]; exact small16 (by omega), ?_⟩
          refine ⟨z.1.then (Kp.set (S := [B]) z.2 (by simp) (by intro _ q; cases q)) (fun y hy => .inr (by rw [List.mem_singleton.mp hy]; exact nB)), ?_⟩
          have ei : octs5[i]? = some (octs5.getD i 0) := by
            rw [List.getD_eq_getElem?_getD, List.getElem?_eq_getElem (by omega)]; rfl
          rw [upd_same, take_snoc ei, List.map_append]
          rfl
        · obtain ⟨k56, eB⟩ := z
          rw [List.take_of_length_le (by omega)] at eB
          have nO := nc_ints (r := octs5) fun x hx => oct_abs (oco5 x hx)
          have nk : 12 * octs5.length + 3 ≤ 16000000 := by omega
          have en6 := k56.k _ _ en5 (by simp)
          refine ⟨B, _, rfl, dp_il eB, nO.shw, nO.r2, nO.r3 (by decide), nO.r4 nk, _, rfl, n, _, rfl, dp_il en6, nO.shw, nO.r2, nO.r3 (by decide), nO.r4 nk, rfl, _, rfl, ?_⟩
          refine ifb (fun hb => absurd hb (by simp)) fun _ => ?_
          exact ⟨octs5, evs5, exs5, _, _, _, _, rfl, k05.then0 k56, hd5.kp0 k56, D5.kp0 k56, k56.k _ _ el5 (by simp), evs_kp k56 ev5, en6, eok5, ap5, by omega⟩
  · obtain ⟨octs, evs, exs, a5, a6, a7, a8, rfl, k, hdz, D, elz, evz, enz, eok, ap, lev⟩ := z
    have lnD := D.ln
    refine ⟨_, rfl, l, exs, rfl, .inl ⟨SqL.of elz, fun te nte => ?_⟩⟩
    have k6 : Kp [] H' (upd H' te (.tup exs)) := Kp.new nte
    have ete : upd H' te (.tup exs) te = some (.tup exs) := upd_same
    generalize upd H' te (.tup exs) = H6 at k6 ete ⊢
    have lx := plen evz
    have D6 := D.kp0 k6
    obtain ⟨dx6, hd6'⟩ := D6.ins
    have ev6 := evs_kp k6 evz
    have nE : Nc (evsD evs) 1000 2 := (nc_evs (es := evs) fun p x hx => ⟨by have := (eok p x hx).1; omega, oct_abs (eok p x hx).2⟩).mono (by omega) (Nat.le_refl _)
    refine ⟨_, rfl, d, dx6, _, rfl, hd6', lk_dev .., d, c, o, e, cells, octs, evs, rfl, D6, fun H7 tv k7 etv => ?_⟩
    have ete7 := k7.t _ _ ete
    have ev7 := evs_kp k7 ev6
    refine ⟨tv, _, rfl, dp_evs etv, nE.shw, nE.r2, nE.r3 (by decide), nE.r4 (by decide), _, rfl, te, _, rfl, dp_evs ⟨_, ete7, ev7⟩, nE.shw, nE.r2, nE.r3 (by decide), nE.r4 (by decide), rfl, _, rfl, ?_⟩
    refine ifb (fun hb => absurd hb (by simp)) fun _ => ?_
    have D7 := D6.kp0 k7
    obtain ⟨dx7, hd7'⟩ := D7.ins
    have nC : Nc (recD cells) 100000 1 := (nc_rec (r := cells) fun x hx => oct_abs (oc x hx)).mono (by omega) (Nat.le_refl _)
    refine ⟨_, rfl, d, _, dx7, _, _, rfl, hd7', T.clD, T.nDcells, lk_cells .., _, rfl, ?_⟩
    refine neD_use nC nC (dp_it D7.cel) (dp_it D7.cel) (by decide) (by decide) ⟨_, rfl, ?_⟩
    rw [eqv_self nC]
    refine iteF ?_
    have k07 := k.then0 (k6.trans k7)
    have hd7 := hdz.kp0 (k6.trans k7)
    -- the two ends
    have exl : ((((exs.length : Nat) : Int)) + 1) = ((exs.length + 1 : Nat) : Int) := by omega
    refine ⟨_, rfl, te, exs, rfl, .inr (SqT.of ete7), _, rfl, _, rfl, te, exs, rfl, .inr (SqT.of ete7), _, _, rfl, rfl, L, exs.length + 1, by rw [← exl]; rfl, A, hd7, by omega, by omega, fun H8 kq k8 hd8 hkq => ⟨two_size, fun s ns => ?_⟩⟩
    have k9 : Kp [] H8 (upd H8 s (.lst [.int ((exs.length : Nat) : Int), .int ((kq : Nat) : Int)])) := Kp.new ns
    have es9 : upd H8 s (.lst [.int ((exs.length : Nat) : Int), .int ((kq : Nat) : Int)]) s = some (.lst [.int ((exs.length : Nat) : Int), .int ((kq : Nat) : Int)]) := upd_same
    generalize upd H8 s (.lst [.int ((exs.length : Nat) : Int), .int ((kq : Nat) : Int)]) = H9 at k9 es9 ⊢
    have es9' : H9 s = some (.lst ([exs.length, kq].map nV)) := es9
    have hd9 := hd8.kp0 k9
    have nns := hd8.nn ns
    have k79 := k8.trans (kLA (L := L) (A := A) k9)
    have k09 := k07.trans k79
    have ete9 := k79.t _ _ ete7
    have ev9 := evs_kp k79 ev7
    have ec9 := k09.t _ _ ec
    refine ⟨s, rfl, ⟨_, SqL.of es9'⟩, for_list (K := K) (a := s) (xs := [exs.length, kq].map nV) (fun i σ H' => (∃ a5 a6 a7 a8 a9 a10 a11 a12 a13 a14 a15, σ = [some (.ref L), some (.ref c), some (.ref d), some (.ref te), some (.ref n), a5, a6, a7, a8, a9, a10, a11, a12, a13, a14, a15]) ∧ Kp [L, A] H9 H' ∧ Hd H' L A)
      ⟨⟨_, _, _, _, _, _, _, _, _, _, _, rfl⟩, .refl, hd9⟩ (fun i σ H' _ z => SqL.of (z.2.1.k _ _ es9' (by simp [nns]))) (fun i x σ H' hx z => ?_) fun σ H' z => ?_⟩
    · obtain ⟨⟨a5, a6, a7, a8, a9, a10, a11, a12, a13, a14, a15, rfl⟩, kz, hz⟩ := z
      rw [List.getElem?_map] at hx
      cases hy : ([exs.length, kq] : List Nat)[i]? with
      | none => rw [hy] at hx; cases hx
      | some m =>
        rw [hy] at hx
        obtain rfl : nV m = x := Option.some.inj hx
        have hm : m ≤ evs.length := by
          have := List.mem_of_getElem? hy
          simp only [List.mem_cons, List.not_mem_nil, or_false] at this
          omega
        have etz := kz.t _ _ ete9
        have evz' := evs_kp kz ev9
        have ecz := kz.t _ _ ec9
        have sub : ∀ {Hx : Hp} {tx : Addr}, Kp [L, A] H' Hx → Hx tx = some (.tup (exs.take m)) → EvT Hx tx (evs.take m) := fun {Hx tx} kx ex => ⟨_, ex, ptake m (evs_kp kx evz')⟩
        refine ⟨_, rfl, _, rfl, _, rfl, _, rfl, sl_use etz fun t2 Ha ka et2 => ?_⟩
        rw [cutV_to] at et2
        have eokm := eok.take m
        have lm : (evs.take m).length < 60 := by rw [List.length_take]; omega
        refine ⟨c, t2, cells, evs.take m, rfl, ka.t _ _ ecz, sub (kLA ka) et2, eokm, oc, by omega, by omega, fun Hb v l1 l2 l3 ls kb nv f1 f2 f3 d0 d1 d2 ev e1 e2 e3 ll lo2 le2 => ?_⟩
        refine ⟨v, _, rfl, SqL.of ev, rfl, _, _, rfl, _, _, rfl, _, _, rfl, rfl, ?_⟩
        have hdb := (hz.kp0 ka).kp0 kb
        have m1 := (hz.kp0 ka).nn f1
        have m2 := (hz.kp0 ka).nn f2
        generalize ees : evs.take m = es at *
        have pnd := pendL_nodup cells.length es
        have ppl : ∀ i, i ∈ pendL cells.length es ↔ i ∈ pend es := fun i => mem_pendL eokm
        generalize epl : pendL cells.length es = pl at *
        have pm : ∀ i ∈ pl, i < cells.length := fun i hi => by
          rw [← epl] at hi
          exact List.mem_range.mp (List.mem_filter.mp hi).1
        have pll : pl.length ≤ 100 := by
          have := List.length_filter_le (fun i => decide (i ∈ pend es)) (List.range cells.length)
          rw [List.length_range] at this
          rw [← epl]
          unfold pendL
          omega
        -- octets for the pending places
        refine ⟨_, rfl, l2, rfl, ⟨_, SqL.of e2⟩, fun B nB => lc_list (K := K) (a := l2) (xs := pl.map nV) (fun i H2 => Kp [L, A] Hb H2 ∧ Hd H2 L A ∧ ∃ r : List Int, H2 B = some (.lst (r.map V.int)) ∧ r.length = i ∧ ∀ y ∈ r, Oct y) ⟨Kp.new nB, hdb.kp (Kp.new nB (S := [])) (by simp) (by simp), [], upd_same, rfl, fun y hy => absurd hy (by simp)⟩ (fun i H2 _ z => SqL.of (z.1.k _ _ e2 (by simp [m2]))) (fun i x H2 hx2 z => ?_) fun Hc z => ?_⟩
        · obtain ⟨kz2, hz2, r, eB, lr, ho⟩ := z
          have nb := hdb.nn nB
          have hi2 : i < pl.length := by
            have := (List.getElem?_eq_some_iff.mp hx2).1
            rw [nat_len] at this
            exact this
          refine ⟨rfl, _, rfl, L, rfl, A, hz2, fun H4 y k4 hd4 oy => ?_⟩
          have eB4 := k4.k _ _ eB (by simp [nb])
          refine ⟨_, eB4, by rw [List.length_map]; exact small16 (by omega), ?_⟩
          have k5 : Kp [B] H4 (upd H4 B (.lst (r.map V.int ++ [.int y]))) := Kp.set eB4 (by simp) (by intro _ q; cases q)
          refine ⟨(kz2.trans k4).then k5 (fun z hz => .inr (by rw [List.mem_singleton.mp hz]; exact nB)), hd4.kp k5 (by simp [nb.1.symm]) (by simp [nb.2.symm]), r ++ [y], by rw [upd_same, List.map_append]; rfl, by rw [List.length_append, List.length_singleton]; omega, fun z hz => ?_⟩
          rcases List.mem_append.mp hz with h1 | h1
          · exact ho z h1
          · rw [List.mem_singleton.mp h1]; exact oy
        · obtain ⟨kbc, hdc, os, eB, los, oos⟩ := z
          rw [nat_len] at los
          refine ⟨B, _, rfl, .inl ⟨SqL.of eB, fun u nu => ?_⟩⟩
          have kd : Kp [] Hc (upd Hc u (.tup (os.map V.int))) := Kp.new nu
          have eu : upd Hc u (.tup (os.map V.int)) u = some (.tup (os.map V.int)) := upd_same
          generalize upd Hc u (.tup (os.map V.int)) = Hd_ at kd eu ⊢
          have hdd := hdc.kp0 kd
          have kbd := kbc.trans (kLA (L := L) (A := A) kd)
          have e1d := kbd.k _ _ e1 (by simp [m1])
          have e2d := kbd.k _ _ e2 (by simp [m2])
          have kzd := ((kLA (L := L) (A := A) (ka.trans kb))).trans kbd
          have ecd := kzd.t _ _ ecz
          have etd := kzd.t _ _ etz
          -- what is due
          have al : (appl cells es).length = cells.length := appl_length _ _
          have lX : (setAll (appl cells es) (pl.zip os)).length = cells.length := by rw [setAll_length, al]
          have X1 : ∀ (i j : Nat), pl[j]? = some i → (setAll (appl cells es) (pl.zip os)).getD i 0 = os.getD j 0 := fun i j h => setAll_at pl os _ j i pnd h (by have := (List.getElem?_eq_some_iff.mp h).1; omega) (by rw [al]; exact pm i (List.mem_of_getElem? h))
          have X2 : ∀ i, i ∉ pl → (setAll (appl cells es) (pl.zip os)).getD i 0 = ls.getD i 0 := fun i h => by
            rw [setAll_off _ _ _ fun p hp z => h (by rw [← z]; exact (List.of_mem_zip hp).1), le2 i fun z => h ((ppl i).mpr z)]
          have oX : ∀ x ∈ setAll (appl cells es) (pl.zip os), Oct x := fun x hx => by
            obtain ⟨i, hi, rfl⟩ := List.mem_iff_getElem.mp hx
            have eg : (setAll (appl cells es) (pl.zip os))[i] = (setAll (appl cells es) (pl.zip os)).getD i 0 := by rw [List.getD_eq_getElem?_getD, List.getElem?_eq_getElem hi]; rfl
            rw [eg]
            by_cases hip : i ∈ pl
            · obtain ⟨j, hj⟩ := List.mem_iff_getElem?.mp hip
              rw [X1 i j hj]
              exact oct_at oos j
            · rw [X2 i hip]
              exact oct_at lo2 i
          generalize eX : setAll (appl cells es) (pl.zip os) = X at *
          refine ⟨_, rfl, c, _, rfl, .inr (SqT.of ecd), _, rfl, by omega, by rw [List.length_map]; omega, fun F nF => ?_⟩
          rw [Int.toNat_natCast, List.length_map]
          refine lc_range (lo := 0) (n := cells.length) (fun i H2 => Kp [] Hd_ H2 ∧ H2 F = some (.lst ((X.take i).map V.int))) ⟨Kp.new nF, upd_same⟩ (fun i H2 hi2 z => ?_) fun He z => ?_
          · have e0 : (0 : Int) + ((i : Nat) : Int) = ((i : Nat) : Int) := by omega
            rw [e0]
            have e1z := z.1.k _ _ e1d (by simp)
            have e2z := z.1.k _ _ e2d (by simp)
            have euz := z.1.t _ _ eu
            have iv := inV_nat i pl
            have ei : X[i]? = some (X.getD i 0) := by
              rw [List.getD_eq_getElem?_getD, List.getElem?_eq_getElem (by omega)]; rfl
            have fin : ∀ y, y = X.getD i 0 → ∃ acc, H2 F = some (.lst acc) ∧ acc.length < sizeLine ∧ (Kp [] Hd_ (upd H2 F (.lst (acc ++ [V.int y]))) ∧ (upd H2 F (.lst (acc ++ [V.int y]))) F = some (.lst ((X.take (i + 1)).map V.int))) := fun y hy => by
              refine ⟨_, z.2, by rw [List.length_map, List.length_take]; exact small16 (by omega), ?_⟩
              refine ⟨z.1.then (Kp.set (S := [F]) z.2 (by simp) (by intro _ q; cases q)) (fun y hy => .inr (by rw [List.mem_singleton.mp hy]; exact nF)), ?_⟩
              rw [upd_same, take_snoc ei, List.map_append, hy]
              rfl
            refine ⟨rfl, _, rfl, _, rfl, l2, _, rfl, .inl (SqL.of e2z), rfl, flat_nat _, _, rfl, ?_⟩
            refine ifb (fun hb => ?_) (fun hb => ?_)
            · have hb' : decide (i ∈ pl) = true := by rw [← iv]; exact hb
              have hip : i ∈ pl := of_decide_eq_true hb'
              obtain ⟨j, hj⟩ := List.mem_iff_getElem?.mp hip
              have hjl := (List.getElem?_eq_some_iff.mp hj).1
              have hjm : (pl.map nV)[j]? = some (nV i) := by rw [List.getElem?_map, hj]; rfl
              refine ⟨_, rfl, _, rfl, .inl ⟨rfl, _, SqL.of e2z⟩, _, rfl, l2, _, nV i, j, nV i, rfl, rfl, SqL.of e2z, rfl, flat_nat _, hjm, by rw [eqV_nat]; simp, fun m' z' hm' hz' => ?_, ?_⟩
              · rw [List.getElem?_map] at hz'
                cases hq : pl[m']? with
                | none => rw [hq] at hz'; cases hz'
                | some b =>
                  rw [hq] at hz'
                  obtain rfl : nV b = z' := Option.some.inj hz'
                  rw [eqV_nat]
                  refine decide_eq_false fun hbi => ?_
                  subst hbi
                  have := (List.getElem?_inj (List.getElem?_eq_some_iff.mp hq).1 pnd).mp (hq.trans hj.symm)
                  omega
              · exact ⟨u, _, _, _, rfl, rfl, SqT.of euz, at_int (by omega), fin _ (X1 i j hj).symm⟩
            · have hb' : decide (i ∈ pl) = false := by rw [← iv]; exact hb
              have hip : i ∉ pl := of_decide_eq_false hb'
              exact ⟨_, rfl, _, rfl, l1, _, _, _, rfl, rfl, SqL.of e1z, at_int (by omega), fin _ (X2 i hip).symm⟩
          · obtain ⟨kde, eF⟩ := z
            rw [List.take_of_length_le (by omega)] at eF
            refine ⟨F, _, rfl, .inl ⟨SqL.of eF, fun w nw => ?_⟩⟩
            have kf : Kp [] He (upd He w (.tup (X.map V.int))) := Kp.new nw
            have ew : upd He w (.tup (X.map V.int)) w = some (.tup (X.map V.int)) := upd_same
            generalize upd He w (.tup (X.map V.int)) = Hf at kf ew ⊢
            have hdf := (hdd.kp0 kde).kp0 kf
            have kdf := kde.trans kf
            have kzf := kzd.then0 kdf
            have ecf := kdf.t _ _ ecd
            have etf := kdf.t _ _ etd
            have euf := kdf.t _ _ eu
            have e2f := kdf.k _ _ e2d (by simp)
            have nP : Nc (recD (natI pl)) 100000 1 := (nc_rec (r := natI pl) (natI_abs fun i hi => by have := pm i hi; omega)).mono (by unfold natI; rw [List.length_map]; omega) (Nat.le_refl _)
            have nX : Nc (recD X) 100000 1 := (nc_rec (r := X) fun x hx => oct_abs (oX x hx)).mono (by omega) (Nat.le_refl _)
            -- the pending places
            refine ⟨_, rfl, _, rfl, _, rfl, sl_use etf fun t3 Hg kg et3 => ?_⟩
            rw [cutV_to] at et3
            refine ⟨t3, cells.length, es, rfl, sub (kzf.then0 kg) et3, eokm, lm, fun Hh p1 kh ep1 => ?_⟩
            rw [epl, natI_nV] at ep1
            have kfh := kg.trans kh
            refine ⟨p1, _, rfl, dp_it ep1, nP.shw, nP.r2, nP.r3 (by decide), nP.r4 (by decide), _, rfl, l2, _, rfl, .inl ⟨SqL.of (kfh.k _ _ e2f (by simp)), fun p2 np2 => ?_⟩⟩
            rw [natI_nV]
            have ki : Kp [] Hh (upd Hh p2 (.tup ((natI pl).map V.int))) := Kp.new np2
            have ep2 : upd Hh p2 (.tup ((natI pl).map V.int)) p2 = some (.tup ((natI pl).map V.int)) := upd_same
            generalize upd Hh p2 (.tup ((natI pl).map V.int)) = Hi at ki ep2 ⊢
            refine ⟨p2, _, rfl, dp_it ep2, nP.shw, nP.r2, nP.r3 (by decide), nP.r4 (by decide), rfl, _, rfl, ?_⟩
            refine ifb (fun hb => absurd hb (by simp)) fun _ => ?_
            have kfi := kfh.trans ki
            refine ⟨_, rfl, _, rfl, _, rfl, sl_use (kfi.t _ _ etf) fun t4 Hj kj et4 => ?_⟩
            rw [cutV_to] at et4
            refine ⟨t4, cells.length, es, rfl, sub (kzf.then0 (kfi.trans kj)) et4, eokm, lm, fun Hk p3 kk ep3 => ?_⟩
            rw [epl, natI_nV] at ep3
            have kfk := kfi.trans (kj.trans kk)
            refine ⟨_, rfl, l2, _, rfl, .inl ⟨SqL.of (kfk.k _ _ e2f (by simp)), fun p4 np4 => ?_⟩⟩
            rw [natI_nV]
            have kl : Kp [] Hk (upd Hk p4 (.tup ((natI pl).map V.int))) := Kp.new np4
            have ep4 : upd Hk p4 (.tup ((natI pl).map V.int)) p4 = some (.tup ((natI pl).map V.int)) := upd_same
            generalize upd Hk p4 (.tup ((natI pl).map V.int)) = Hl at kl ep4 ⊢
            refine neD_use nP nP (dp_it (kl.t _ _ ep3)) (dp_it ep4) (by decide) (by decide) ⟨_, rfl, ?_⟩
            rw [eqv_self nP]
            refine iteF ?_
            have kfl := kfk.trans kl
            -- the cut cells
            refine ⟨_, rfl, _, rfl, _, rfl, _, rfl, sl_use (kfl.t _ _ etf) fun t5 Hm km et5 => ?_⟩
            rw [cutV_to] at et5
            have kfm := kfl.trans km
            refine ⟨_, rfl, c, t5, u, cells, es, os, rfl, kfm.t _ _ ecf, sub (kzf.then0 kfm) et5, eokm, lm, kfm.t _ _ euf, by rw [epl]; exact los.symm, by omega, fun Hn p5 kn ep5 => ?_⟩
            rw [epl, eX] at ep5
            have kfn := kfm.trans kn
            refine ⟨p5, _, rfl, dp_it ep5, nX.shw, nX.r2, nX.r3 (by decide), nX.r4 (by decide), _, rfl, w, _, rfl, dp_it (kfn.t _ _ ew), nX.shw, nX.r2, nX.r3 (by decide), nX.r4 (by decide), rfl, _, rfl, ?_⟩
            refine ifb (fun hb => absurd hb (by simp)) fun _ => ?_
            refine ⟨_, rfl, _, rfl, _, rfl, _, rfl, sl_use (kfn.t _ _ etf) fun t6 Ho ko et6 => ?_⟩
            rw [cutV_to] at et6
            have kfo := kfn.trans ko
            refine ⟨_, rfl, c, t6, u, cells, es, os, rfl, kfo.t _ _ ecf, sub (kzf.then0 kfo) et6, eokm, lm, kfo.t _ _ euf, by rw [epl]; exact los.symm, by omega, fun Hp_ p6 kp_ ep6 => ?_⟩
            rw [epl, eX] at ep6
            have kfp := kfo.trans kp_
            refine ⟨_, rfl, ?_⟩
            refine neD_use nX nX (dp_it ep6) (dp_it (kfp.t _ _ ew)) (by decide) (by decide) ⟨_, rfl, ?_⟩
            rw [eqv_self nX]
            refine iteF ?_
            exact ⟨⟨_, _, _, _, _, _, _, _, _, _, _, rfl⟩, kz.trans (kzf.then0 kfp), hdf.kp0 kfp⟩
    · obtain ⟨⟨a5, a6, a7, a8, a9, a10, a11, a12, a13, a14, a15, rfl⟩, kz, hz⟩ := z
      exact q H' (k09.trans kz) hz
end
end KJ
end

section
namespace KJ
open PySem PySem.Spec PyProof.Rows L2 KM
section
variable {P : Program} {w : World} {K : PySem.W.Frag} {mg : Str → Option Value} {base : Heap}
theorem SqL.kp0 {K : PySem.W.Frag} {H H' : Hp} {a : Addr} {xs : List V} (k : Kp [] H H') (h : SqL K H a xs) : SqL K H' a xs := by
  rcases h with h | h
  · refine .inl ?_
    rcases h with h | ⟨o, h⟩
    · exact .inl (k.k _ _ h (by simp))
    · exact .inr ⟨o, k.k _ _ h (by simp)⟩
  · exact .inr h
def sp_law (T : Tx P K mg) : Sp := fun vs H Q _ => ∃ (a : Addr) (ns : List Int), vs = [.ref a] ∧ SqL K H a (ns.map V.int) ∧ ns.length ≤ 63 ∧ ∀ H', Q (.bl true) H'
--N 2
theorem ok_law (T : Tx P K mg) : FnG P w K mg base (L2.CX P w) 10 T.f_law T.d_law ["_law_script"] (sp_law T) := by
  refine T.F_law.okG (k := 9) sc_law (fun vs H Q E h => by obtain ⟨_, _, rfl, _⟩ := h; rfl) (fun cdv A outer s H vs Q E hr hgd h => ?_)
  refine ⟨_, PSs.nox (pss_cons (ps_set (i := 1) sc_law.nd rfl (Or.inr rfl) (pe_call (ok_heap T) (hr.mono (by decide)) rfl T.g_heap T.F_heap.kp T.b_heap .nil passL (pa_cons (pv 0) pa_nil)))
 (pss_cons (ps_set (i := 2) sc_law.nd rfl (Or.inl rfl) (pe_ifExp (pt_cmpR op_gt (pe_callB call_len_seq rfl T.n_len (by decide +kernel) (pa_cons (pv 0) pa_nil)) pe_int (nomark _)) (pe_lst (pa_cons pe_int (pa_cons pe_int (pa_cons pe_int (pa_cons pe_int (pa_cons pe_int (pa_cons pe_int pa_nil))))))) (pe_lst (pa_cons pe_int (pa_cons pe_int (pa_cons pe_int pa_nil))))))
 (pss_cons (ps_if (pt_not (pt_val (pe_callG (ok_day_right T) (hr.mono (by decide)) hgd rfl T.g_day_right T.F_day_right.kp T.b_day_right .nil passL (pa_cons (pv 1) (pa_cons (pe_call (ok_pick T) (hr.mono (by decide)) rfl T.g_pick T.F_pick.kp T.b_pick .nil passL (pa_cons (pv 1) (pa_cons (pv 2) pa_nil))) (pa_cons (pe_op op_add pe_int (pe_op op_mul pe_int (pe_callTy call_int1 rfl T.n_int (by decide +kernel) (pa_cons (pe_cmpR op_gt (pe_callB call_len_seq rfl T.n_len (by decide +kernel) (pa_cons (pv 0) pa_nil)) pe_int (nomark _)) pa_nil)))) (pa_cons (pe_op op_add pe_int (pe_op op_mul pe_int (pe_callTy call_int1 rfl T.n_int (by decide +kernel) (pa_cons (pe_cmpR op_gt (pe_callB call_len_seq rfl T.n_len (by decide +kernel) (pa_cons (pv 0) pa_nil)) pe_int (nomark _)) pa_nil)))) pa_nil)))))))
 (pss_one (ps_ret pe_bl))
 pss_nil)
 (pss_cons (ps_if (pt_not (pt_val (pe_callG (ok_day_right T) (hr.mono (by decide)) hgd rfl T.g_day_right T.F_day_right.kp T.b_day_right .nil passL (pa_cons (pv 1) (pa_cons (pe_op op_add pe_int (pe_call (ok_draw T) (hr.mono (by decide)) rfl T.g_draw T.F_draw.kp T.b_draw .nil passL (pa_cons (pv 1) (pa_cons pe_int pa_nil)))) (pa_cons pe_int (pa_cons pe_int pa_nil)))))))
 (pss_one (ps_ret pe_bl))
 pss_nil)
 (pss_cons (ps_if (PW.pt (pw_and (pt_cmpR op_gt (pe_callB call_len_seq rfl T.n_len (by decide +kernel) (pa_cons (pv 0) pa_nil)) pe_int (nomark _)) (pw_and (pt_cmpR op_eq (pe_call (ok_draw T) (hr.mono (by decide)) rfl T.g_draw T.F_draw.kp T.b_draw .nil passL (pa_cons (pv 1) (pa_cons pe_int pa_nil))) pe_int (nomark _)) (pw_and1 (pt_not (pt_val (pe_callG (ok_day_right T) (hr.mono (by decide)) hgd rfl T.g_day_right T.F_day_right.kp T.b_day_right .nil passL (pa_cons (pv 1) (pa_cons (pe_op op_add pe_int (pe_call (ok_draw T) (hr.mono (by decide)) rfl T.g_draw T.F_draw.kp T.b_draw .nil passL (pa_cons (pv 1) (pa_cons pe_int pa_nil)))) (pa_cons pe_int (pa_cons pe_int pa_nil)))))))))))
 (pss_one (ps_ret pe_bl))
 pss_nil)
 (pss_cons (ps_set (i := 3) sc_law.nd rfl (Or.inl rfl) (pe_callTy call_tuple_of rfl T.n_tuple (by decide +kernel) (pa_cons (pe_lc (own := [("_law_at", 4)]) (g := gName 4) (tt := tYes) rfl sc_law.nd (pi_range1 rfl T.n_range (pa_cons (pe_call (ok_pick T) (hr.mono (by decide)) rfl T.g_pick T.F_pick.kp T.b_pick .nil passL (pa_cons (pv 1) (pa_cons (pe_lst (pa_cons pe_int (pa_cons pe_int (pa_cons pe_int (pa_cons pe_int (pa_cons pe_int (pa_cons pe_int pa_nil))))))) pa_nil))) pa_nil)) (blkOk_by (own := [("_law_at", 4)]) (N := ["_law_script", "_law_heap_here", "_law_sizes", "_law_cells", "_law_at", "_law_journal"]) (sc := defScope s_law) (by decide +kernel)) (fun _ _ _ _ _ => pg_name (i := 4) sc_law.nd rfl (Or.inl rfl)) (fun _ _ _ _ _ => pts_nil) (fun _ _ _ _ _ => (pe_call (ok_octet T) (hr.mono (by decide)) rfl T.g_octet T.F_octet.kp T.b_octet .nil passL (pa_cons (pv 1) pa_nil)))) pa_nil)))
 (pss_cons (ps_if (PW.pt (pw_or (pt_not (pt_val (pe_call (ok_strange_right T) (hr.mono (by decide)) rfl T.g_strange_right T.F_strange_right.kp T.b_strange_right .nil passL (pa_cons (pv 1) pa_nil)))) (pw_or (pt_not (pt_val (pe_callG (ok_disk_right T) (hr.mono (by decide)) hgd rfl T.g_disk_right T.F_disk_right.kp T.b_disk_right .nil passL (pa_cons (pv 1) (pa_cons (pv 3) pa_nil))))) (pw_or1 (pt_not (pt_val (pe_call (ok_odds_right T) (hr.mono (by decide)) rfl T.g_odds_right T.F_odds_right.kp T.b_odds_right .nil passL (pa_cons (pv 1) pa_nil))))))))
 (pss_one (ps_ret pe_bl))
 pss_nil)
 (pss_cons (ps_if (PW.pt (pw_and (pt_cmpR op_gt (pe_callB call_len_seq rfl T.n_len (by decide +kernel) (pa_cons (pv 0) pa_nil)) pe_int (nomark _)) (pw_and (pt_cmpR op_eq (pe_call (ok_draw T) (hr.mono (by decide)) rfl T.g_draw T.F_draw.kp T.b_draw .nil passL (pa_cons (pv 1) (pa_cons pe_int pa_nil))) pe_int (nomark _)) (pw_and1 (pt_not (pt_val (pe_call0 (ok_many_right T) (hr.mono (by decide)) rfl T.g_many_right T.F_many_right.kp T.b_many_right .nil passL)))))))
 (pss_one (ps_ret pe_bl))
 pss_nil)
 (pss_cons (ps_if (PW.pt (pw_and (pt_cmpR op_gt (pe_callB call_len_seq rfl T.n_len (by decide +kernel) (pa_cons (pv 0) pa_nil)) pe_int (nomark _)) (pw_and (pt_cmpR op_eq (pe_call (ok_draw T) (hr.mono (by decide)) rfl T.g_draw T.F_draw.kp T.b_draw .nil passL (pa_cons (pv 1) (pa_cons pe_int pa_nil))) pe_int (nomark _)) (pw_and1 (pt_cmpR op_ne (pe_meth (pe_make T.mkD (ok_Disk_init T) (hr.mono (by decide)) rfl T.gD T.b_Disk_init .nil passL (pa_cons (pe_op op_rep1 (pe_tup (pa_cons pe_int pa_nil)) pe_int) pa_nil)) T.clD T.m_Disk_look (ok_Disk_look T) (hr.mono (by decide)) T.b_Disk_look .nil passL (pa_cons pe_int pa_nil)) pe_int (nomark _))))))
 (pss_one (ps_ret pe_bl))
 pss_nil)
 (pss_cons (ps_set (i := 5) sc_law.nd rfl (Or.inr rfl) (pe_make T.mkJ (ok_Journal_init T) (hr.mono (by decide)) rfl T.gJ T.b_Journal_init .nil passL (pa_cons (pe_make T.mkD (ok_Disk_init T) (hr.mono (by decide)) rfl T.gD T.b_Disk_init .nil passL (pa_cons (pe_op op_rep1 (pe_tup (pa_cons pe_int pa_nil)) pe_int) pa_nil)) pa_nil)))
 (pss_cons (ps_expr (pe_meth (pv 5) T.clJ T.m_Journal_write (ok_Journal_write T) (hr.mono (by decide)) T.b_Journal_write .nil passL (pa_cons (pe_tup (pa_cons pe_int (pa_cons pe_int (pa_cons pe_int pa_nil)))) pa_nil)))
 (pss_cons (ps_expr (pe_meth (pv 5) T.clJ T.m_Journal_renew (ok_Journal_renew T) (hr.mono (by decide)) T.b_Journal_renew .nil passL (pa_cons (pe_tup (pa_cons (pe_tup pa_nil) (pa_cons (pe_tup (pa_cons pe_int pa_nil)) pa_nil))) pa_nil)))
 (pss_cons (ps_expr (pe_meth (pv 5) T.clJ T.m_Journal_write (ok_Journal_write T) (hr.mono (by decide)) T.b_Journal_write .nil passL (pa_cons (pe_tup (pa_cons pe_int pa_nil)) pa_nil)))
 (pss_cons (ps_expr (pe_meth (pv 5) T.clJ T.m_Journal_write (ok_Journal_write T) (hr.mono (by decide)) T.b_Journal_write .nil passL (pa_cons (pe_tup (pa_cons pe_int (pa_cons pe_int (pa_cons pe_int pa_nil)))) pa_nil)))
 (pss_cons (ps_expr (pe_meth0 (pv 5) T.clJ T.m_Journal_drop (ok_Journal_drop T) (hr.mono (by decide)) T.b_Journal_drop .nil passL))
 (pss_one (ps_ret (pe_and (pe_cmpR (op_eqD hr.units) (pe_meth0 (pv 5) T.clJ T.m_Journal_records (ok_Journal_records T) (hr.mono (by decide)) T.b_Journal_records .nil passL) (pe_tup (pa_cons (pe_tup pa_nil) (pa_cons (pe_tup (pa_cons pe_int pa_nil)) (pa_cons (pe_tup (pa_cons pe_int pa_nil)) pa_nil)))) (nomark _)) (pe_one (pe_cmpR (op_eqD hr.units) (pe_call (ok_opened T) (hr.mono (by decide)) rfl T.g_opened T.F_opened.kp T.b_opened .nil passL (pa_cons (pe_callTy call_tuple_of rfl T.n_tuple (by decide +kernel) (pa_cons (pe_lc (own := [("_law_at", 4)]) (g := gName 4) (tt := tYes) rfl sc_law.nd (pi_range1 rfl T.n_range (pa_cons pe_int pa_nil)) (blkOk_by (own := [("_law_at", 4)]) (N := ["_law_script", "_law_heap_here", "_law_sizes", "_law_cells", "_law_at", "_law_journal"]) (sc := defScope s_law) (by decide +kernel)) (fun _ _ _ _ _ => pg_name (i := 4) sc_law.nd rfl (Or.inl rfl)) (fun _ _ _ _ _ => pts_nil) (fun _ _ _ _ _ => (pe_meth (pe_fld (pv 5) rfl : PE _ _ (tFld K (tVar 5) "disk")) T.clD T.m_Disk_look (ok_Disk_look T) (hr.mono (by decide)) T.b_Disk_look .nil passL (pa_cons (pv 4) pa_nil)))) pa_nil)) pa_nil)) (pe_tup (pa_cons (pe_tup pa_nil) (pa_cons (pe_tup (pa_cons pe_int pa_nil)) (pa_cons (pe_tup (pa_cons pe_int pa_nil)) pa_nil)))) (nomark _))))))))))))))))))))), ?_⟩
  obtain ⟨a, ns, rfl, hs, hl, q⟩ := h
  refine ⟨_, rfl, a, ns, rfl, hs, hl, fun H1 L A k1 nL nA nLA hd1 => ?_⟩
  -- what is drawn changes nothing that was
  have new : ∀ {H2 H3 : Hp}, Kp [] H H2 → Kp [L, A] H2 H3 → Kp [] H H3 := fun {H2 H3} ka kb => ka.then kb fun x hx => .inr (by
    rcases List.mem_cons.mp hx with z | z
    · rw [z]; exact nL
    · rw [List.mem_singleton.mp z]; exact nA)
  have lens : (ns.map V.int).length = ns.length := List.length_map _
  -- the sizes
  have size_ : ∀ Qs : VK, (∀ H2 s (xs : List Nat), Kp [] H H2 → Hd H2 L A → H2 s = some (.lst (xs.map nV)) → 1 ≤ xs.length → xs.length < 1073741824 → s ≠ L → s ≠ A → (∀ x ∈ xs, 24 ≤ x ∧ x ≤ 120) → Qs (.ref s) H2) →
      tIf (tTest (tOp (rI0 fun i j => V.bl (decide (j < i))) (tCB (rLenS K) (tCons (tVar 0) tNil)) (tC (.int 0)))) (tLst (tCons (tC (.int 60)) (tCons (tC (.int 90)) (tCons (tC (.int 42)) (tCons (tC (.int 120)) (tCons (tC (.int 24)) (tCons (tC (.int 61)) tNil))))))) (tLst (tCons (tC (.int 60)) (tCons (tC (.int 43)) (tCons (tC (.int 52)) tNil))))
        [some (.ref a), some (.ref L), none, none, none, none] H1 Qs := fun Qs hq => by
    refine ⟨_, rfl, a, _, rfl, .inl (SqL.kp0 k1 hs), _, _, rfl, rfl, _, rfl, ?_⟩
    refine ifb (fun _ => ⟨sz (by simp), fun sx nsx => ?_⟩) (fun _ => ⟨sz (by simp), fun sx nsx => ?_⟩)
    ·
      have k2 : Kp [] H1 (upd H1 sx (.lst [.int 60, .int 90, .int 42, .int 120, .int 24, .int 61])) := Kp.new nsx
      have es : upd H1 sx (.lst [.int 60, .int 90, .int 42, .int 120, .int 24, .int 61]) sx = some (.lst [.int 60, .int 90, .int 42, .int 120, .int 24, .int 61]) := upd_same
      generalize upd H1 sx (.lst [.int 60, .int 90, .int 42, .int 120, .int 24, .int 61]) = H2 at k2 es ⊢
      have nn := hd1.nn nsx
      exact hq H2 sx [60, 90, 42, 120, 24, 61] (k1.trans k2) (hd1.kp0 k2) es (by decide) (by decide) nn.1 nn.2 (by decide)
    ·
      have k2 : Kp [] H1 (upd H1 sx (.lst [.int 60, .int 43, .int 52])) := Kp.new nsx
      have es : upd H1 sx (.lst [.int 60, .int 43, .int 52]) sx = some (.lst [.int 60, .int 43, .int 52]) := upd_same
      generalize upd H1 sx (.lst [.int 60, .int 43, .int 52]) = H2 at k2 es ⊢
      have nn := hd1.nn nsx
      exact hq H2 sx [60, 43, 52] (k1.trans k2) (hd1.kp0 k2) es (by decide) (by decide) nn.1 nn.2 (by decide)
  refine size_ _ fun H2 s xs k2 hd2 es l1 l2 nsL nsA hxs => ?_
  refine ⟨_, rfl, _, rfl, _, rfl, L, s, _, rfl, A, hd2, es, by rw [nat_len]; exact l1, by rw [nat_len]; exact l2, nsL, nsA, fun H3 xv k3 hd3 hxv => ?_⟩
  obtain ⟨many, hmm, rfl⟩ := List.mem_map.mp hxv
  have hm := hxs many hmm
  have k03 := new k2 k3
  refine ⟨_, rfl, a, _, rfl, .inl (SqL.kp0 k03 hs), _, _, rfl, rfl, .inr ⟨_, rfl, _, _, rfl, rfl, .inl ⟨by decide, by decide⟩, _, _, rfl, rfl, ?_⟩⟩
  refine ⟨_, rfl, a, _, rfl, .inl (SqL.kp0 k03 hs), _, _, rfl, rfl, .inr ⟨_, rfl, _, _, rfl, rfl, .inl ⟨by decide, by decide⟩, _, _, rfl, rfl, ?_⟩⟩
  have t1 : ∀ b : Bool, ∃ m : Nat, (4 : Int) + 3 * (if b = true then 1 else 0) = ((m : Nat) : Int) ∧ m ≤ 20 := fun b => by
    cases b
    · exact ⟨4, rfl, by decide⟩
    · exact ⟨7, rfl, by decide⟩
  have t2 : ∀ b : Bool, ∃ m : Nat, (2 : Int) + 2 * (if b = true then 1 else 0) = ((m : Nat) : Int) ∧ m ≤ 10 := fun b => by
    cases b
    · exact ⟨2, rfl, by decide⟩
    · exact ⟨4, rfl, by decide⟩
  obtain ⟨tu, et1, ht1⟩ := t1 (decide ((1 : Int) < (((ns.map V.int).length : Nat) : Int)))
  obtain ⟨cu, et2, ht2⟩ := t2 (decide ((2 : Int) < (((ns.map V.int).length : Nat) : Int)))
  refine ⟨L, many, tu, cu, ?_, A, hd3, by omega, by omega, ht1, ht2, fun H4 k4 hd4 => ?_⟩
  · rw [← et1, ← et2]
    rfl
  refine ⟨_, rfl, iteF ?_⟩
  have k04 := new k03 k4
  refine ⟨_, rfl, _, rfl, L, 20, rfl, A, hd4, by decide, by decide, fun H5 g k5 hd5 hg => ?_⟩
  have eg : (1 : Int) + ((g : Nat) : Int) = ((1 + g : Nat) : Int) := by omega
  refine ⟨_, _, rfl, rfl, L, 1 + g, 2, 1, by rw [← eg]; rfl, A, hd5, by omega, by omega, by decide, by decide, fun H6 k6 hd6 => ⟨_, rfl, iteF ?_⟩⟩
  have k06 := new (new k04 k5) k6
  have c1 : ∀ (Qc : Bool → Hp → Prop), (∀ H7, Kp [] H H7 → Hd H7 L A → Qc false H7) → tAnd (tTest (tOp (rI0 fun i j => V.bl (decide (j < i))) (tCB (rLenS K) (tCons (tVar 0) tNil)) (tC (.int 2)))) (tAnd (tTest (tOp rEq (tCall (sp_draw T) [] E0 (tCons (tVar 1) (tCons (tC (.int 8)) tNil))) (tC (.int 0)))) (tNot (tB (tCall (sp_day_right T) [] E0 (tCons (tVar 1) (tCons (tOp (rI0 fun i j => V.int (i + j)) (tC (.int 1400)) (tCall (sp_draw T) [] E0 (tCons (tVar 1) (tCons (tC (.int 9)) tNil)))) (tCons (tC (.int 2)) (tCons (tC (.int 0)) tNil))))))))
      [some (.ref a), some (.ref L), some (.ref s), none, none, none] H6 Qc := fun Qc hq => by
    refine ⟨_, rfl, a, _, rfl, .inl (SqL.kp0 k06 hs), _, _, rfl, rfl, _, rfl, ?_⟩
    refine ifb (fun _ => ?_) (fun _ => hq H6 k06 hd6)
    refine ⟨_, rfl, L, 8, rfl, A, hd6, by decide, by decide, fun H7 m k7 hd7 hm => ⟨rfl, _, rfl, ?_⟩⟩
    have k07 := new k06 k7
    refine ifb (fun _ => ?_) (fun _ => hq H7 k07 hd7)
    refine ⟨_, rfl, _, rfl, L, 9, rfl, A, hd7, by decide, by decide, fun H8 g k8 hd8 hg => ?_⟩
    have eg : (1400 : Int) + ((g : Nat) : Int) = ((1400 + g : Nat) : Int) := by omega
    exact ⟨_, _, rfl, rfl, L, 1400 + g, 2, 0, by rw [← eg]; rfl, A, hd8, by omega, by omega, by decide, by decide, fun H9 k9 hd9 => ⟨_, rfl, hq H9 (new (new k07 k8) k9) hd9⟩⟩
  refine c1 _ fun H7 k07 hd7 => iteF ?_
  -- a small disk's cells
  refine ⟨_, rfl, sz (by simp), fun s2 ns2 => ?_⟩
  have k8 : Kp [] H7 (upd H7 s2 (.lst [.int 1, .int 2, .int 3, .int 5, .int 9, .int 6])) := Kp.new ns2
  have es8 : upd H7 s2 (.lst [.int 1, .int 2, .int 3, .int 5, .int 9, .int 6]) s2 = some (.lst [.int 1, .int 2, .int 3, .int 5, .int 9, .int 6]) := upd_same
  generalize upd H7 s2 (.lst [.int 1, .int 2, .int 3, .int 5, .int 9, .int 6]) = H8 at k8 es8 ⊢
  have es8' : H8 s2 = some (.lst ([1, 2, 3, 5, 9, 6].map nV)) := es8
  have nn2 := hd7.nn ns2
  refine ⟨L, s2, _, rfl, A, hd7.kp0 k8, es8', (show 1 ≤ 6 by decide), (show 6 < 1073741824 by decide), nn2.1, nn2.2, fun H9 xv k9 hd9 hxv => ?_⟩
  obtain ⟨len, hlen, rfl⟩ := List.mem_map.mp hxv
  have hlb : 1 ≤ len ∧ len ≤ 9 := by
    simp only [List.mem_cons, List.not_mem_nil, or_false] at hlen
    omega
  have k09 := new (k07.trans k8) k9
  refine ⟨_, rfl, by omega, by omega, fun D nD => ?_⟩
  rw [Int.toNat_natCast]
  have nd := hd9.nn nD
  refine lc_range (lo := 0) (n := len) (fun i H' => Kp [L, A] H9 H' ∧ Hd H' L A ∧ ∃ r : List Int, H' D = some (.lst (r.map V.int)) ∧ r.length = i ∧ ∀ y ∈ r, Oct y) ⟨Kp.new nD, hd9.kp (Kp.new nD (S := [])) (by simp) (by simp), [], upd_same, rfl, fun y hy => absurd hy (by simp)⟩ (fun i H' hi z => ?_) fun Ha z => ?_
  · obtain ⟨kz, hz, r, eD, lr, ho⟩ := z
    refine ⟨rfl, _, rfl, L, rfl, A, hz, fun H4 y k4 hd4 oy => ?_⟩
    have eD4 := k4.k _ _ eD (by simp [nd])
    refine ⟨_, eD4, by rw [List.length_map]; exact small16 (by omega), ?_⟩
    have k5 : Kp [D] H4 (upd H4 D (.lst (r.map V.int ++ [.int y]))) := Kp.set eD4 (by simp) (by intro _ q; cases q)
    refine ⟨(kz.trans k4).then k5 (fun z hz => .inr (by rw [List.mem_singleton.mp hz]; exact nD)), hd4.kp k5 (by simp [nd.1.symm]) (by simp [nd.2.symm]), r ++ [y], by rw [upd_same, List.map_append]; rfl, by rw [List.length_append, List.length_singleton]; omega, fun z hz => ?_⟩
    rcases List.mem_append.mp hz with h1 | h1
    · exact ho z h1
    · rw [List.mem_singleton.mp h1]; exact oy
  obtain ⟨kz, hda, cells, eD, lr, ho⟩ := z
  refine ⟨D, _, rfl, .inl ⟨SqL.of eD, fun c nc => ?_⟩⟩
  have kb : Kp [] Ha (upd Ha c (.tup (cells.map V.int))) := Kp.new nc
  have ec : upd Ha c (.tup (cells.map V.int)) c = some (.tup (cells.map V.int)) := upd_same
  generalize upd Ha c (.tup (cells.map V.int)) = Hb at kb ec ⊢
  have k0b := (new k09 kz).trans kb
  have hdb := hda.kp0 kb
  refine ⟨_, rfl, L, rfl, A, hdb, fun Hc kc hdc => ⟨_, rfl, iteF ?_⟩⟩
  have k0c := new k0b kc
  refine ⟨_, rfl, _, rfl, L, c, rfl, A, cells, hdc, kc.t _ _ ec, by omega, by omega, ho, fun Hd_ kd hdd => ⟨_, rfl, iteF ?_⟩⟩
  have k0d := new k0c kd
  refine ⟨_, rfl, L, rfl, A, hdd, fun He ke hde => ⟨_, rfl, iteF ?_⟩⟩
  have k0e := new k0d ke
  have c2 : ∀ (Qc : Bool → Hp → Prop), (∀ H7, Kp [] H H7 → Hd H7 L A → Qc false H7) → tAnd (tTest (tOp (rI0 fun i j => V.bl (decide (j < i))) (tCB (rLenS K) (tCons (tVar 0) tNil)) (tC (.int 0)))) (tAnd (tTest (tOp rEq (tCall (sp_draw T) [] E0 (tCons (tVar 1) (tCons (tC (.int 10)) tNil))) (tC (.int 0)))) (tNot (tB (tCall (sp_many_right T) [] E0 tNil))))
      [some (.ref a), some (.ref L), some (.ref s), some (.ref c), none, none] He Qc := fun Qc hq => by
    refine ⟨_, rfl, a, _, rfl, .inl (SqL.kp0 k0e hs), _, _, rfl, rfl, _, rfl, ?_⟩
    refine ifb (fun _ => ?_) (fun _ => hq He k0e hde)
    refine ⟨_, rfl, L, 10, rfl, A, hde, by decide, by decide, fun H7 m k7 hd7 hm => ⟨rfl, _, rfl, ?_⟩⟩
    have k07 := new k0e k7
    refine ifb (fun _ => ?_) (fun _ => hq H7 k07 hd7)
    exact ⟨rfl, fun H8 k8 => ⟨_, rfl, hq H8 (k07.trans k8) (hd7.kp0 k8)⟩⟩
  refine c2 _ fun Hf k0f hdf => iteF ?_
  have c3 : ∀ (Qc : Bool → Hp → Prop), (∀ H7, Kp [] H H7 → Hd H7 L A → Qc false H7) → tAnd (tTest (tOp (rI0 fun i j => V.bl (decide (j < i))) (tCB (rLenS K) (tCons (tVar 0) tNil)) (tC (.int 0)))) (tAnd (tTest (tOp rEq (tCall (sp_draw T) [] E0 (tCons (tVar 1) (tCons (tC (.int 20)) tNil))) (tC (.int 0)))) (tTest (tOp rNe (tMeth T.CD "look" (sp_Disk_look T) [] E0 (tMake T.CD (sp_Disk_init T) [] E0 (tCons (tOp (rRep1 K) (tTup (tCons (tC (.int 7)) tNil)) (tC (.int 20000))) tNil)) (tCons (tC (.int 19999)) tNil)) (tC (.int 7)))))
      [some (.ref a), some (.ref L), some (.ref s), some (.ref c), none, none] Hf Qc := fun Qc hq => by
    refine ⟨_, rfl, a, _, rfl, .inl (SqL.kp0 k0f hs), _, _, rfl, rfl, _, rfl, ?_⟩
    refine ifb (fun _ => ?_) (fun _ => hq Hf k0f hdf)
    refine ⟨_, rfl, L, 20, rfl, A, hdf, by decide, by decide, fun H7 m k7 hd7 hm => ⟨rfl, _, rfl, ?_⟩⟩
    have k07 := new k0f k7
    refine ifb (fun _ => ?_) (fun _ => hq H7 k07 hd7)
    refine ⟨Nat.le_trans (show 1 ≤ 2 by decide) two_size, fun t nt => ?_⟩
    have k8 : Kp [] H7 (upd H7 t (.tup [.int 7])) := Kp.new nt
    have et : upd H7 t (.tup [.int 7]) t = some (.tup [.int 7]) := upd_same
    generalize upd H7 t (.tup [.int 7]) = H8 at k8 et ⊢
    try simp only [tC]
    refine rep_use (k := 20000) et (by decide) (by decide) fun c7 H9 k9 ec7 => ?_
    have e7 : List.replicate (20000 : Int).toNat (V.int 7) = (List.replicate 20000 (7 : Int)).map V.int := by rw [List.map_replicate]; rfl
    rw [e7] at ec7
    have l7 : (List.replicate 20000 (7 : Int)).length = 20000 := List.length_replicate
    have o7 : ∀ x ∈ List.replicate 20000 (7 : Int), Oct x := fun x hx => by rw [(List.mem_replicate.mp hx).2]; constructor <;> decide
    have g7 : (List.replicate 20000 (7 : Int)).getD 19999 0 = 7 := by
      rw [List.getD_eq_getElem?_getD, List.getElem?_replicate, if_pos (by decide)]; rfl
    clear e7
    generalize List.replicate 20000 (7 : Int) = sevens at *
    refine fun d dd nd ndd ned => disk_use nd ndd ned ec7 (by omega) (by omega) o7 fun Hx o e kx no ne Dx => ⟨rfl, ?_⟩
    obtain ⟨dx, hdx⟩ := Dx.ins
    refine ⟨d, dx, _, rfl, hdx, lk_look .., d, _, o, e, sevens, sevens, [], 19999, rfl, Dx, by omega, rfl, _, rfl, ?_⟩
    rw [g7]
    have e1 : (!decide (V.int 7 = V.int 7)) = false := by decide
    show Qc (!decide (V.int 7 = V.int 7)) Hx
    rw [e1]
    exact hq Hx (k07.trans ((k8.trans k9).trans kx)) (hd7.kp0 ((k8.trans k9).trans kx))
  refine c3 _ fun Hg k0g hdg => iteF ?_
  -- a journal of our own
  have lz : (List.replicate 100 (0 : Int)).length = 100 := List.length_replicate
  have ez : List.replicate (100 : Int).toNat (V.int 0) = (List.replicate 100 (0 : Int)).map V.int := by rw [List.map_replicate]; rfl
  refine ⟨Nat.le_trans (show 1 ≤ 2 by decide) two_size, fun t nt => ?_⟩
  have k1 : Kp [] Hg (upd Hg t (.tup [.int 0])) := Kp.new nt
  have et : upd Hg t (.tup [.int 0]) t = some (.tup [.int 0]) := upd_same
  generalize upd Hg t (.tup [.int 0]) = I1 at k1 et ⊢
  try simp only [tC]
  refine rep_use (k := 100) et (by decide) (by decide) fun cc I2 k2 ecc => ?_
  rw [ez] at ecc
  have zj := zero_jp (n := 100)
  have zo := zero_oct (n := 100)
  clear ez
  generalize List.replicate 100 (0 : Int) = zs at *
  refine fun d dd nd ndd ned => disk_use nd ndd ned ecc (by omega) (by omega) zo fun I3 o e k3 no ne Dx => ⟨rfl, ?_⟩
  refine fun j dj nj ndj nej => jrn_use nj ndj nej Dx (by omega) (by omega) zo zj fun I4 r k4 nr J => ⟨rfl, ?_⟩
  have S0 := fresh_js Dx k4 nr J (by omega) (by omega) zo zj
  obtain ⟨jx0, hj0⟩ := S0.J.ins
  -- write (9, 0, 255)
  refine ⟨_, rfl, j, jx0, _, rfl, hj0, lk_write .., sz (by simp), fun u nu => ?_⟩
  have k5 : Kp [] I4 (upd I4 u (.tup [.int 9, .int 0, .int 255])) := Kp.new nu
  have eu : upd I4 u (.tup [.int 9, .int 0, .int 255]) u = some (.tup [.int 9, .int 0, .int 255]) := upd_same
  generalize upd I4 u (.tup [.int 9, .int 0, .int 255]) = I5 at k5 eu ⊢
  have S0' := S0.kp0 k5
  refine ⟨j, u, d, cc, o, e, r, zs, zs, [], [], [9, 0, 255], rfl, S0', eu, fun y hy => ?_, (show 3 < 65536 by decide), by decide, by decide, fun room I6 E1 k6 S1 sf1 el1 pe1 => ?_, fun room => absurd (roomJ_of (by rw [lz]; decide)) room⟩
  · simp only [List.mem_cons, List.not_mem_nil, or_false] at hy
    rcases hy with rfl | rfl | rfl <;> constructor <;> decide
  have el1' : ([] ++ E1).length ≤ 13 := el1
  generalize appl zs E1 = o1 at S1
  generalize [] ++ E1 = w1 at S1 el1'
  have ln1 := S1.D.ln
  obtain ⟨jx1, hj1⟩ := S1.J.ins
  -- renew
  refine ⟨_, rfl, j, jx1, _, rfl, hj1, lk_renew .., Nat.zero_le _, fun u nu => ?_⟩
  have k7 : Kp [] I6 (upd I6 u (.tup [])) := Kp.new nu
  have eu1 : upd I6 u (.tup []) u = some (.tup []) := upd_same
  generalize upd I6 u (.tup []) = I7 at k7 eu1 ⊢
  refine ⟨sz (by simp), fun v nv => ?_⟩
  have k8 : Kp [] I7 (upd I7 v (.tup [.int 0])) := Kp.new nv
  have ev1 : upd I7 v (.tup [.int 0]) v = some (.tup [.int 0]) := upd_same
  generalize upd I7 v (.tup [.int 0]) = I8 at k8 ev1 ⊢
  refine ⟨sz (by simp), fun w nw => ?_⟩
  have k9 : Kp [] I8 (upd I8 w (.tup [.ref u, .ref v])) := Kp.new nw
  have ew1 : upd I8 w (.tup [.ref u, .ref v]) w = some (.tup [.ref u, .ref v]) := upd_same
  generalize upd I8 w (.tup [.ref u, .ref v]) = I9 at k9 ew1 ⊢
  have S1' := S1.kp0 ((k7.trans k8).trans k9)
  refine ⟨j, w, d, cc, o, e, r, zs, o1, w1, _, [[], [0]], rfl, S1', ⟨_, ew1, .cons ⟨u, rfl, (k8.trans k9).t _ _ eu1⟩ (.cons ⟨v, rfl, k9.t _ _ ev1⟩ .nil)⟩, fun y hy => ?_, by omega, (show 2 < 15000000 by decide), fun room Ia E2 r2 ka nr2 S2 sf2 el2 pe2 => ?_, fun room => absurd (roomR_of (by rw [ln1, lz]; decide)) room⟩
  · simp only [List.mem_cons, List.not_mem_nil, or_false] at hy
    rcases hy with rfl | rfl
    · exact ⟨fun z hz => absurd hz (by simp), by decide⟩
    · exact ⟨fun z hz => by rw [List.mem_singleton.mp hz]; exact oct01.1, by decide⟩
  have el2' : (w1 ++ E2).length ≤ 30000 := by rw [List.length_append]; omega
  generalize appl o1 E2 = o2 at S2
  generalize w1 ++ E2 = w2 at S2 el2'
  have ln2 := S2.D.ln
  obtain ⟨jx2, hj2⟩ := S2.J.ins
  -- write (255,)
  refine ⟨_, rfl, j, jx2, _, rfl, hj2, lk_write .., sz (by simp), fun u nu => ?_⟩
  have kb2 : Kp [] Ia (upd Ia u (.tup [.int 255])) := Kp.new nu
  have eu2 : upd Ia u (.tup [.int 255]) u = some (.tup [.int 255]) := upd_same
  generalize upd Ia u (.tup [.int 255]) = Ib at kb2 eu2 ⊢
  have S2' := S2.kp0 kb2
  refine ⟨j, u, d, cc, o, e, r2, zs, o2, w2, _, [255], rfl, S2', eu2, fun y hy => by rw [List.mem_singleton.mp hy]; constructor <;> decide, (show 1 < 65536 by decide), by simp; omega, (show 2 < 15000000 by decide), fun room Ic E3 kc2 S3 sf3 el3 pe3 => ?_, fun room => absurd (roomJ_of (by rw [ln2, lz]; decide)) room⟩
  have el3' : (w2 ++ E3).length ≤ 40000 := by rw [List.length_append]; simp at el3; omega
  generalize appl o2 E3 = o3 at S3
  generalize w2 ++ E3 = w3 at S3 el3'
  have ln3 := S3.D.ln
  obtain ⟨jx3, hj3⟩ := S3.J.ins
  -- write (1, 2, 3)
  refine ⟨_, rfl, j, jx3, _, rfl, hj3, lk_write .., sz (by simp), fun u nu => ?_⟩
  have ke2 : Kp [] Ic (upd Ic u (.tup [.int 1, .int 2, .int 3])) := Kp.new nu
  have eu3 : upd Ic u (.tup [.int 1, .int 2, .int 3]) u = some (.tup [.int 1, .int 2, .int 3]) := upd_same
  generalize upd Ic u (.tup [.int 1, .int 2, .int 3]) = Ie at ke2 eu3 ⊢
  have S3' := S3.kp0 ke2
  refine ⟨j, u, d, cc, o, e, r2, zs, o3, w3, _, [1, 2, 3], rfl, S3', eu3, fun y hy => ?_, (show 3 < 65536 by decide), by simp; omega, (show 3 < 15000000 by decide), fun room If E4 kf2 S4 sf4 el4 pe4 => ?_, fun room => absurd (roomJ_of (by rw [ln3, lz]; decide)) room⟩
  · simp only [List.mem_cons, List.not_mem_nil, or_false] at hy
    rcases hy with rfl | rfl | rfl <;> constructor <;> decide
  have el4' : (w3 ++ E4).length ≤ 50000 := by rw [List.length_append]; simp at el4; omega
  generalize appl o3 E4 = o4 at S4
  generalize w3 ++ E4 = w4 at S4 el4'
  obtain ⟨jx4, hj4⟩ := S4.J.ins
  -- drop
  refine ⟨_, rfl, j, jx4, _, rfl, hj4, lk_drop .., j, d, cc, o, e, r2, zs, o4, w4, _, rfl, S4, by omega, fun rs' x er Ig E5 kg2 S5 sf5 el5 pe5 => ?_, fun er => absurd er (by simp)⟩
  have ers : rs' = [[], [0], [255]] := by
    have h1 := congrArg List.dropLast er
    simpa using h1.symm
  subst ers
  generalize appl o4 E5 = o5 at S5
  generalize w4 ++ E5 = w5 at S5
  have ln5 := S5.D.ln
  have ok5 := S5.ok
  have n5 := nc_recs ok5
  -- what it holds
  obtain ⟨jx5, hj5⟩ := S5.J.ins
  refine ⟨_, rfl, j, jx5, _, rfl, hj5, lk_jrecords .., j, d, r2, _, _, _, rfl, S5.J, fun X0 t5 kx0 rt5 => ?_⟩
  refine ⟨Nat.zero_le _, fun u nu => ?_⟩
  have q1 : Kp [] X0 (upd X0 u (.tup [])) := Kp.new nu
  have eu : upd X0 u (.tup []) u = some (.tup []) := upd_same
  generalize upd X0 u (.tup []) = X1 at q1 eu ⊢
  refine ⟨sz (by simp), fun v nv => ?_⟩
  have q2 : Kp [] X1 (upd X1 v (.tup [.int 0])) := Kp.new nv
  have ev : upd X1 v (.tup [.int 0]) v = some (.tup [.int 0]) := upd_same
  generalize upd X1 v (.tup [.int 0]) = X2 at q2 ev ⊢
  refine ⟨sz (by simp), fun w nw => ?_⟩
  have q3 : Kp [] X2 (upd X2 w (.tup [.int 255])) := Kp.new nw
  have ew : upd X2 w (.tup [.int 255]) w = some (.tup [.int 255]) := upd_same
  generalize upd X2 w (.tup [.int 255]) = X3 at q3 ew ⊢
  refine ⟨sz (by simp), fun y ny => ?_⟩
  have q4 : Kp [] X3 (upd X3 y (.tup [.ref u, .ref v, .ref w])) := Kp.new ny
  have ey : upd X3 y (.tup [.ref u, .ref v, .ref w]) y = some (.tup [.ref u, .ref v, .ref w]) := upd_same
  generalize upd X3 y (.tup [.ref u, .ref v, .ref w]) = X4 at q4 ey ⊢
  have lit : RecT X4 y [[], [0], [255]] := ⟨_, ey, .cons ⟨u, rfl, ((q2.trans q3).trans q4).t _ _ eu⟩ (.cons ⟨v, rfl, (q3.trans q4).t _ _ ev⟩ (.cons ⟨w, rfl, q4.t _ _ ew⟩ .nil))⟩
  have q04 := ((q1.trans q2).trans q3).trans q4
  refine eqD_use n5 n5 (dp_recs (rt5.kp q04)) (dp_recs lit) (by decide) (by decide) ⟨_, rfl, ?_⟩
  rw [eqv_self n5]
  refine iteT ?_
  have S6 := (S5.kp0 kx0).kp0 q04
  refine ⟨_, rfl, by decide, by decide, fun D nD => ?_⟩
  rw [show (100 : Int).toNat = 100 from rfl]
  refine lc_range (lo := 0) (n := 100) (fun i H' => Kp [] X4 H' ∧ H' D = some (.lst ((o5.take i).map V.int))) ⟨Kp.new nD, upd_same⟩ (fun i H' hi z => ?_) fun Y0 z => ?_
  · have e0 : (0 : Int) + ((i : Nat) : Int) = ((i : Nat) : Int) := by omega
    rw [e0]
    have Sz := S6.kp0 z.1
    obtain ⟨jxz, hjz⟩ := Sz.J.ins
    obtain ⟨dxz, hdz⟩ := Sz.D.ins
    refine ⟨rfl, _, rfl, j, _, jxz, _, _, rfl, hjz, T.clJ, T.nJdisk, lk_disk .., d, dxz, _, rfl, hdz, lk_look .., _, rfl, d, cc, o, e, zs, o5, w5, i, rfl, Sz.D, by omega, _, z.2, by rw [List.length_map, List.length_take]; exact small16 (by omega), ?_⟩
    refine ⟨z.1.then (Kp.set (S := [D]) z.2 (by simp) (by intro _ q; cases q)) (fun y hy => .inr (by rw [List.mem_singleton.mp hy]; exact nD)), ?_⟩
    have ei : o5[i]? = some (o5.getD i 0) := by
      rw [List.getD_eq_getElem?_getD, List.getElem?_eq_getElem (by omega)]; rfl
    rw [upd_same, take_snoc ei, List.map_append]
    rfl
  · obtain ⟨ky, eD⟩ := z
    rw [List.take_of_length_le (by omega)] at eD
    refine ⟨D, _, rfl, .inl ⟨SqL.of eD, fun t6 nt6 => ?_⟩⟩
    have ky1 : Kp [] Y0 (upd Y0 t6 (.tup (o5.map V.int))) := Kp.new nt6
    have et6 : upd Y0 t6 (.tup (o5.map V.int)) t6 = some (.tup (o5.map V.int)) := upd_same
    generalize upd Y0 t6 (.tup (o5.map V.int)) = Y1 at ky1 et6 ⊢
    refine ⟨t6, o5, _, rfl, et6, by omega, by omega, S5.oc, S5.jp, fun X0 t7 ky2 rt7 => ?_⟩
    refine ⟨Nat.zero_le _, fun u nu => ?_⟩
    have q1 : Kp [] X0 (upd X0 u (.tup [])) := Kp.new nu
    have eu : upd X0 u (.tup []) u = some (.tup []) := upd_same
    generalize upd X0 u (.tup []) = X1 at q1 eu ⊢
    refine ⟨sz (by simp), fun v nv => ?_⟩
    have q2 : Kp [] X1 (upd X1 v (.tup [.int 0])) := Kp.new nv
    have ev : upd X1 v (.tup [.int 0]) v = some (.tup [.int 0]) := upd_same
    generalize upd X1 v (.tup [.int 0]) = X2 at q2 ev ⊢
    refine ⟨sz (by simp), fun w nw => ?_⟩
    have q3 : Kp [] X2 (upd X2 w (.tup [.int 255])) := Kp.new nw
    have ew : upd X2 w (.tup [.int 255]) w = some (.tup [.int 255]) := upd_same
    generalize upd X2 w (.tup [.int 255]) = X3 at q3 ew ⊢
    refine ⟨sz (by simp), fun y ny => ?_⟩
    have q4 : Kp [] X3 (upd X3 y (.tup [.ref u, .ref v, .ref w])) := Kp.new ny
    have ey : upd X3 y (.tup [.ref u, .ref v, .ref w]) y = some (.tup [.ref u, .ref v, .ref w]) := upd_same
    generalize upd X3 y (.tup [.ref u, .ref v, .ref w]) = X4 at q4 ey ⊢
    have lit : RecT X4 y [[], [0], [255]] := ⟨_, ey, .cons ⟨u, rfl, ((q2.trans q3).trans q4).t _ _ eu⟩ (.cons ⟨v, rfl, (q3.trans q4).t _ _ ev⟩ (.cons ⟨w, rfl, q4.t _ _ ew⟩ .nil))⟩
    have q04 := ((q1.trans q2).trans q3).trans q4
    refine eqD_use n5 n5 (dp_recs (rt7.kp q04)) (dp_recs lit) (by decide) (by decide) ?_
    rw [eqv_self n5]
    exact q X4
end
end KJ
end

section
namespace KJ
open PySem PySem.Spec PyProof.Rows L2
/-! the head's facts of an own error with super().__init__ in it -/
/-- the class object -/
def erCls (K : PySem.W.Frag) (C : Addr) : Bool := match K.lookup C with
  | some ⟨.type c, _, .cls cd, sl⟩ => (match cd.mro, sl.toList with
    | .ref E :: bm, [_, _, _, _, some (.builtin n), _] => decide (c = "type") && (decide (E = C) && (decide (n = "ValueError.__new__") && (!cd.hasDel && (cd.hasDict && PySem.HandSPX.refsVE bm))))
    | _, _ => false)
  | _ => false
theorem erCls_ok {K : PySem.W.Frag} {C : Addr} (h : erCls K C = true) : ∃ nm q N bs bm sn sub ab col dd k0 k1 k2 k3 k5, K.lookup C = some (excClassObj nm q C N bs bm true sn sub ab col dd k0 k1 k2 k3 k5 "ValueError.__new__") ∧ PySem.HandSPX.refsVE bm = true := by
  unfold erCls at h
  split at h
  · rename_i c dd cd sl ho
    split at h
    · rename_i E bm k0 k1 k2 k3 n k5 hm hs
      obtain ⟨h1, h⟩ := He.ba h
      obtain ⟨h2, h⟩ := He.ba h
      obtain ⟨h3, h⟩ := He.ba h
      obtain ⟨h4, h⟩ := He.ba h
      obtain ⟨h5, h6⟩ := He.ba h
      have e1 : c = "type" := of_decide_eq_true h1
      have e2 : E = C := of_decide_eq_true h2
      have e3 : n = "ValueError.__new__" := of_decide_eq_true h3
      subst e1 e2 e3
      obtain ⟨nm, bs, mro, N, q, hd, sn, sub, ab, col, del⟩ := cd
      have e4 : del = false := by simpa using h4
      have e5 : hd = true := h5
      have e6 : mro = .ref E :: bm := hm
      subst e4 e5 e6
      have e7 : sl = #[k0, k1, k2, k3, some (.builtin "ValueError.__new__"), k5] := by
        rw [← Array.toArray_toList (xs := sl), hs]
      subst e7
      exact ⟨_, _, _, _, _, _, _, _, _, _, _, _, _, _, _, ho, h6⟩
    · cases h
  · cases h
/-- the rest of what the error's class is asked -/
def erOk (K : PySem.W.Frag) (C CM fI : Addr) : List Bool := [
  He.eqO (PySem.W.findIn K (.ref C) "__setattr__") (some (some (.builtin "object.__setattr__"))),
  He.eqO (PySem.W.findIn K (.ref C) "__getattribute__") (some (some (.builtin "BaseException.__getattribute__"))),
  He.eqO (PySem.W.findIn K (.ref C) "__getattr__") (some none),
  He.eqO (PySem.W.findIn K (.ref C) "word") (some none),
  He.eqO (PySem.W.findIn K (.ref C) "__init__") (some (some (.ref fI))),
  decide (PySem.W.typeIn K (.ref fI) = some (.type "function")),
  PySem.W.keepIn K (.ref C),
  decide (PySem.W.subIn K (.ref C) (.type "BaseException") = some true),
  decide (PySem.W.subIn K (.ref C) (.type "ValueError") = some true),
  decide (PySem.W.typeIn K (.ref C) = some (.type "type")),
  PySem.W.hasDictIn K C,
  He.eqO (PySem.W.ks_superIn K C C "__init__") (some (some (.builtin "ValueError.__init__"))),
  He.eqO (PySem.W.nsIn K cStatics "thirdparty.any") (some none),
  decide (PySem.W.mroIn K C (.ref C) = some true),
  (PySem.W.clsIn K C).isSome,
  He.eqO (PySem.W.findIn K (.ref C) "__class__") (some (some (.builtin "object.__class__"))),
  He.eqO (PySem.W.specialIn K (.builtin "object.__class__") "__get__") (some (some (.builtin "getset_descriptor.__get__"))),
  decide (PySem.W.takesIn K (.builtin "object.__class__") = some true),
  decide (PySem.W.mroIn K C (.type "object") = some true),
  decide (PySem.W.exmOne K (.ref C) (.ref CM) = some true)]
/-- the __init__ of such an error: what of it can be compared -/
abbrev ErF : Type := Option (Str × Str × Arguments × FuncBody × Scope × Addr × Addr)
def erFn (K : PySem.W.Frag) (f : Addr) : ErF := match K.lookup f with
  | some ⟨_, _, .func fd, _⟩ => some (fd.name, fd.qualname, fd.params, fd.body, fd.scope, fd.globals, fd.builtins)
  | _ => none
def cellB (K : PySem.W.Frag) (C : Addr) : List (Str × Addr) → Bool
  | [(x, cc)] => decide (x = "__class__") && (match K.lookup cc with
    | some ⟨_, _, .cell (some (.ref E)), _⟩ => decide (E = C)
    | _ => false)
  | _ => false
def fileB (K : PySem.W.Frag) (file : Str) : Value → Bool
  | .ref cda => (match K.lookup cda with
    | some ⟨_, _, .fields vs, _⟩ => (match (vs[2]? : Option Value) with
      | some (.str x _) => decide (x = file)
      | _ => false)
    | _ => false)
  | _ => false
def noDf : Value → Bool
  | .none => true
  | _ => false
def erFnB (K : PySem.W.Frag) (f C : Addr) (qual file : Str) : Bool := match K.lookup f with
  | some ⟨_, _, .func fd, _⟩ => PySem.W.codeIn K fd.code qual && (noDf fd.defaults && (cellB K C fd.closure && fileB K file fd.code))
  | _ => false
theorem cellB_ok {K : PySem.W.Frag} {C : Addr} {l : List (Str × Addr)} (h : cellB K C l = true) : ∃ cc cl cld csl, l = [(("__class__" : Str), cc)] ∧ K.lookup cc = some ⟨cl, cld, .cell (some (.ref C)), csl⟩ := by
  unfold cellB at h
  split at h
  · rename_i x cc
    obtain ⟨h1, h2⟩ := He.ba h
    have e1 : x = "__class__" := of_decide_eq_true h1
    subst e1
    split at h2
    · rename_i cl cld E csl ho
      have e2 : E = C := of_decide_eq_true h2
      subst e2
      exact ⟨cc, cl, cld, csl, rfl, ho⟩
    · cases h2
  · cases h
theorem fileB_ok {K : PySem.W.Frag} {file : Str} {v : Value} (h : fileB K file v = true) : ∃ cda ccl cdd vs ccs tf, v = .ref cda ∧ K.lookup cda = some ⟨ccl, cdd, .fields vs, ccs⟩ ∧ vs[2]? = some (.str file tf) := by
  unfold fileB at h
  split at h
  · rename_i cda
    split at h
    · rename_i ccl cdd vs ccs ho
      split at h
      · rename_i x tf hv
        have e : x = file := of_decide_eq_true h
        subst e
        exact ⟨cda, ccl, cdd, vs, ccs, tf, rfl, ho, hv⟩
      · cases h
    · cases h
  · cases h
/-- the text of such an __init__ -/
def ErText (st : Stmt) : Prop := ∃ (msg : Str) (j : Nat) (p1 p2 q1 q2 q3 q4 q5 q6 q7 q8 q9 q0 : Pos), PySem.ExW.TreeW msg j q1 q2 q3 q4 q5 ∧ defArgs st = PySem.ExW.aW p1 p2 ∧ defBody st = PySem.ExW.bW msg j q1 q2 q3 q4 q5 q6 q7 q8 q9 q0 ∧ defScope st = PySem.ExW.sW
theorem er_of {P : Program} {K : PySem.W.Frag} {mg : Str → Option Value} {x qual : Str} {C CM fI : Addr} {st : Stmt} (ht : ErText st) (gC : mg x = some (.ref C)) (gS : mg "super" = none) (top : (P.main.scope.names.lookup ("super" : Str)).isSome = false)
    (h1 : erCls K C = true) (h2 : (erOk K C CM fI).all id = true) (h3 : erFnB K fI C qual (P.main.file : Str) = true) (h4 : erFn K fI = some (("__init__" : Str), qual, defArgs st, FuncBody.stmts (defBody st), defScope st, mainGlobals, builtinsNs)) : Er P K mg x C fI CM := by
  obtain ⟨msg, j, p1, p2, q1, q2, q3, q4, q5, q6, q7, q8, q9, q0, hT, eA, eB, eS⟩ := ht
  have g : ∀ (i : Nat) (b : Bool), (erOk K C CM fI)[i]? = some b → b = true := fun i b e => List.all_eq_true.mp h2 b (List.mem_of_getElem? e)
  rw [eA, eB, eS] at h4
  have F : ∃ (oc : Value) (od : Option Addr) (kV doc pm : Value) (an : Option Addr) (cda cc : Addr) (ct : Value) (osl : Array (Option Value)) (ccl cl : Value) (cdd cld : Option Addr) (vs : Array Value) (ccs csl : Array (Option Value)) (tf : Tok),
      K.lookup fI = some ⟨oc, od, .func (PySem.W.ksFn "__init__" qual (PySem.ExW.aW p1 p2) (PySem.ExW.bW msg j q1 q2 q3 q4 q5 q6 q7 q8 q9 q0) PySem.ExW.sW .none kV doc pm an (.ref cda) ct cc), osl⟩ ∧ PySem.W.codeIn K (.ref cda) qual = true ∧
      K.lookup cda = some ⟨ccl, cdd, .fields vs, ccs⟩ ∧ vs[2]? = some (.str (P.main.file : Str) tf) ∧ K.lookup cc = some ⟨cl, cld, .cell (some (.ref C)), csl⟩ := by
    unfold erFnB at h3
    unfold erFn at h4
    cases q : K.lookup fI with
    | none =>
      rw [q] at h3
      cases h3
    | some o =>
      obtain ⟨oc, od, dt, osl⟩ := o
      rw [q] at h3 h4
      cases dt with
      | func fd =>
        obtain ⟨n1, n2, n3, n4, n5, n6, n7, n8, n9, n10, n11, n12, n13, n14, n15⟩ := fd
        have e2 : (some (n1, n2, n3, n4, n5, n6, n15) : ErF) = some (("__init__" : Str), qual, PySem.ExW.aW p1 p2, FuncBody.stmts (PySem.ExW.bW msg j q1 q2 q3 q4 q5 q6 q7 q8 q9 q0), PySem.ExW.sW, mainGlobals, builtinsNs) := h4
        simp only [Option.some.injEq, Prod.mk.injEq] at e2
        obtain ⟨i1, i2, i3, i4, i5, i6, i7⟩ := e2
        subst i1 i2 i3 i4 i5 i6 i7
        have c3 : (PySem.W.codeIn K n13 n2 && (noDf n8 && (cellB K C n7 && fileB K (P.main.file : Str) n13))) = true := h3
        obtain ⟨k1, k2⟩ := He.ba c3
        obtain ⟨k3, k4⟩ := He.ba k2
        obtain ⟨k5, k6⟩ := He.ba k4
        obtain ⟨cc, cl, cld, csl, ec, hc⟩ := cellB_ok k5
        obtain ⟨cda, ccl, cdd, vs, ccs, tf, ev, hv, h2⟩ := fileB_ok k6
        subst ec ev
        cases n8 with
        | none => exact ⟨oc, od, n9, n10, n11, n12, cda, cc, n14, osl, ccl, cl, cdd, cld, vs, ccs, csl, tf, rfl, k1, hv, h2, hc⟩
        | _ => cases k3
      | _ => cases h3
  obtain ⟨oc, od, kV, doc, pm, an, cda, cc, ct, osl, ccl, cl, cdd, cld, vs, ccs, csl, tf, a1, a2, a3, a4, a5⟩ := F
  have ga := He.eqO_ok (g 1 _ rfl)
  have gg := He.eqO_ok (g 2 _ rfl)
  have eb := of_decide_eq_true (g 7 _ rfl)
  exact ⟨⟨gC, gS, erCls_ok h1, He.eqO_ok (g 0 _ rfl), ga, gg, He.eqO_ok (g 3 _ rfl), He.eqO_ok (g 4 _ rfl), of_decide_eq_true (g 5 _ rfl), g 6 _ rfl, eb, of_decide_eq_true (g 8 _ rfl), of_decide_eq_true (g 9 _ rfl), g 10 _ rfl, He.eqO_ok (g 11 _ rfl), He.eqO_ok (g 12 _ rfl), of_decide_eq_true (g 13 _ rfl), top,
      ⟨oc, od, kV, doc, pm, an, cda, cc, ct, osl, qual, msg, j, p1, p2, q1, q2, q3, q4, q5, q6, q7, q8, q9, q0, ccl, cl, cdd, cld, vs, ccs, csl, _, tf, hT, a1, a2, a3, a4, beq_self_eq_true _, a5⟩⟩,
    ⟨g 14 _ rfl, ga, gg, eb, He.eqO_ok (g 15 _ rfl), He.eqO_ok (g 16 _ rfl), of_decide_eq_true (g 17 _ rfl), of_decide_eq_true (g 18 _ rfl)⟩, ⟨ga, gg, eb, g 10 _ rfl⟩, of_decide_eq_true (g 19 _ rfl)⟩
abbrev sRefused_init : Stmt := inClass (top 3) 0
abbrev sBroken_init : Stmt := inClass (top 4) 0
theorem text_refused : ErText sRefused_init := by
  refine ⟨_, _, _, _, _, _, _, _, _, _, _, _, _, _, ?_, rfl, rfl, rfl⟩
  exact fun env => ⟨_, rfl⟩
theorem text_broken : ErText sBroken_init := by
  refine ⟨_, _, _, _, _, _, _, _, _, _, _, _, _, _, ?_, rfl, rfl, rfl⟩
  exact fun env => ⟨_, rfl⟩
end KJ
end

section
namespace KJ
open PySem PySem.Spec PyProof.Rows L2
def h_is_integer : He.DefD := ⟨("is_integer", none), "is_integer", "is_integer", defArgs s_is_integer, defBody s_is_integer, defScope s_is_integer, [], []⟩
def h_is_number : He.DefD := ⟨("is_number", none), "is_number", "is_number", defArgs s_is_number, defBody s_is_number, defScope s_is_number, [], []⟩
def h_is_octet : He.DefD := ⟨("is_octet", none), "is_octet", "is_octet", defArgs s_is_octet, defBody s_is_octet, defScope s_is_octet, [], []⟩
def hDisk_init : He.DefD := ⟨("Disk", some "__init__"), "__init__", "Disk.__init__", defArgs sDisk_init, defBody sDisk_init, defScope sDisk_init, [], []⟩
def hDisk_look : He.DefD := ⟨("Disk", some "look"), "look", "Disk.look", defArgs sDisk_look, defBody sDisk_look, defScope sDisk_look, [], []⟩
def hDisk_put : He.DefD := ⟨("Disk", some "put"), "put", "Disk.put", defArgs sDisk_put, defBody sDisk_put, defScope sDisk_put, [], []⟩
def hDisk_flush : He.DefD := ⟨("Disk", some "flush"), "flush", "Disk.flush", defArgs sDisk_flush, defBody sDisk_flush, defScope sDisk_flush, [], []⟩
def hDisk_events : He.DefD := ⟨("Disk", some "events"), "events", "Disk.events", defArgs sDisk_events, defBody sDisk_events, defScope sDisk_events, [], []⟩
def h_pending_places : He.DefD := ⟨("pending_places", none), "pending_places", "pending_places", defArgs s_pending_places, defBody s_pending_places, defScope s_pending_places, [], []⟩
def h_cut_cells : He.DefD := ⟨("cut_cells", none), "cut_cells", "cut_cells", defArgs s_cut_cells, defBody s_cut_cells, defScope s_cut_cells, [], []⟩
def h_half_start : He.DefD := ⟨("half_start", none), "half_start", "half_start", defArgs s_half_start, defBody s_half_start, defScope s_half_start, [], []⟩
def h_records_from : He.DefD := ⟨("records_from", none), "records_from", "records_from", defArgs s_records_from, defBody s_records_from, defScope s_records_from, [], []⟩
def h_needed_cells : He.DefD := ⟨("needed_cells", none), "needed_cells", "needed_cells", defArgs s_needed_cells, defBody s_needed_cells, defScope s_needed_cells, [], []⟩
def h_put_record : He.DefD := ⟨("put_record", none), "put_record", "put_record", defArgs s_put_record, defBody s_put_record, defScope s_put_record, [], []⟩
def h_put_end : He.DefD := ⟨("put_end", none), "put_end", "put_end", defArgs s_put_end, defBody s_put_end, defScope s_put_end, [], []⟩
def hJournal_init : He.DefD := ⟨("Journal", some "__init__"), "__init__", "Journal.__init__", defArgs sJournal_init, defBody sJournal_init, defScope sJournal_init, [], []⟩
def hJournal_records : He.DefD := ⟨("Journal", some "records"), "records", "Journal.records", defArgs sJournal_records, defBody sJournal_records, defScope sJournal_records, [], []⟩
def hJournal_write : He.DefD := ⟨("Journal", some "write"), "write", "Journal.write", defArgs sJournal_write, defBody sJournal_write, defScope sJournal_write, [], []⟩
def hJournal_drop : He.DefD := ⟨("Journal", some "drop"), "drop", "Journal.drop", defArgs sJournal_drop, defBody sJournal_drop, defScope sJournal_drop, [], []⟩
def hJournal_renew : He.DefD := ⟨("Journal", some "renew"), "renew", "Journal.renew", defArgs sJournal_renew, defBody sJournal_renew, defScope sJournal_renew, [], []⟩
def h_heap : He.DefD := ⟨("_law_heap", none), "_law_heap", "_law_heap", defArgs s_heap, defBody s_heap, defScope s_heap, [], []⟩
def h_draw : He.DefD := ⟨("_law_draw", none), "_law_draw", "_law_draw", defArgs s_draw, defBody s_draw, defScope s_draw, [], []⟩
def h_pick : He.DefD := ⟨("_law_pick", none), "_law_pick", "_law_pick", defArgs s_pick, defBody s_pick, defScope s_pick, [], []⟩
def h_octet : He.DefD := ⟨("_law_octet", none), "_law_octet", "_law_octet", defArgs s_octet, defBody s_octet, defScope s_octet, [], []⟩
def h_record : He.DefD := ⟨("_law_record", none), "_law_record", "_law_record", defArgs s_record, defBody s_record, defScope s_record, [], []⟩
def h_lasting : He.DefD := ⟨("_law_lasting", none), "_law_lasting", "_law_lasting", defArgs s_lasting, defBody s_lasting, defScope s_lasting, [], []⟩
def h_left : He.DefD := ⟨("_law_left", none), "_law_left", "_law_left", defArgs s_left, defBody s_left, defScope s_left, [], []⟩
def h_opened : He.DefD := ⟨("_law_opened", none), "_law_opened", "_law_opened", defArgs s_opened, defBody s_opened, defScope s_opened, [], []⟩
def h_base : He.DefD := ⟨("_law_base", none), "_law_base", "_law_base", defArgs s_base, defBody s_base, defScope s_base, [], []⟩
def h_cuts_right : He.DefD := ⟨("_law_cuts_right", none), "_law_cuts_right", "_law_cuts_right", defArgs s_cuts_right, defBody s_cuts_right, defScope s_cuts_right, [], []⟩
def h_call : He.DefD := ⟨("_law_call", none), "_law_call", "_law_call", defArgs s_call, defBody s_call, defScope s_call, [], []⟩
def h_turn : He.DefD := ⟨("_law_turn", none), "_law_turn", "_law_turn", defArgs s_turn, defBody s_turn, defScope s_turn, [], []⟩
def h_day_right : He.DefD := ⟨("_law_day_right", none), "_law_day_right", "_law_day_right", defArgs s_day_right, defBody s_day_right, defScope s_day_right, [], []⟩
def h_many_right : He.DefD := ⟨("_law_many_right", none), "_law_many_right", "_law_many_right", defArgs s_many_right, defBody s_many_right, defScope s_many_right, [], []⟩
def h_disk_right : He.DefD := ⟨("_law_disk_right", none), "_law_disk_right", "_law_disk_right", defArgs s_disk_right, defBody s_disk_right, defScope s_disk_right, [], []⟩
def h_odds_right : He.DefD := ⟨("_law_odds_right", none), "_law_odds_right", "_law_odds_right", defArgs s_odds_right, defBody s_odds_right, defScope s_odds_right, [], []⟩
def h_strange_right : He.DefD := ⟨("_law_strange_right", none), "_law_strange_right", "_law_strange_right", defArgs s_strange_right, defBody s_strange_right, defScope s_strange_right, [], []⟩
def h_law : He.DefD := ⟨("law", none), "law", "law", defArgs s_law, defBody s_law, defScope s_law, [], []⟩
def fnA : List He.DefD := [h_is_integer, h_is_number, h_is_octet, hDisk_init, hDisk_look, hDisk_put, hDisk_flush, hDisk_events, h_pending_places, h_cut_cells, h_half_start, h_records_from, h_needed_cells, h_put_record, h_put_end, hJournal_init, hJournal_records, hJournal_write]
def fnB : List He.DefD := [hJournal_drop, hJournal_renew, h_heap, h_draw, h_pick, h_octet, h_record, h_lasting, h_left, h_opened, h_base, h_cuts_right, h_call, h_turn, h_day_right, h_many_right, h_disk_right, h_odds_right, h_strange_right, h_law]
def fn : List He.DefD := fnA ++ fnB
def fa1 : List He.Fa := [.glo "MateError", .glo "InvalidNumber", .glo "Refused", .glo "Broken", .glo "is_integer", .glo "is_number", .glo "is_octet", .glo "Disk", .glo "pending_places", .glo "cut_cells", .glo "half_start", .glo "records_from", .glo "needed_cells", .glo "put_record", .glo "put_end", .glo "Journal", .glo "_law_heap", .glo "_law_draw", .glo "_law_pick", .glo "_law_octet", .glo "_law_record", .glo "_law_lasting", .glo "_law_left", .glo "_law_opened", .glo "_law_base", .glo "_law_cuts_right", .glo "_law_call", .glo "_law_turn", .glo "_law_day_right", .glo "_law_many_right", .glo "_law_disk_right", .glo "_law_odds_right", .glo "_law_strange_right", .glo "law", .free "isinstance", .free "len", .free "all"]
def fa2 : List He.Fa := [.free "list", .free "tuple", .free "sorted", .free "set", .free "zip", .free "range", .free "sum", .free "enumerate", .free "abs", .free "int", .free "max", .free "repr", .free "super", .free "bool", .free "str", .int "MOST_CELLS" 20000, .int "OCTETS" 256, .int "HEAD" 3, .int "MARK" 1, .cls "Disk", .cls "Journal", .mkr "Disk", .mkr "Journal", .noat "Disk" "cells", .noat "Disk" "_octets", .noat "Disk" "_events", .noat "Journal" "disk", .noat "Journal" "_side", .noat "Journal" "_records", .noat "Journal" "_end", .meth "Disk" "look", .meth "Disk" "put", .meth "Disk" "flush", .meth "Disk" "events", .meth "Journal" "records", .meth "Journal" "write", .meth "Journal" "drop", .meth "Journal" "renew"]
def fa : List He.Fa := fa1 ++ fa2
def loose0 : List Str := ["MateError", "InvalidNumber", "Refused", "Broken", "is_integer", "is_number", "MOST_CELLS", "OCTETS", "is_octet", "Disk", "pending_places", "cut_cells", "HEAD"]
def loose1 : List Str := ["MARK", "half_start", "records_from", "needed_cells", "put_record", "put_end", "Journal", "_law_heap", "_law_draw", "_law_pick", "_law_octet", "_law_record", "_law_lasting"]
def loose2 : List Str := ["_law_left", "_law_opened", "_law_base", "_law_cuts_right", "_law_call", "_law_turn", "_law_day_right", "_law_many_right", "_law_disk_right", "_law_odds_right", "_law_strange_right"]
def loose : List Str := loose0 ++ loose1 ++ loose2
abbrev Pg : Program := (PySem.Challenge.rw_lastpairs_k66_whole_disks_and_journals_c).prog
abbrev R : PySem.W.OpenRow := PySem.W.OpenLaw.row PySem.Challenge.rw_lastpairs_k66_whole_disks_and_journals_c
abbrev aR (K : PySem.W.Frag) : Addr := He.ga K "Refused"
abbrev aB (K : PySem.W.Frag) : Addr := He.ga K "Broken"
abbrev iR (K : PySem.W.Frag) : Addr := He.fAd K ("Refused", some "__init__")
abbrev iB (K : PySem.W.Frag) : Addr := He.fAd K ("Broken", some "__init__")
/-- what is asked of the errors and of the two classes -/
def more (K : PySem.W.Frag) : List Bool := [
  erCls K (aR K), (erOk K (aR K) (He.ga K "MateError") (iR K)).all id, erFnB K (iR K) (aR K) "Refused.__init__" (Pg.main.file : Str),
  erCls K (aB K), (erOk K (aB K) (He.ga K "MateError") (iB K)).all id, erFnB K (iB K) (aB K) "Broken.__init__" (Pg.main.file : Str),
  decide (PySem.W.kitOne K (.ref (aR K)) (.ref (aR K)) = some true), decide (PySem.W.kitOne K (.ref (aR K)) (.ref (aB K)) = some false), decide (PySem.W.kitOne K (.ref (aR K)) (.ref (He.ga K "InvalidNumber")) = some false),
  decide (PySem.W.kitOne K (.ref (aB K)) (.ref (aB K)) = some true), decide (PySem.W.kitOne K (.ref (aB K)) (.ref (aR K)) = some false),
  decide (He.ga K "Disk" ≠ He.ga K "Journal")]
abbrev AlX : Type := He.AlD × (Bool × (ErF × ErF))
def obsX (K : PySem.W.Frag) : AlX := (He.obsD fa fn K, ((more K).all id, (erFn K (iR K), erFn K (iB K))))
def valX : AlX := (He.valD fn, (true, (some (("__init__" : Str), "Refused.__init__", defArgs sRefused_init, FuncBody.stmts (defBody sRefused_init), defScope sRefused_init, mainGlobals, builtinsNs), some (("__init__" : Str), "Broken.__init__", defArgs sBroken_init, FuncBody.stmts (defBody sBroken_init), defScope sBroken_init, mainGlobals, builtinsNs))))
def SaysX (K : PySem.W.Frag) : Prop := obsX K = valX
def obsXG (g : Addr → Option Obj) : AlX := obsX (He.frG g (cStatics :: He.asD g 6))
def hk : PySem.W.Hook where
  α := AlX
  obs := fun s => obsXG s.heap.get?
  val := fun _ => valX
  says := fun _ h => ∃ K : PySem.W.Frag, K.In h ∧ SaysX K
  of := fun _ _ e => ⟨_, He.frG_in, e⟩
  keeps := fun _ _ _ ⟨K, hK, c⟩ k => ⟨K, PySem.W.Frag.In.keeps hK k, c⟩
theorem obsXG_eq {g : Addr → Option Obj} {s : Shared} (h : ∀ a, g a = s.heap.get? a) : obsXG g = hk.obs s := by
  have e : g = s.heap.get? := funext h
  rw [e] <;> rfl
def ob (s : PySem.W.SharedT) : AlX := obsXG (HandSHeadRun.getT s)
theorem ob_eq (s : PySem.W.SharedT) : ob s = hk.obs s.abs := obsXG_eq (HandSHeadRun.getT_eq s)
theorem run (w : World) : HandSHeadRun.RunEq R (PySem.W.view R.prog [42]) hk ob 6000 loose w := by
  intro os
  kernel_rfl
theorem tx_of {K : PySem.W.Frag} {h : Heap} {mg : Str → Option Value} (X : K.In h) (G : h.Ns mainGlobals mg) (c : SaysX K) : ∃ T : Tx Pg K mg, T.f_law = He.ga K "law" := by
  have c0 : He.SaysD fa fn K := congrArg (fun z : AlX => z.1) c
  have c1 : (more K).all id = true := congrArg (fun z : AlX => z.2.1) c
  have m : ∀ (i : Nat) (b : Bool), (more K)[i]? = some b → b = true := fun i b e => List.all_eq_true.mp c1 b (List.mem_of_getElem? e)
  have eR := congrArg (fun z : AlX => z.2.2.1) c
  have eB := congrArg (fun z : AlX => z.2.2.2) c
  have top : (Pg.main.scope.names.lookup ("super" : Str)).isSome = false := by kernel_rfl
  have gS : mg "super" = none := He.free_ok X G (c0.fact 49 (f := .free "super") rfl)
  have g_MateError : mg "MateError" = some (.ref (He.ga K "MateError")) := He.glo_ok X G (c0.fact 0 (f := .glo "MateError") rfl)
  have g_InvalidNumber : mg "InvalidNumber" = some (.ref (He.ga K "InvalidNumber")) := He.glo_ok X G (c0.fact 1 (f := .glo "InvalidNumber") rfl)
  have g_Refused : mg "Refused" = some (.ref (He.ga K "Refused")) := He.glo_ok X G (c0.fact 2 (f := .glo "Refused") rfl)
  have g_Broken : mg "Broken" = some (.ref (He.ga K "Broken")) := He.glo_ok X G (c0.fact 3 (f := .glo "Broken") rfl)
  have ER := er_of (K := K) (CM := He.ga K "MateError") text_refused g_Refused gS top (m 0 _ rfl) (m 1 _ rfl) (m 2 _ rfl) eR
  have EB := er_of (K := K) (CM := He.ga K "MateError") text_broken g_Broken gS top (m 3 _ rfl) (m 4 _ rfl) (m 5 _ rfl) eB
  obtain ⟨t_MOST_CELLS, i_MOST_CELLS⟩ := He.int_ok X G (c0.fact 52 (f := .int "MOST_CELLS" 20000) rfl)
  obtain ⟨t_OCTETS, i_OCTETS⟩ := He.int_ok X G (c0.fact 53 (f := .int "OCTETS" 256) rfl)
  obtain ⟨t_HEAD, i_HEAD⟩ := He.int_ok X G (c0.fact 54 (f := .int "HEAD" 3) rfl)
  obtain ⟨t_MARK, i_MARK⟩ := He.int_ok X G (c0.fact 55 (f := .int "MARK" 1) rfl)
  obtain ⟨fd_is_integer, F_is_integer⟩ := c0.def_ 0 (d := h_is_integer) rfl
  obtain ⟨fd_is_number, F_is_number⟩ := c0.def_ 1 (d := h_is_number) rfl
  obtain ⟨fd_is_octet, F_is_octet⟩ := c0.def_ 2 (d := h_is_octet) rfl
  obtain ⟨fdDisk_init, FDisk_init⟩ := c0.def_ 3 (d := hDisk_init) rfl
  obtain ⟨fdDisk_look, FDisk_look⟩ := c0.def_ 4 (d := hDisk_look) rfl
  obtain ⟨fdDisk_put, FDisk_put⟩ := c0.def_ 5 (d := hDisk_put) rfl
  obtain ⟨fdDisk_flush, FDisk_flush⟩ := c0.def_ 6 (d := hDisk_flush) rfl
  obtain ⟨fdDisk_events, FDisk_events⟩ := c0.def_ 7 (d := hDisk_events) rfl
  obtain ⟨fd_pending_places, F_pending_places⟩ := c0.def_ 8 (d := h_pending_places) rfl
  obtain ⟨fd_cut_cells, F_cut_cells⟩ := c0.def_ 9 (d := h_cut_cells) rfl
  obtain ⟨fd_half_start, F_half_start⟩ := c0.def_ 10 (d := h_half_start) rfl
  obtain ⟨fd_records_from, F_records_from⟩ := c0.def_ 11 (d := h_records_from) rfl
  obtain ⟨fd_needed_cells, F_needed_cells⟩ := c0.def_ 12 (d := h_needed_cells) rfl
  obtain ⟨fd_put_record, F_put_record⟩ := c0.def_ 13 (d := h_put_record) rfl
  obtain ⟨fd_put_end, F_put_end⟩ := c0.def_ 14 (d := h_put_end) rfl
  obtain ⟨fdJournal_init, FJournal_init⟩ := c0.def_ 15 (d := hJournal_init) rfl
  obtain ⟨fdJournal_records, FJournal_records⟩ := c0.def_ 16 (d := hJournal_records) rfl
  obtain ⟨fdJournal_write, FJournal_write⟩ := c0.def_ 17 (d := hJournal_write) rfl
  obtain ⟨fdJournal_drop, FJournal_drop⟩ := c0.def_ 18 (d := hJournal_drop) rfl
  obtain ⟨fdJournal_renew, FJournal_renew⟩ := c0.def_ 19 (d := hJournal_renew) rfl
  obtain ⟨fd_heap, F_heap⟩ := c0.def_ 20 (d := h_heap) rfl
  obtain ⟨fd_draw, F_draw⟩ := c0.def_ 21 (d := h_draw) rfl
  obtain ⟨fd_pick, F_pick⟩ := c0.def_ 22 (d := h_pick) rfl
  obtain ⟨fd_octet, F_octet⟩ := c0.def_ 23 (d := h_octet) rfl
  obtain ⟨fd_record, F_record⟩ := c0.def_ 24 (d := h_record) rfl
  obtain ⟨fd_lasting, F_lasting⟩ := c0.def_ 25 (d := h_lasting) rfl
  obtain ⟨fd_left, F_left⟩ := c0.def_ 26 (d := h_left) rfl
  obtain ⟨fd_opened, F_opened⟩ := c0.def_ 27 (d := h_opened) rfl
  obtain ⟨fd_base, F_base⟩ := c0.def_ 28 (d := h_base) rfl
  obtain ⟨fd_cuts_right, F_cuts_right⟩ := c0.def_ 29 (d := h_cuts_right) rfl
  obtain ⟨fd_call, F_call⟩ := c0.def_ 30 (d := h_call) rfl
  obtain ⟨fd_turn, F_turn⟩ := c0.def_ 31 (d := h_turn) rfl
  obtain ⟨fd_day_right, F_day_right⟩ := c0.def_ 32 (d := h_day_right) rfl
  obtain ⟨fd_many_right, F_many_right⟩ := c0.def_ 33 (d := h_many_right) rfl
  obtain ⟨fd_disk_right, F_disk_right⟩ := c0.def_ 34 (d := h_disk_right) rfl
  obtain ⟨fd_odds_right, F_odds_right⟩ := c0.def_ 35 (d := h_odds_right) rfl
  obtain ⟨fd_strange_right, F_strange_right⟩ := c0.def_ 36 (d := h_strange_right) rfl
  obtain ⟨fd_law, F_law⟩ := c0.def_ 37 (d := h_law) rfl
  refine ⟨{
    CM := He.ga K "MateError",
    CN := He.ga K "InvalidNumber",
    CR := aR K,
    CB := aB K,
    fR := iR K,
    fB := iB K,
    gM := g_MateError,
    gN := g_InvalidNumber,
    gR := g_Refused,
    gB := g_Broken,
    eR := ER,
    eB := EB,
    kRR := of_decide_eq_true (m 6 _ rfl),
    kRB := of_decide_eq_true (m 7 _ rfl),
    kRN := of_decide_eq_true (m 8 _ rfl),
    kBB := of_decide_eq_true (m 9 _ rfl),
    kBR := of_decide_eq_true (m 10 _ rfl),
    CD := He.ga K "Disk",
    CJ := He.ga K "Journal",
    gD := He.glo_ok X G (c0.fact 7 (f := .glo "Disk") rfl),
    gJ := He.glo_ok X G (c0.fact 15 (f := .glo "Journal") rfl),
    clD := He.cls_ok (c0.fact 56 (f := .cls "Disk") rfl),
    clJ := He.cls_ok (c0.fact 57 (f := .cls "Journal") rfl),
    neDJ := of_decide_eq_true (m 11 _ rfl),
    nDcells := He.noat_ok (c0.fact 60 (f := .noat "Disk" "cells") rfl),
    nD_octets := He.noat_ok (c0.fact 61 (f := .noat "Disk" "_octets") rfl),
    nD_events := He.noat_ok (c0.fact 62 (f := .noat "Disk" "_events") rfl),
    nJdisk := He.noat_ok (c0.fact 63 (f := .noat "Journal" "disk") rfl),
    nJ_side := He.noat_ok (c0.fact 64 (f := .noat "Journal" "_side") rfl),
    nJ_records := He.noat_ok (c0.fact 65 (f := .noat "Journal" "_records") rfl),
    nJ_end := He.noat_ok (c0.fact 66 (f := .noat "Journal" "_end") rfl),
    f_is_integer := He.fAd K ("is_integer", none),
    d_is_integer := fd_is_integer,
    F_is_integer := F_is_integer,
    g_is_integer := He.glo_ok X G (c0.fact 4 (f := .glo "is_integer") rfl),
    f_is_number := He.fAd K ("is_number", none),
    d_is_number := fd_is_number,
    F_is_number := F_is_number,
    g_is_number := He.glo_ok X G (c0.fact 5 (f := .glo "is_number") rfl),
    f_is_octet := He.fAd K ("is_octet", none),
    d_is_octet := fd_is_octet,
    F_is_octet := F_is_octet,
    g_is_octet := He.glo_ok X G (c0.fact 6 (f := .glo "is_octet") rfl),
    f_Disk_init := He.fAd K ("Disk", some "__init__"),
    d_Disk_init := fdDisk_init,
    F_Disk_init := FDisk_init,
    mkD := He.mkr_ok (c0.fact 58 (f := .mkr "Disk") rfl),
    f_Disk_look := He.fAd K ("Disk", some "look"),
    d_Disk_look := fdDisk_look,
    F_Disk_look := FDisk_look,
    m_Disk_look := He.meth_ok (c0.fact 67 (f := .meth "Disk" "look") rfl),
    f_Disk_put := He.fAd K ("Disk", some "put"),
    d_Disk_put := fdDisk_put,
    F_Disk_put := FDisk_put,
    m_Disk_put := He.meth_ok (c0.fact 68 (f := .meth "Disk" "put") rfl),
    f_Disk_flush := He.fAd K ("Disk", some "flush"),
    d_Disk_flush := fdDisk_flush,
    F_Disk_flush := FDisk_flush,
    m_Disk_flush := He.meth_ok (c0.fact 69 (f := .meth "Disk" "flush") rfl),
    f_Disk_events := He.fAd K ("Disk", some "events"),
    d_Disk_events := fdDisk_events,
    F_Disk_events := FDisk_events,
    m_Disk_events := He.meth_ok (c0.fact 70 (f := .meth "Disk" "events") rfl),
    f_pending_places := He.fAd K ("pending_places", none),
    d_pending_places := fd_pending_places,
    F_pending_places := F_pending_places,
    g_pending_places := He.glo_ok X G (c0.fact 8 (f := .glo "pending_places") rfl),
    f_cut_cells := He.fAd K ("cut_cells", none),
    d_cut_cells := fd_cut_cells,
    F_cut_cells := F_cut_cells,
    g_cut_cells := He.glo_ok X G (c0.fact 9 (f := .glo "cut_cells") rfl),
    f_half_start := He.fAd K ("half_start", none),
    d_half_start := fd_half_start,
    F_half_start := F_half_start,
    g_half_start := He.glo_ok X G (c0.fact 10 (f := .glo "half_start") rfl),
    f_records_from := He.fAd K ("records_from", none),
    d_records_from := fd_records_from,
    F_records_from := F_records_from,
    g_records_from := He.glo_ok X G (c0.fact 11 (f := .glo "records_from") rfl),
    f_needed_cells := He.fAd K ("needed_cells", none),
    d_needed_cells := fd_needed_cells,
    F_needed_cells := F_needed_cells,
    g_needed_cells := He.glo_ok X G (c0.fact 12 (f := .glo "needed_cells") rfl),
    f_put_record := He.fAd K ("put_record", none),
    d_put_record := fd_put_record,
    F_put_record := F_put_record,
    g_put_record := He.glo_ok X G (c0.fact 13 (f := .glo "put_record") rfl),
    f_put_end := He.fAd K ("put_end", none),
    d_put_end := fd_put_end,
    F_put_end := F_put_end,
    g_put_end := He.glo_ok X G (c0.fact 14 (f := .glo "put_end") rfl),
    f_Journal_init := He.fAd K ("Journal", some "__init__"),
    d_Journal_init := fdJournal_init,
    F_Journal_init := FJournal_init,
    mkJ := He.mkr_ok (c0.fact 59 (f := .mkr "Journal") rfl),
    f_Journal_records := He.fAd K ("Journal", some "records"),
    d_Journal_records := fdJournal_records,
    F_Journal_records := FJournal_records,
    m_Journal_records := He.meth_ok (c0.fact 71 (f := .meth "Journal" "records") rfl),
    f_Journal_write := He.fAd K ("Journal", some "write"),
    d_Journal_write := fdJournal_write,
    F_Journal_write := FJournal_write,
    m_Journal_write := He.meth_ok (c0.fact 72 (f := .meth "Journal" "write") rfl),
    f_Journal_drop := He.fAd K ("Journal", some "drop"),
    d_Journal_drop := fdJournal_drop,
    F_Journal_drop := FJournal_drop,
    m_Journal_drop := He.meth_ok (c0.fact 73 (f := .meth "Journal" "drop") rfl),
    f_Journal_renew := He.fAd K ("Journal", some "renew"),
    d_Journal_renew := fdJournal_renew,
    F_Journal_renew := FJournal_renew,
    m_Journal_renew := He.meth_ok (c0.fact 74 (f := .meth "Journal" "renew") rfl),
    f_heap := He.fAd K ("_law_heap", none),
    d_heap := fd_heap,
    F_heap := F_heap,
    g_heap := He.glo_ok X G (c0.fact 16 (f := .glo "_law_heap") rfl),
    f_draw := He.fAd K ("_law_draw", none),
    d_draw := fd_draw,
    F_draw := F_draw,
    g_draw := He.glo_ok X G (c0.fact 17 (f := .glo "_law_draw") rfl),
    f_pick := He.fAd K ("_law_pick", none),
    d_pick := fd_pick,
    F_pick := F_pick,
    g_pick := He.glo_ok X G (c0.fact 18 (f := .glo "_law_pick") rfl),
    f_octet := He.fAd K ("_law_octet", none),
    d_octet := fd_octet,
    F_octet := F_octet,
    g_octet := He.glo_ok X G (c0.fact 19 (f := .glo "_law_octet") rfl),
    f_record := He.fAd K ("_law_record", none),
    d_record := fd_record,
    F_record := F_record,
    g_record := He.glo_ok X G (c0.fact 20 (f := .glo "_law_record") rfl),
    f_lasting := He.fAd K ("_law_lasting", none),
    d_lasting := fd_lasting,
    F_lasting := F_lasting,
    g_lasting := He.glo_ok X G (c0.fact 21 (f := .glo "_law_lasting") rfl),
    f_left := He.fAd K ("_law_left", none),
    d_left := fd_left,
    F_left := F_left,
    g_left := He.glo_ok X G (c0.fact 22 (f := .glo "_law_left") rfl),
    f_opened := He.fAd K ("_law_opened", none),
    d_opened := fd_opened,
    F_opened := F_opened,
    g_opened := He.glo_ok X G (c0.fact 23 (f := .glo "_law_opened") rfl),
    f_base := He.fAd K ("_law_base", none),
    d_base := fd_base,
    F_base := F_base,
    g_base := He.glo_ok X G (c0.fact 24 (f := .glo "_law_base") rfl),
    f_cuts_right := He.fAd K ("_law_cuts_right", none),
    d_cuts_right := fd_cuts_right,
    F_cuts_right := F_cuts_right,
    g_cuts_right := He.glo_ok X G (c0.fact 25 (f := .glo "_law_cuts_right") rfl),
    f_call := He.fAd K ("_law_call", none),
    d_call := fd_call,
    F_call := F_call,
    g_call := He.glo_ok X G (c0.fact 26 (f := .glo "_law_call") rfl),
    f_turn := He.fAd K ("_law_turn", none),
    d_turn := fd_turn,
    F_turn := F_turn,
    g_turn := He.glo_ok X G (c0.fact 27 (f := .glo "_law_turn") rfl),
    f_day_right := He.fAd K ("_law_day_right", none),
    d_day_right := fd_day_right,
    F_day_right := F_day_right,
    g_day_right := He.glo_ok X G (c0.fact 28 (f := .glo "_law_day_right") rfl),
    f_many_right := He.fAd K ("_law_many_right", none),
    d_many_right := fd_many_right,
    F_many_right := F_many_right,
    g_many_right := He.glo_ok X G (c0.fact 29 (f := .glo "_law_many_right") rfl),
    f_disk_right := He.fAd K ("_law_disk_right", none),
    d_disk_right := fd_disk_right,
    F_disk_right := F_disk_right,
    g_disk_right := He.glo_ok X G (c0.fact 30 (f := .glo "_law_disk_right") rfl),
    f_odds_right := He.fAd K ("_law_odds_right", none),
    d_odds_right := fd_odds_right,
    F_odds_right := F_odds_right,
    g_odds_right := He.glo_ok X G (c0.fact 31 (f := .glo "_law_odds_right") rfl),
    f_strange_right := He.fAd K ("_law_strange_right", none),
    d_strange_right := fd_strange_right,
    F_strange_right := F_strange_right,
    g_strange_right := He.glo_ok X G (c0.fact 32 (f := .glo "_law_strange_right") rfl),
    f_law := He.fAd K ("law", none),
    d_law := fd_law,
    F_law := F_law,
    g_law := He.glo_ok X G (c0.fact 33 (f := .glo "law") rfl),
    n_isinstance := He.free_ok X G (c0.fact 34 (f := .free "isinstance") rfl),
    n_len := He.free_ok X G (c0.fact 35 (f := .free "len") rfl),
    n_all := He.free_ok X G (c0.fact 36 (f := .free "all") rfl),
    n_list := He.free_ok X G (c0.fact 37 (f := .free "list") rfl),
    n_tuple := He.free_ok X G (c0.fact 38 (f := .free "tuple") rfl),
    n_sorted := He.free_ok X G (c0.fact 39 (f := .free "sorted") rfl),
    n_set := He.free_ok X G (c0.fact 40 (f := .free "set") rfl),
    n_zip := He.free_ok X G (c0.fact 41 (f := .free "zip") rfl),
    n_range := He.free_ok X G (c0.fact 42 (f := .free "range") rfl),
    n_sum := He.free_ok X G (c0.fact 43 (f := .free "sum") rfl),
    n_enumerate := He.free_ok X G (c0.fact 44 (f := .free "enumerate") rfl),
    n_abs := He.free_ok X G (c0.fact 45 (f := .free "abs") rfl),
    n_int := He.free_ok X G (c0.fact 46 (f := .free "int") rfl),
    n_max := He.free_ok X G (c0.fact 47 (f := .free "max") rfl),
    n_repr := He.free_ok X G (c0.fact 48 (f := .free "repr") rfl),
    n_super := He.free_ok X G (c0.fact 49 (f := .free "super") rfl),
    n_bool := He.free_ok X G (c0.fact 50 (f := .free "bool") rfl),
    n_str := He.free_ok X G (c0.fact 51 (f := .free "str") rfl),
    t_MOST_CELLS := t_MOST_CELLS,
    i_MOST_CELLS := i_MOST_CELLS,
    t_OCTETS := t_OCTETS,
    i_OCTETS := i_OCTETS,
    t_HEAD := t_HEAD,
    i_HEAD := i_HEAD,
    t_MARK := t_MARK,
    i_MARK := i_MARK }, rfl⟩
/-! ### the law's end over a promise that asks for the bare guards -/
section
variable {P : Program} {w : World} {K : PySem.W.Frag} {mg mb : Str → Option Value} {fa a : Addr} {fd : FuncData} {sp : Sp} {st : Shared} {us : List Value} {ns : List Int}
/-- at a heap of promises that knows the script at most -/
theorem end_core (hK : K.In st.heap) (hm : st.heap.Ns mainGlobals mg) (hbl : st.heap.Ns builtinsNs mb) (hbo : ∀ x : Str, x ≠ "__name__" → mb x = bootBuiltins x) (hno : st.heap.NoLimit) (hgs : st.gens = #[])
    (hobj : st.heap.get? a = some { cls := .type "list", data := .seq us.toArray })
    (F : ∀ base : Heap, K.In base → FnG P w K mg base (CX P w) 10 fa fd ["_law_script"] sp) (bnd : ∀ (s : Shared) (u : Value), BindsTo s fd ⟨[u], []⟩ [("_law_script", u)])
    (H : Hp) (hO : Only H) (hsp : sp [.ref a] H (fun v _ => v = .bl true) fun _ _ _ => False) (hok : HOk P w H st.heap) (one : ∀ b, H b ≠ none → b = a) (far : H a ≠ none → K.lookup a = none) :
    codeAny (model P w) callerA (.call (.ref fa) ⟨[.ref a], []⟩) (fun r s' => r = .ok (.ret (.bool true)) ∧ OldK st.heap s'.heap ∧ s'.os = st.os ∧ AllBare s'.gens) st := by
  have cases2 : ∀ b, H b = none ∨ (b = a ∧ H a ≠ none) := fun b => by
    cases e : H b with
    | none => exact .inl rfl
    | some u =>
      have n : H b ≠ none := by
        rw [e]
        exact fun z => by cases z
      have eb := one b n
      rw [eb] at n
      exact .inr ⟨eb, n⟩
  have ns2 : ∀ {b : Addr} {m : Str → Option Value}, st.heap.Ns b m → (hidT st.heap H).Ns b m := by
    intro b m z
    obtain ⟨o, es, ep, e, d, r⟩ := z
    rcases cases2 b with n | ⟨eb, _⟩
    · exact ⟨o, es, ep, hidT_get e n, d, r⟩
    · rw [eb, hobj] at e
      cases e
      exact absurd (show Data.seq us.toArray _ = Data.dict es ep from d) (fun z => by cases z)
  have kb : K.In (hidT st.heap H) := by
    intro b o e
    rcases cases2 b with n | ⟨eb, n⟩
    · exact hidT_get (hK b o e) n
    · rw [eb, far n] at e
      cases e
  obtain ⟨ml, l1, l2⟩ := hno
  have md : Mod K mg (hidT st.heap H) := ⟨kb, ns2 hm, ⟨mb, ns2 hbl, hbo⟩, ml, ns2 l1, l2⟩
  have env : Env0 P w K mg (hidT st.heap H) callerA [] st H := ⟨rfl, md, fun _ _ z => of_hidT z, Nat.le_of_eq (hidT_size _ _), trivial, fun _ z => (by cases z), hok, AllBare.of_eq hgs⟩
  have go := (F _ kb).run callerA [] st H ⟨[.ref a], []⟩ [.ref a] [.ref a] _ _ ⟨rfl, by decide, by decide⟩ rfl env (bnd st (.ref a)) (.cons rfl .nil) hsp
  refine codeAny_mono go fun r s' z => ?_
  cases r with
  | error e =>
    obtain ⟨_, _, _, _, _, _, _, _, _, _, _, _, q⟩ := z
    exact False.elim q
  | ok fl =>
    cases fl with
    | ret u =>
      obtain ⟨v, H', os, bare, un, hok', rv, q⟩ := z
      have q2 : v = .bl true := q
      rw [q2] at rv
      have eu : u = Value.bool true := rv
      rw [eu]
      refine ⟨rfl, OldK.of_keep fun b o e => ?_, os, bare⟩
      cases qb : H b with
      | none => exact un.keep b o e qb (fun z => by cases z) (fun z => by cases z)
      | some x =>
        rcases hO b with n | ⟨ob, xs, n⟩
        · rw [n] at qb
          cases qb
        · obtain ⟨g1, _⟩ := hok b _ n
          obtain ⟨g2, _⟩ := hok' b _ (un.frzs b ob _ n)
          rw [e] at g1
          cases g1
          exact g2
    | next => exact z.elim
    | brk => exact z.elim
    | cont => exact z.elim
theorem end_call (hK : K.In st.heap) (hm : st.heap.Ns mainGlobals mg) (hbl : st.heap.Ns builtinsNs mb) (hbo : ∀ x : Str, x ≠ "__name__" → mb x = bootBuiltins x) (hno : st.heap.NoLimit) (hgs : st.gens = #[])
    (hobj : st.heap.get? a = some { cls := .type "list", data := .seq us.toArray }) (hi : IntsAre us ns) (hl : ns.length ≤ sizeLine)
    (F : ∀ base : Heap, K.In base → FnG P w K mg base (CX P w) 10 fa fd ["_law_script"] sp) (bnd : ∀ (s : Shared) (u : Value), BindsTo s fd ⟨[u], []⟩ [("_law_script", u)])
    (hsp : ∀ H : Hp, SqL K H a (ns.map V.int) → sp [.ref a] H (fun v _ => v = .bl true) fun _ _ _ => False) :
    codeAny (model P w) callerA (.call (.ref fa) ⟨[.ref a], []⟩) (fun r s' => r = .ok (.ret (.bool true)) ∧ OldK st.heap s'.heap ∧ s'.os = st.os ∧ AllBare s'.gens) st := by
  have vv := vals_ints hi
  have ln := hi.length
  cases hk : K.lookup a with
  | some o =>
    -- an object of the module itself: nothing is tracked
    have e := hK a o hk
    rw [hobj] at e
    have eo := Option.some.inj e
    rw [← eo] at hk
    refine end_core hK hm hbl hbo hno hgs hobj F bnd (fun _ => none) (fun _ => .inl rfl) (hsp _ (.inr ⟨_, us.toArray, _, hk, rfl, rfl, rfl, ?_, ?_⟩)) (fun b u z => by cases (show (none : Option HO) = some u from z)) (fun _ z => absurd rfl z) fun z => absurd rfl z
    · rw [List.size_toArray, ln]
      exact hl
    · simpa using vv
  | none =>
    have at1 : upd (fun _ => none) a (.frz { cls := .type "list", data := .seq us.toArray } (.lst (ns.map V.int))) a = some (.frz { cls := .type "list", data := .seq us.toArray } (.lst (ns.map V.int))) := upd_same
    have at2 : ∀ b, b ≠ a → upd (fun _ => none) a (.frz { cls := .type "list", data := .seq us.toArray } (.lst (ns.map V.int))) b = none := fun b hb => upd_ne hb
    generalize upd (fun _ => none) a (.frz { cls := .type "list", data := .seq us.toArray } (.lst (ns.map V.int))) = H at at1 at2
    refine end_core hK hm hbl hbo hno hgs hobj F bnd H (fun b => ?_) (hsp H (.inl (.inr ⟨_, at1⟩))) (fun b u z => ?_) (fun b z => ?_) fun _ => hk
    · by_cases hb : b = a
      · rw [hb]
        exact .inr ⟨_, _, at1⟩
      · exact .inl (at2 b hb)
    · by_cases hb : b = a
      · rw [hb, at1] at z
        cases z
        rw [hb]
        exact ⟨hobj, by rw [List.length_map]; exact hl, us, _, vv, hobj⟩
      · rw [at2 b hb] at z
        cases z
    · by_cases hb : b = a
      · exact hb
      · exact absurd (at2 b hb) z
end
end KJ
open PySem PySem.W PySem.Calls PyProof.Rows
theorem PySem.Challenge.cw_lastpairs_k66_whole_disks_and_journals_c_holds : PySem.Challenge.rw_lastpairs_k66_whole_disks_and_journals_c.Holds := by
  w_on; o_law
  refine HandSHeadRun.head_any (r := OpenLaw.row PySem.Challenge.rw_lastpairs_k66_whole_disks_and_journals_c) (q := view (OpenLaw.row PySem.Challenge.rw_lastpairs_k66_whole_disks_and_journals_c).prog [42]) (H := KJ.hk) (ob := KJ.ob) (M := 6000) (loose := KJ.loose) (d := HandSHeadRun.topDef (OpenLaw.row PySem.Challenge.rw_lastpairs_k66_whole_disks_and_journals_c).prog 42) (kwd := []) KJ.ob_eq
    (by kernel_rfl) (fun s => by kernel_rfl) KJ.run (by kernel_rfl) (by kernel_rfl) (by kernel_rfl) (by rfl) (by first | assumption | decide +kernel) (by decide +kernel) ⟨rfl, rfl, rfl, rfl, rfl, by decide +kernel⟩ ?hw ?hc
  case hw => w_witness2
  case hc =>
    refine Att.attach_call (l := PySem.Challenge.rw_lastpairs_k66_whole_disks_and_journals_c) (n := 63) rfl (by kernel_rfl) fun w s₀ s₁ mg mb fa o pm cd doc a vs ns G Y ho hd hcd hmg hobj hints hlen hg => ?_
    obtain ⟨K, KX, c⟩ := Y
    obtain ⟨T, eT⟩ := KJ.tx_of KX G.T.g c
    have hmg2 : mg ("law" : PySem.Str) = some (.ref fa) := by
      have e : (HandSHeadRun.topDef (OpenLaw.row PySem.Challenge.rw_lastpairs_k66_whole_disks_and_journals_c).prog 42).name = ("law" : PySem.Str) := by kernel_rfl
      rw [← e]
      exact hmg
    have ef : fa = T.f_law := by
      have z := hmg2.symm.trans T.g_law
      cases z
      rfl
    rw [ef]
    have b := L2.FunD.bindsA (ps := ["_law_script"]) T.F_law fun _ _ _ _ _ _ us hl => match us, hl with | [_], _ => rfl
    exact KJ.end_call KX G.T.g G.T.b G.T.builtins G.T.nolimit hg hobj hints (Nat.le_trans hlen (by decide)) (fun base hb => KJ.ok_law T) (fun s v => b s [v] rfl) fun H hS => ⟨a, ns, rfl, hS, hlen, fun _ => rfl⟩
end
