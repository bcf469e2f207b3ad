import PyProof.Rows.All
import Wide.All
import OpenK.AllK
import Wide.FinOn
import PyProof.EqAt
import PyProof.EqKinds
import PyProof.TupleCall
import KE.KExcSuper
import HandS.ForMost
import HandS.Exc
import KE.KEqNest
import HandS.TryMany
import HandS.EndTab
import HandS.IsInst
import HandS.Wide
import PyProof.Walk
import PyProof.WalkLemmas
import PyProof.Pure
import HandS.ExcOwn
import PyProof.StrOps2
import PySem.Challenge.RW_cutrooms_k01_whole_fractions
set_option Elab.async false
set_option linter.all false
set_option maxRecDepth 100000
set_option maxHeartbeats 4000000
namespace CRx
open PySem PySem.W PySem.Calls PyProof.Rows PySem.HandSPX

/-- the one shape of an error's maker: the base is told a text, then the thing is kept under its own name -/
def mkBody (msg par : Str) (a1 a2 a3 a4 a5 a6 a7 a9 b1 b2 b3 b4 : Pos) (e1 e2 e3 j : Nat) : List Stmt :=
  [.Expr (.Call (.Attribute (.Call (.Name "super" a1) [] [] a2) "__init__" a3)
      [.JoinedStr [.Constant (.str msg) j a4, .FormattedValue (.Name par a5) 114 none a6] a7] [] ⟨a3.endLine, e1, e2, e3⟩) a9,
   .Assign [.Attribute (.Name "self" b1) par b2] (.Name par b3) b4]

/-- the value can be told by repr, whatever was laid since -/
def Tells (P : Program) (w : World) (h : Heap) (v : Value) : Prop :=
  ∀ (A : Around) (E : Value → Shared → Prop) (s : Shared) (Q : Value → Shared → Prop),
    A.guards = some [] → A.units + 70 < cLine → (∀ b o, h.get? b = some o → s.heap.get? b = some o) →
    (∀ (h' : Heap) (y : Str) (u tk : Tok), (∀ b o, s.heap.get? b = some o → h'.get? b = some o) → y.length ≤ 1000000 →
      Q (.str y u) { s with heap := h', toks := tk }) →
    wpAny (model P w) A (pyReprObj v) Q E s

/-- what an exception looks like behind its maker -/
structure Out (h h' : Heap) (x C dx t1 : Addr) (fld : Str) (v : Value) : Prop where
  keep : ∀ b o, b ≠ x → h.get? b = some o → h'.get? b = some o
  obj : h'.get? x = some { cls := .ref C, dict := some dx, data := .fields #[.ref t1, .none, .none, .none, .bool false, .none] }
  above : h.objs.size ≤ dx
  apart : dx ≠ x
  map : h'.Ns1 dx (fun y => if y = fld then some v else none)

section
variable {P : Program} {w : World} {A : Around} {R : Result → Shared → Prop} {s : Shared} {K : Frag} {mg mb : Str → Option Value}
variable {nm q : Str} {C N D : Addr} {bs bm : List Value} {sn : List Str} {sub : List Value} {ab : Bool} {col : Option Bool} {dd : Option Addr} {k0 k1 k2 k3 k5 : Option Value}
variable {name qual msg par : Str} {params : Arguments} {body : List Stmt} {scope : Scope} {dV kV doc pm ct oc : Value} {an od : Option Addr} {osl : Array (Option Value)} {f cda cc : Addr}

theorem bound_call {h : Heap} {g : Array GenState} {d : Drawn} {t : Nat} {os : OsState} {E : Value → Shared → Prop} {u e t0 : Addr} {rest : List Value} {Q : Value → Shared → Prop}
    (hC : h.get? C = some (excClassObj nm q C N bs bm true sn sub ab col dd k0 k1 k2 k3 k5 "ValueError.__new__"))
    (he : h.get? e = some (excO C t0)) (hu : h.get? u = some (kxs_mw "ValueError.__init__" e)) (hrest : rest.length ≤ sizeLine)
    (hq : ∀ h' t1, (∀ b o, b ≠ e → h.get? b = some o → h'.get? b = some o) → h'.get? e = some (excO C t1) → Q .none ⟨h', g, d, t, os⟩) :
    wpAny (model P w) A (call (.ref u) rest) Q E ⟨h, g, d, t, os⟩ := by
  refine wpAny_call (codeAny_of_tree ?_)
  show wpAny _ A.in1 (callAny (.ref u) ⟨rest, []⟩) _ _ _
  unfold callAny
  refine wpAny_bind (wpAny_load hu ?_)
  have two : (Value.type "method-wrapper" == Value.type "method" || Value.type "method-wrapper" == Value.type "builtin_function_or_method" || Value.type "method-wrapper" == Value.type "method-wrapper") = true := by decide
  simp only [kxs_mw, two, if_true]
  refine KFB.if_so (by decide) ?_
  refine wpAny_bind (check_bound_init F.excBase_ValueError.toExcCallFacts hC he rfl ?_)
  refine wpAny_bind (wpAny_pure (wpAny_pure ?_))
  refine ⟨plainId_quiet F.excBase_ValueError.init.plain _, codeAny_builtin F.excBase_ValueError.initEntry ?_⟩
  exact exc_init_tree (cls := .ref C) (t0 := t0) (dv := none) (c2 := .none) (c3 := .none) (b4 := .bool false) he hrest fun h' k e1 _ => hq h' _ k e1

theorem maker (X : K.In s.heap) (hlim : s.heap.NoLimit) (hgl : s.heap.Ns mainGlobals mg) (hbl : s.heap.Ns builtinsNs mb) (hbo : ∀ x : Str, x ≠ "__name__" → mb x = bootBuiltins x)
    (hsup : mg "super" = none)
    (hroom : A.depth < recursionLimit) (hun : A.units + 100 < cLine) (hgd : A.guards = some [])
    (lf : K.lookup f = some ⟨oc, od, .func (ksFn name qual params body scope dV kV doc pm an (.ref cda) ct cc), osl⟩)
    (hcd : codeIn K (.ref cda) qual = true)
    (hp : params.posonlyargs = []) (hp2 : (params.args.head?).map (·.arg) = some "self")
    (hbody : ∃ a1 a2 a3 a4 a5 a6 a7 a9 b1 b2 b3 b4 e1 e2 e3 j, body = mkBody msg par a1 a2 a3 a4 a5 a6 a7 a9 b1 b2 b3 b4 e1 e2 e3 j)
    (hk : scope.kind = .function) (hco : scope.isCoroutine = false) (hgen : scope.isGenerator = false)
    (hnc : ∀ x ∈ scope.names, x.2 ≠ .cell)
    (hs1 : scope.names.lookup ("super" : Str) = some .globalImplicit) (hs2 : scope.names.lookup ("__class__" : Str) = some .free)
    (hs3 : scope.names.lookup ("self" : Str) = some .local) (hs4 : scope.names.lookup par = some .local)
    (hpd : (par == ("__debug__" : Str)) = false) (hps : ("self" : Str) ≠ par)
    (hbind : ∀ self v : Value, BindsTo s (ksFn name qual params body scope dV kV doc pm an (.ref cda) ct cc) ⟨[self, v], []⟩ [("self", self), (par, v)])
    (hC : K.lookup C = some (excClassObj nm q C N bs bm true sn sub ab col dd k0 k1 k2 k3 k5 "ValueError.__new__"))
    (hbm : refsVE bm = true)
    (hcode : ∃ ccl cdd vs ccs file tf, K.lookup cda = some ⟨ccl, cdd, .fields vs, ccs⟩ ∧ vs[2]? = some (.str file tf) ∧ ((P.main.file : Str) == file) = true)
    (hcell : ∃ cl cld csl, K.lookup cc = some ⟨cl, cld, .cell (some (.ref C)), csl⟩)
    (htop : (P.main.scope.names.lookup ("super" : Str)).isSome = false)
    (hopq : nsIn K cStatics "thirdparty.any" = some none)
    (hal : alongIn K "__init__" bm = some (some (.builtin "ValueError.__init__")))
    (hsa : findIn K (.ref C) "__setattr__" = some (some (.builtin "object.__setattr__")))
    (hfn : findIn K (.ref C) par = some none)
    (hmsg : msg.length ≤ 1000)
    {x t0 : Addr} {v : Value} (hx : s.heap.get? x = some (excO C t0)) (hnx : K.lookup x = none)
    (hv : Tells P w s.heap v)
    (hq : ∀ h' tk dx t1, Out s.heap h' x C dx t1 par v → R (.ok (.ret .none)) { s with heap := h', toks := tk }) :
    codeAny (model P w) A (.call (.ref f) ⟨[.ref x, v], []⟩) R s := by
  obtain ⟨a1, a2, a3, a4, a5, a6, a7, a9, b1, b2, b3, b4, e1, e2, e3, j, rfl⟩ := hbody
  obtain ⟨ccl, cdd, vs, ccs, file, tf, lcode, hvs, hfile⟩ := hcode
  obtain ⟨cl, cld, csl, lcell⟩ := hcell
  obtain ⟨ar, har, hara⟩ : ∃ ar, params.args.head? = some ar ∧ ar.arg = "self" := by
    cases e : params.args.head? with
    | none => rw [e] at hp2; cases hp2
    | some ar => rw [e] at hp2; exact ⟨ar, rfl, Option.some.inj hp2⟩
  refine ks_codeAny_call_defAt (binds := [("self", .ref x), (par, v)]) hroom (X _ _ lf) rfl hlim (codeRec_of X hcd) rfl (hbind _ _) hnc ?_ (fun h₁ hns hk₁ => ?_) hco hgen hk
  · intro y hy
    rcases List.mem_cons.mp hy with rfl | hy
    · exact hs3
    · obtain rfl := List.mem_singleton.mp hy
      exact hs4
  have X₁ : K.In h₁ := X.keeps hk₁
  have hx₁ := hk₁ _ _ hx
  have hC₁ := X₁ _ _ hC
  have hxC : x ≠ C := fun z => by
    rw [z] at hnx
    rw [hC] at hnx
    cases hnx
  have mS : (fun y => ([("self", Value.ref x), (par, v)] : List (Str × Value)).reverse.lookup y) "self" = some (.ref x) := by
    have n1 : (("self" : Str) == par) = false := by simpa using hps
    simp [List.lookup, n1]
  have mP : (fun y => ([("self", Value.ref x), (par, v)] : List (Str × Value)).reverse.lookup y) par = some v := by
    simp [List.lookup]
  -- super()
  refine ks_wpAt_execs_cons (ks_wpAt_Expr_any (ks_wpAt_MethodCall ?_ (by rw [arm_eval_Call]; simp only [methodCall, methodCallPos, beq_self_eq_true, Bool.or_true, if_true, pure_bind]; rfl)) ?_ ?_)
  · refine ks_wpAt_super_base (env := callEnv (ksFn name qual params (mkBody msg par a1 a2 a3 a4 a5 a6 a7 a9 b1 b2 b3 b4 e1 e2 e3 j) scope dV kV doc pm an (.ref cda) ct cc) s.heap.objs.size f) hs1 hs2 (by decide) rfl (X₁ _ _ lf) rfl (ar := ar) ?_ rfl (X₁ _ _ lcode) rfl hvs hfile htop ?_
    · show (params.posonlyargs ++ params.args).head? = some ar
      rw [hp, List.nil_append, har]
    refine ks_loadName_global hk hs1 (loadGlobal_builtin (hgl.keeps hk₁) hsup (hbl.keeps hk₁) ((hbo _ (by decide)).trans (by first | rfl | decide +kernel)) ⟨rfl, ?_⟩)
    refine wpAny_loadName_free hk hs2 rfl ⟨_, X₁ _ _ lcell, rfl⟩ ?_
    rw [hara]
    refine wpAny_loadName_local hk hs3 hns mS ?_
    refine ks_wpAny_isType_cls hC₁ rfl ⟨rfl, ?_⟩
    have hcl : clsIn K C = some { name := nm, bases := bs, mro := .ref C :: bm, ns := N, qualname := q, hasDict := true, slotNames := sn, subclasses := sub, abstract := ab, collection := col, hasDel := false } := by
      unfold clsIn
      rw [hC]
    have hmro : mroIn K C (.ref C) = some true := by
      unfold mroIn
      rw [hcl, Option.bind_some]
      show (if (Value.ref C :: bm).isEmpty = true then none else some ((Value.ref C :: bm).contains (.ref C))) = some true
      rw [if_neg (by simp)]
      simp
    refine ks_wpAny_call_super hC₁ rfl hx₁ rfl (fun c e => by cases e) (looks_mroIn X₁ hmro) (fun h₂ hso hk₂ => ?_)
    have X₂ : K.In h₂ := X₁.keeps hk₂
    have hns₂ : h₂.Ns s.heap.objs.size _ := hns.keeps hk₂
    have hx₂ := hk₂ _ _ hx₁
    have I₂ : InstAt h₂ x (excO C t0) C none := ⟨hx₂, rfl, rfl, trivial⟩
    have hsubV : mroIn K C (.type "ValueError") = some true := by
      unfold mroIn
      rw [hcl, Option.bind_some]
      show (if (Value.ref C :: bm).isEmpty = true then none else some ((Value.ref C :: bm).contains (.type "ValueError"))) = some true
      rw [if_neg (by simp), List.contains_cons, refsVE_contains "ValueError" bm hbm]
      rfl
    have hI₂ : Looks (model P w) h₂ (isInstance (.ref x) (.type "ValueError")) true := I₂.type.andThen (looks_mroIn X₂ hsubV)
    have hdrop : ((Value.ref C :: bm).dropWhile (· != .ref C)).drop 1 = bm := by simp [List.dropWhile_cons]
    refine kxs_getMethod kxs_ValueError hso (looks_opaque X₂ hopq) (l₀ := .ref C :: bm) ((looks_clsIn X₂ hcl).andThen .now) hdrop X₂ hal hI₂ hxC (by decide) ?_
    refine kxs_callWith (i := "ValueError.__init__") (x := x) rfl (evalArgs_plain ?_)
    have hmw : (h₂.push (kxs_mw "ValueError.__init__" x)).get? h₂.objs.size = some (kxs_mw "ValueError.__init__" x) := Heap.get?_push_size _ rfl
    have hk₃ : ∀ b o, h₂.get? b = some o → (h₂.push (kxs_mw "ValueError.__init__" x)).get? b = some o := fun b o e => Heap.get?_push_of_some _ e
    have big : 2000000 ≤ sizeLine := by decide
    refine Calls.spliced_cons (wpAny_JoinedStr (pos := a7) (wpAny_Constant_str ⟨msg, _, rfl, ?_, ?_⟩))
    · rw [strLen_append]
      show 0 + msg.length ≤ sizeLine
      omega
    refine wpAny_FormattedValue_repr (wpAny_Name (wpAny_loadName_local hk hs4 (hns₂.keeps hk₃) mP ?_) hpd)
    refine hv _ _ _ _ hgd ?_ (fun b o e => hk₃ b o (hk₂ b o (hk₁ b o e))) fun h₄ y u tk hk₄ hy => ?_
    · show A.units + 3 + 70 < cLine
      omega
    have X₄ : K.In h₄ := X₂.keeps fun b o e => hk₄ b o (hk₃ b o e)
    have hx₄ := hk₄ _ _ (hk₃ _ _ hx₂)
    have hw₄ : h₄.get? h₂.objs.size = some (kxs_mw "ValueError.__init__" x) := hk₄ _ _ hmw
    have hns₄ : h₄.Ns s.heap.objs.size (fun y => ([("self", Value.ref x), (par, v)] : List (Str × Value)).reverse.lookup y) := (hns₂.keeps hk₃).keeps hk₄
    have up₄ : ∀ b o, s.heap.get? b = some o → h₄.get? b = some o := fun b o e => hk₄ b o (hk₃ b o (hk₂ b o (hk₁ b o e)))
    have len : (Str.empty ++ msg ++ y).length ≤ sizeLine := by
      rw [strLen_append, strLen_append]
      show 0 + msg.length + y.length ≤ sizeLine
      omega
    have hxL : s.heap.objs.size ≠ x := Nat.ne_of_gt (Heap.lt_size hx)
    refine wpAny_formatField_str ?_ ?_ (by omega)
    all_goals
      refine ⟨y, _, rfl, len, len, Calls.spliced_nil ⟨hw₄, bound_call (X₄ _ _ hC) hx₄ hw₄ (by show 1 ≤ sizeLine; omega) fun h₅ t1 hk₅ hx₅ => ?_⟩⟩
      have X₅ : K.In h₅ := fun b o e => hk₅ b o (fun z => by rw [z, hnx] at e; cases e) (X₄ b o e)
      have hns₅ : h₅.Ns s.heap.objs.size (fun y => ([("self", Value.ref x), (par, v)] : List (Str × Value)).reverse.lookup y) := by
        obtain ⟨oL, es, ep, a1, a2⟩ := hns₄
        exact ⟨oL, es, ep, hk₅ _ _ hxL a1, a2⟩
      refine ks_wpAt_execs_cons (wpAt_of_wpAny (plainObj_wpAny_Assign_Attribute ?_ ?_))
      · refine wpAny_Name (wpAny_loadName_local hk hs4 hns₅ mP (wpAny_Name (wpAny_loadName_local hk hs3 hns₅ mS ?_) (by decide))) hpd
        refine set_plain X₅ (ox := excO C t1) (od := none) ⟨hx₅, rfl, rfl, trivial⟩ hsa ?_
        refine exc_osa X₅ hx₅ hcl (show refsVE (.ref C :: bm) = true from hbm) rfl hfn (fun h₆ tk₆ dx hk₆ dn dne hx₆ hn₆ => ?_)
        refine wpAt_of_wpAny (wpAny_execs_nil (hq h₆ tk₆ dx t1 ⟨fun b o hb e => hk₆ b o hb (hk₅ b o hb (up₄ b o e)), hx₆, ?_, dne, hn₆⟩))
        exact Nat.le_trans (Nat.le_of_lt hns₅.lt) dn
      · rfl
  · simp [interactive, callEnv, fnX, newEnv, hk]
  · rfl
end
end CRx

namespace CR
open PySem PySem.Spec PySem.W PyProof.Rows L2 PySem.SeqAt

/-! ### data that can be told: ints of at most 571 digits, short texts, nested at most k deep -/
mutual
def Good : Nat → PyData → Prop
  | _, .none => True
  | _, .bool _ => True
  | _, .int i => i.natAbs < 10 ^ 571
  | _, .str x => x.length ≤ 50 ∧ ∀ c ∈ x.cps.toList, c < 16 ^ 8
  | k + 1, .list xs => GoodAll k xs
  | k + 1, .tuple xs => GoodAll k xs
  | 0, .list _ => False
  | 0, .tuple _ => False
  | _, .dict kvs => kvs = []
def GoodAll : Nat → List PyData → Prop
  | _, [] => True
  | k, x :: xs => Good k x ∧ GoodAll k xs
end
mutual
def wt : PyData → Nat
  | .none => 1
  | .bool _ => 1
  | .int _ => 1
  | .str _ => 1
  | .list xs => wtAll xs + 1
  | .tuple xs => wtAll xs + 1
  | .dict _ => 1
def wtAll : List PyData → Nat
  | [] => 0
  | x :: xs => wt x + wtAll xs
end
theorem goodAll_iff {k : Nat} : ∀ {ds : List PyData}, GoodAll k ds ↔ ∀ d ∈ ds, Good k d
  | [] => by simp [GoodAll]
  | x :: xs => by simp [GoodAll, goodAll_iff (ds := xs)]
theorem goodAll_app {k : Nat} {a b : List PyData} (h : GoodAll k a) (h2 : GoodAll k b) : GoodAll k (a ++ b) :=
  goodAll_iff.mpr fun d hd => (List.mem_append.mp hd).elim (goodAll_iff.mp h d) (goodAll_iff.mp h2 d)
theorem wtAll_app : ∀ {a b : List PyData}, wtAll (a ++ b) = wtAll a + wtAll b
  | [], b => by simp [wtAll]
  | x :: xs, b => by simp [wtAll, wtAll_app (a := xs), Nat.add_assoc]
theorem wtAll_le {c : Nat} : ∀ {ds : List PyData}, (∀ d ∈ ds, wt d ≤ c) → wtAll ds ≤ c * ds.length
  | [], _ => by simp [wtAll]
  | x :: xs, h => by
    have h1 := h x List.mem_cons_self
    have h2 := wtAll_le (ds := xs) fun d hd => h d (List.mem_cons_of_mem _ hd)
    simp only [wtAll, List.length_cons, Nat.mul_succ]
    omega
theorem int_log {i : Int} (h : i.natAbs < 10 ^ 571) : i.natAbs.log2 < 1920 := by
  by_cases h0 : i.natAbs = 0
  · rw [h0]; decide
  · refine (Nat.log2_lt h0).mpr (Nat.lt_of_lt_of_le h ?_)
    decide +kernel
theorem int_len {i : Int} (h : i.natAbs < 10 ^ 571) : (Str.ofString (toString i)).length ≤ 572 := by
  have e := int_text_length_le10 (k := 571) (by decide) h
  clear h
  rw [PySem.ofString_length]
  exact e
mutual
theorem Good.tells : ∀ {k : Nat} {d : PyData}, Good k d → d.showable = true ∧ d.depth ≤ k + 1 ∧ d.shown.length + 5 ≤ 600 * wt d
  | _, .none, _ => ⟨rfl, Nat.zero_le _, by show 4 + 5 ≤ 600; decide⟩
  | _, .bool true, _ => ⟨rfl, Nat.zero_le _, by show 4 + 5 ≤ 600; decide⟩
  | _, .bool false, _ => ⟨rfl, Nat.zero_le _, by show 5 + 5 ≤ 600; decide⟩
  | k, .int i, h => by
    have h : i.natAbs < 10 ^ 571 := by cases k <;> exact h
    refine ⟨decide_eq_true (int_log h), Nat.zero_le _, ?_⟩
    have e := int_len h
    clear h
    show (Str.ofString (toString i)).length + 5 ≤ 600
    omega
  | k, .str x, h => by
    have h : x.length ≤ 50 ∧ ∀ c ∈ x.cps.toList, c < 16 ^ 8 := by cases k <;> exact h
    refine ⟨rfl, Nat.zero_le _, ?_⟩
    have e := StrLaws.reprText_len x h.2
    have e2 := h.1
    show (reprText x).length + 5 ≤ 600
    omega
  | k + 1, .list xs, h => by
    have h : GoodAll k xs := h
    obtain ⟨a, b, c⟩ := GoodAll.tells h
    have z := listText_len_le (PyData.shownAll xs)
    simp only [PyData.showable, PyData.depth, PyData.shown, wt]
    exact ⟨a, by omega, by omega⟩
  | k + 1, .tuple xs, h => by
    have h : GoodAll k xs := h
    obtain ⟨a, b, c⟩ := GoodAll.tells h
    have z := tupleText_len_le (PyData.shownAll xs)
    simp only [PyData.showable, PyData.depth, PyData.shown, wt]
    exact ⟨a, by omega, by omega⟩
  | 0, .list _, h => by cases h
  | 0, .tuple _, h => by cases h
  | k, .dict kvs, h => by
    have h : kvs = [] := by cases k <;> exact h
    subst h
    refine ⟨rfl, ?_, ?_⟩
    · show 0 + 1 ≤ k + 1
      omega
    · show (dictText []).length + 5 ≤ 600
      have : (dictText []).length = 2 := by decide +kernel
      omega
theorem GoodAll.tells : ∀ {k : Nat} {ds : List PyData}, GoodAll k ds → PyData.showableAll ds = true ∧ PyData.depthAll ds ≤ k + 1 ∧ ((PyData.shownAll ds).map (·.length)).sum + 2 * (PyData.shownAll ds).length ≤ 600 * wtAll ds
  | _, [], _ => ⟨rfl, Nat.zero_le _, Nat.le_refl _⟩
  | k, x :: xs, h => by
    have h : Good k x ∧ GoodAll k xs := h
    obtain ⟨a, b, c⟩ := Good.tells h.1
    obtain ⟨a2, b2, c2⟩ := GoodAll.tells h.2
    simp only [PyData.showableAll, PyData.depthAll, PyData.shownAll, List.map_cons, List.sum_cons, List.length_cons, wtAll, Nat.mul_add]
    refine ⟨by rw [a, a2]; rfl, ?_, ?_⟩
    · exact Nat.max_le.mpr ⟨b, b2⟩
    · omega
end

/-! ### a value of the heap that stands for data -/
mutual
inductive Rp (K : PySem.W.Frag) (H : Hp) : V → PyData → Prop
  | non : Rp K H .non .none
  | bl (b : Bool) : Rp K H (.bl b) (.bool b)
  | int (i : Int) : Rp K H (.int i) (.int i)
  | str (x : Str) : Rp K H (.str x) (.str x)
  | lst {a : Addr} {xs : List V} {ds : List PyData} : H a = some (.lst xs) → Rps K H xs ds → Rp K H (.ref a) (.list ds)
  | tup {a : Addr} {xs : List V} {ds : List PyData} : SqT K H a xs → Rps K H xs ds → Rp K H (.ref a) (.tuple ds)
  | emp {a : Addr} : H a = some (.dK []) → Rp K H (.ref a) (.dict [])
inductive Rps (K : PySem.W.Frag) (H : Hp) : List V → List PyData → Prop
  | nil : Rps K H [] []
  | cons {v : V} {vs : List V} {d : PyData} {ds : List PyData} : Rp K H v d → Rps K H vs ds → Rps K H (v :: vs) (d :: ds)
end
section
variable {X : Cx} {pins : List (Addr × Obj)} {σ : L2.St} {H : Hp} {s : Shared}
mutual
theorem Rp.reads (I : Inv X pins σ H s) (hS : ∃ mm, X.base.Ns sysModules mm) : ∀ (d : PyData) (v : V) (u : Value), Rp X.K H v d → RelV v u → ∃ as, sysModules ∉ as ∧ Reads s.heap u d as
  | .none, _, _, h, r => by cases h; cases r; exact ⟨_, by simp, Reads.none⟩
  | .bool b, _, _, h, r => by cases h; cases r; exact ⟨_, by simp, Reads.bool b⟩
  | .int i, _, _, h, r => by cases h; obtain ⟨t, rfl⟩ := r; exact ⟨_, by simp, Reads.int i t⟩
  | .str x, _, _, h, r => by cases h; obtain ⟨t, rfl⟩ := r; exact ⟨_, by simp, Reads.str x t⟩
  | .list ds, _, _, h, r => by
    cases h with
    | lst hs ha =>
      cases r
      obtain ⟨its, rv, ⟨o, n, ho, hc, _, hd⟩, _⟩ := I.list (SqL.of hs)
      obtain ⟨as, hn, hr⟩ := Rps.reads I hS ds _ its ha rv
      refine ⟨_, ?_, Reads.list ho hc hd hr⟩
      intro hm
      rcases List.mem_cons.mp hm with e | hm
      · obtain ⟨mm, o2, es, ep, ho2, hd2, _⟩ := hS
        have q := I.bk _ _ ho2
        rw [e, ho] at q
        cases q
        rw [hd] at hd2
        cases hd2
      · exact hn hm
  | .tuple ds, _, _, h, r => by
    cases h with
    | tup hs ha =>
      cases r
      obtain ⟨its, rv, ⟨o, ho, hc, n, hd⟩, _⟩ := I.tuple hs
      obtain ⟨as, hn, hr⟩ := Rps.reads I hS ds _ its ha rv
      exact ⟨_, hn, Reads.tuple ho hc hd hr⟩
  | .dict _, _, _, h, r => by
    cases h with
    | emp he =>
      cases r
      obtain ⟨_, hsm, vs, hkv, o, es, ep, h1, h2, h3, h4, h5, h6⟩ := (I.hok _ _ he : ObjOk X.prog X.w H s.heap _ (.dK []))
      cases hkv
      have e0 : es.toList = [] := by
        generalize es.toList = l at h5
        cases h5
        rfl
      refine ⟨_, ?_, Reads.dict h1 h2.1 h3 (by rw [e0]; exact ReadsAll.nil) (by rw [e0]; exact ReadsAll.nil)⟩
      simpa using fun z => (beq_eq_false_iff_ne.mp hsm) z.symm
theorem Rps.reads (I : Inv X pins σ H s) (hS : ∃ mm, X.base.Ns sysModules mm) : ∀ (ds : List PyData) (vs : List V) (us : List Value), Rps X.K H vs ds → Vals vs us → ∃ as, sysModules ∉ as ∧ ReadsAll s.heap us ds as
  | [], _, _, h, r => by cases h; cases r; exact ⟨_, by simp, ReadsAll.nil⟩
  | d :: ds, _, _, h, r => by
    cases h with
    | cons h1 h2 =>
      cases r with
      | cons r1 r2 =>
        obtain ⟨as, n1, q1⟩ := Rp.reads I hS d _ _ h1 r1
        obtain ⟨bs, n2, q2⟩ := Rps.reads I hS ds _ _ h2 r2
        exact ⟨_, by simp [n1, n2], ReadsAll.cons q1 q2⟩
end

/-! ### telling, comparing -/
variable {K : PySem.W.Frag}
theorem tells_of (I : Inv X pins σ H s) (hS : ∃ mm, X.base.Ns sysModules mm) {k : Nat} {d : PyData} {v : V} {u : Value} (hd : Good k d) (hk : k ≤ 60) (hw : wt d ≤ 1600) (h : Rp X.K H v d) (r : RelV v u) :
    CRx.Tells X.prog X.w s.heap u := by
  intro A E s' Q hg hu hk0 hQ
  obtain ⟨t1, t2, t3⟩ := hd.tells
  have hlen : d.shown.length ≤ 1000000 := by omega
  have big : 1000000 ≤ sizeLine := by decide
  obtain ⟨as, hn, hr⟩ := Rp.reads I hS d v u h r
  have viaRef : ∀ a, u = .ref a → wpAny (model X.prog X.w) A (pyReprObj u) Q E s' := fun a e => by
    subst e
    exact pyReprObj_of_reads hr t1 (fun _ => hn) hg (by omega) hk0 (fun h' z tk kk => hQ h' _ z tk kk hlen) (by omega)
  cases h with
  | non => cases r; exact pyReprObj_none (hQ s'.heap _ _ _ (fun _ _ e => e) hlen)
  | bl b => cases r; exact pyReprObj_bool (hQ s'.heap _ _ _ (fun _ _ e => e) (by cases b <;> exact hlen))
  | int i =>
    obtain ⟨t, rfl⟩ := r
    exact pyReprObj_int (of_decide_eq_true t1) (hQ s'.heap _ _ _ (fun _ _ e => e) hlen)
  | str x =>
    obtain ⟨t, rfl⟩ := r
    exact pyReprObj_str (hQ s'.heap _ _ _ (fun _ _ e => e) hlen) (Nat.le_trans hlen big)
  | lst _ _ => exact viaRef _ r
  | tup _ _ => exact viaRef _ r
  | emp _ => exact viaRef _ r

theorem all_yes (n : Nat) : ((List.range n).all fun _ => true) = true := List.all_eq_true.mpr fun _ _ => rfl
theorem tree_int {A : Around} {i : Int} {t t' : Tok} : PySem.SeqAt.EqAt A s (.int i t) (.int i t') true := fun prog w E Q h => wpAny_eqBool_int (by simpa using h)
theorem tree_str {A : Around} {x : Str} {t t' : Tok} : PySem.SeqAt.EqAt A s (.str x t) (.str x t') true := fun prog w E Q h => wpAny_eqBool_str (by simpa using h)
mutual
theorem same_tree (I : Inv X pins σ H s) : ∀ (k : Nat) (d : PyData) (v v' : V) (u u' : Value), Good k d → Rp X.K H v d → Rp X.K H v' d → RelV v u → RelV v' u' → EqTree X.prog X.w s (k + 1) u u' true
  | _, .none, _, _, _, _, _, h, h', r, r' => by cases h; cases h'; cases r; cases r'; exact .same
  | _, .bool _, _, _, _, _, _, h, h', r, r' => by cases h; cases h'; cases r; cases r'; exact .same
  | _, .int i, _, _, _, _, _, h, h', r, r' => by cases h; cases h'; obtain ⟨t, rfl⟩ := r; obtain ⟨t', rfl⟩ := r'; exact .leaf fun A _ => tree_int
  | _, .str x, _, _, _, _, _, h, h', r, r' => by cases h; cases h'; obtain ⟨t, rfl⟩ := r; obtain ⟨t', rfl⟩ := r'; exact .leaf fun A _ => tree_str
  | k + 1, .list ds, _, _, _, _, g, h, h', r, r' => by
    cases h with
    | @lst a xs _ hs ha =>
    cases h' with
    | @lst a' xs' _ hs' ha' =>
      cases r; cases r'
      obtain ⟨its, rv, ⟨o, n, ho, hc, _, hd⟩, _⟩ := I.list (SqL.of hs)
      obtain ⟨its', rv', ⟨o', n', ho', hc', _, hd'⟩, _⟩ := I.list (SqL.of hs')
      by_cases e : a = a'
      · subst e; exact .same
      · obtain ⟨l1, l2⟩ := same_trees I k ds xs xs' its its' g ha ha' rv rv'
        have q := EqTree.lists (prog := X.prog) (w := X.w) (n := k + 1) (e := fun _ => true) e ⟨o, ho, hc, n, hd⟩ ⟨o', ho', hc', n', hd'⟩ (by simpa using l1) (fun j h1 h2 => by simpa using l2 j (by simpa using h1) (by simpa using h2))
        rw [all_yes] at q
        exact q
  | k + 1, .tuple ds, _, _, _, _, g, h, h', r, r' => by
    cases h with
    | @tup a xs _ hs ha =>
    cases h' with
    | @tup a' xs' _ hs' ha' =>
      cases r; cases r'
      obtain ⟨its, rv, ⟨o, ho, hc, n, hd⟩, _⟩ := I.tuple hs
      obtain ⟨its', rv', ⟨o', ho', hc', n', hd'⟩, _⟩ := I.tuple hs'
      by_cases e : a = a'
      · subst e; exact .same
      · obtain ⟨l1, l2⟩ := same_trees I k ds xs xs' its its' g ha ha' rv rv'
        have q := EqTree.tuples (prog := X.prog) (w := X.w) (n := k + 1) (e := fun _ => true) e ⟨o, ho, hc, n, hd⟩ ⟨o', ho', hc', n', hd'⟩ (fun j h1 h2 => by simpa using l2 j (by simpa using h1) (by simpa using h2))
        rw [all_yes, Bool.true_and] at q
        have z : ((its.toArray.size == its'.toArray.size) : Bool) = true := by simpa using l1
        rw [z] at q
        exact q
  | 0, .list _, _, _, _, _, g, _, _, _, _ => by cases g
  | 0, .tuple _, _, _, _, _, g, _, _, _, _ => by cases g
  | k, .dict _, _, _, _, _, _, h, h', r, r' => by
    cases h with
    | @emp a he =>
    cases h' with
    | @emp a' he' =>
      cases r; cases r'
      by_cases e : a = a'
      · subst e; exact .same
      · obtain ⟨_, hsm, vs, hkv, hdo⟩ := (I.hok _ _ he : ObjOk X.prog X.w H s.heap _ (.dK []))
        obtain ⟨_, hsm', vs', hkv', hdo'⟩ := (I.hok _ _ he' : ObjOk X.prog X.w H s.heap _ (.dK []))
        cases hkv; cases hkv'
        have q := EqTree.dicts (prog := X.prog) (w := X.w) (s := s) (n := k) (e := fun _ => true) e hsm hsm' hdo hdo' (fun k v y hm => by cases hm)
        simpa using q
theorem same_trees (I : Inv X pins σ H s) : ∀ (k : Nat) (ds : List PyData) (vs vs' : List V) (us us' : List Value), GoodAll k ds → Rps X.K H vs ds → Rps X.K H vs' ds → Vals vs us → Vals vs' us' →
    us.length = us'.length ∧ ∀ j (h1 : j < us.length) (h2 : j < us'.length), EqTree X.prog X.w s (k + 1) us[j] us'[j] true
  | _, [], _, _, _, _, _, h, h', r, r' => by cases h; cases h'; cases r; cases r'; exact ⟨rfl, fun j h1 => absurd h1 (Nat.not_lt_zero _)⟩
  | k, d :: ds, _, _, _, _, g, h, h', r, r' => by
    cases h with
    | cons h1 h2 =>
    cases h' with
    | cons h1' h2' =>
    cases r with
    | cons r1 r2 =>
    cases r' with
    | cons r1' r2' =>
      have a := same_tree I k d _ _ _ _ g.1 h1 h1' r1 r1'
      obtain ⟨b, c⟩ := same_trees I k ds _ _ _ _ g.2 h2 h2' r2 r2'
      refine ⟨by simp [b], fun j q1 q2 => ?_⟩
      cases j with
      | zero => exact a
      | succ j => exact c j (Nat.lt_of_succ_lt_succ q1) (Nat.lt_of_succ_lt_succ q2)
end
end
end CR

namespace CR
open PySem PySem.Spec PySem.W PyProof.Rows L2

/-- all that is known of an error of the package: its class at C, its maker at f -/
structure Err (P : Program) (K : Frag) (mg : Str → Option Value) (x fld : Str) (C : Addr) : Prop where
  gC : mg x = some (.ref C)
  kC : keepIn K (.ref C) = true
  exC : subIn K (.ref C) (.type "BaseException") = some true
  tyC : typeIn K (.ref C) = some (.type "type")
  hdC : hasDictIn K C = true
  ga : findIn K (.ref C) "__getattribute__" = some (some (.builtin "BaseException.__getattribute__"))
  gg : findIn K (.ref C) "__getattr__" = some none
  te : exmOne K (.ref C) (.ref C) = some true
  nof : findIn K (.ref C) fld = some none
  make : ∀ {w : World} {A : Around} {R : Result → Shared → Prop} {s : Shared} {mb : Str → Option Value} {v : Value} {args : Args}, K.In s.heap → s.heap.NoLimit → s.heap.Ns mainGlobals mg → s.heap.Ns builtinsNs mb →
    (∀ x : Str, x ≠ "__name__" → mb x = bootBuiltins x) → A.depth + 2 < recursionLimit → A.units + 101 < cLine → A.guards = some [] → args = ⟨[v], []⟩ → CRx.Tells P w s.heap v →
    (∀ h' tk e d t1, s.heap.objs.size ≤ e → s.heap.objs.size ≤ d → d ≠ e → (∀ b o, s.heap.get? b = some o → h'.get? b = some o) →
      h'.get? e = some { cls := .ref C, dict := some d, data := .fields #[.ref t1, .none, .none, .none, .bool false, .none] } → h'.Ns1 d (fun y => if y = fld then some v else none) →
      R (.ok (.ret (.ref e))) { s with heap := h', toks := tk }) →
    codeAny (model P w) A (.call (.ref C) args) R s
theorem guards_make {A : Around} {C : Addr} {us : List Value} {kw : List (Str × Value)} : (A.under (.builtin "type.__call__" ⟨.ref C :: us, kw⟩)).guards = A.guards := by
  have e : (Code.builtin "type.__call__" ⟨.ref C :: us, kw⟩).guards = [] := by
    unfold Code.guards
    rw [if_neg]
    show ¬ (guardIds.contains "type.__call__" = true)
    decide +kernel
  show pushGuards (Code.builtin "type.__call__" ⟨.ref C :: us, kw⟩).guards A.guards = A.guards
  rw [e]
  rfl
theorem _root_.CRx.Tells.mono {P : Program} {w : World} {h h' : Heap} {v : Value} (t : CRx.Tells P w h v) (k : ∀ b o, h.get? b = some o → h'.get? b = some o) : CRx.Tells P w h' v :=
  fun A E s Q hg hu hk hQ => t A E s Q hg hu (fun b o e => hk b o (k b o e)) hQ

section
variable {P : Program} {K : Frag} {mg : Str → Option Value}
variable {nm q : Str} {C N D fI : Addr} {bs bm : List Value} {sn : List Str} {sub : List Value} {ab : Bool} {col : Option Bool} {dd : Option Addr} {k0 k1 k2 k3 k5 : Option Value}
variable {x fld name qual msg : Str} {params : Arguments} {body : List Stmt} {scope : Scope} {kV doc pm ct oc : Value} {an od : Option Addr} {osl : Array (Option Value)} {f cda cc : Addr}
theorem Err.of
    (gC : mg x = some (.ref C)) (hsup : mg "super" = none)
    (kC : keepIn K (.ref C) = true) (exC : subIn K (.ref C) (.type "BaseException") = some true) (tyC : typeIn K (.ref C) = some (.type "type")) (hdC : hasDictIn K C = true)
    (ga : findIn K (.ref C) "__getattribute__" = some (some (.builtin "BaseException.__getattribute__"))) (gg : findIn K (.ref C) "__getattr__" = some none)
    (te : exmOne K (.ref C) (.ref C) = some true) (hfn : findIn K (.ref C) fld = some none)
    (hsa : findIn K (.ref C) "__setattr__" = some (some (.builtin "object.__setattr__")))
    (iC : findIn K (.ref C) "__init__" = some (some (.ref fI))) (tF : typeIn K (.ref fI) = some (.type "function"))
    (hC : K.lookup C = some (excClassObj nm q C N bs bm true sn sub ab col dd k0 k1 k2 k3 k5 "ValueError.__new__")) (hbm : HandSPX.refsVE bm = true)
    (hal : alongIn K "__init__" bm = some (some (.builtin "ValueError.__init__")))
    (lf : K.lookup fI = some ⟨oc, od, .func (ksFn name qual params body scope .none kV doc pm an (.ref cda) ct cc), osl⟩)
    (hcd : codeIn K (.ref cda) qual = true)
    {ccl : Value} {cdd : Option Addr} {vs : Array Value} {ccs : Array (Option Value)} {file : Str} {tf : Tok} {cl : Value} {cld : Option Addr} {csl : Array (Option Value)}
    (hcode : K.lookup cda = some ⟨ccl, cdd, .fields vs, ccs⟩) (hvs : vs[2]? = some (.str file tf)) (hfile : ((P.main.file : Str) == file) = true)
    (hcell : K.lookup cc = some ⟨cl, cld, .cell (some (.ref C)), csl⟩)
    (hopq : nsIn K cStatics "thirdparty.any" = some none)
    (hp : params.posonlyargs = []) (hp2 : (params.args.head?).map (·.arg) = some "self")
    (hbody : ∃ a1 a2 a3 a4 a5 a6 a7 a9 b1 b2 b3 b4 e1 e2 e3 j, body = CRx.mkBody msg fld a1 a2 a3 a4 a5 a6 a7 a9 b1 b2 b3 b4 e1 e2 e3 j)
    (hk : scope.kind = .function) (hco : scope.isCoroutine = false) (hgen : scope.isGenerator = false) (hnc : ∀ x ∈ scope.names, x.2 ≠ .cell)
    (hs1 : scope.names.lookup ("super" : Str) = some .globalImplicit) (hs2 : scope.names.lookup ("__class__" : Str) = some .free)
    (hs3 : scope.names.lookup ("self" : Str) = some .local) (hs4 : scope.names.lookup fld = some .local)
    (hpd : (fld == ("__debug__" : Str)) = false) (hps : ("self" : Str) ≠ fld)
    (hbind : ∀ (s : Shared) (self v : Value), BindsTo s (ksFn name qual params body scope .none kV doc pm an (.ref cda) ct cc) ⟨[self, v], []⟩ [("self", self), (fld, v)])
    (htop : (P.main.scope.names.lookup ("super" : Str)).isSome = false) (hmsg : msg.length ≤ 1000) : Err P K mg x fld C := by
  refine ⟨gC, kC, exC, tyC, hdC, ga, gg, te, hfn, ?_⟩
  intro w A R s mb v args X hlim hgl hbl hbo hdp hun hgd ea hv hq
  subst ea
  obtain ⟨hp', g, dr, tk, os⟩ := s
  have kk : ∀ b o, hp'.get? b = some o → ((hp'.push (kdv_tup [v])).push (HandSPX.excO C hp'.objs.size)).get? b = some o := fun b o e => Heap.get?_push_of_some _ (Heap.get?_push_of_some _ e)
  have hget : ((hp'.push (kdv_tup [v])).push (HandSPX.excO C hp'.objs.size)).get? (hp'.objs.size + 1) = some (HandSPX.excO C hp'.objs.size) := by heap_get
  have hnx : K.lookup (hp'.objs.size + 1) = none := by
    cases e : K.lookup (hp'.objs.size + 1) with
    | none => rfl
    | some o =>
      have z := Heap.lt_size (X _ _ e)
      exact absurd (Nat.lt_of_succ_lt z) (Nat.lt_irrefl _)
  refine HandSPX.call_own F.excBase_ValueError (fun T => HandSPX.refsVE_contains T bm hbm) (X _ _ hC) (looks_findIn X iC) (fun self => bind_fn X self tF) (by show 1 ≤ sizeLine; decide) ?_
  refine CRx.maker (s := ⟨(hp'.push (kdv_tup [v])).push (HandSPX.excO C hp'.objs.size), g, dr, tk, os⟩) (X.keeps kk) (hlim.keeps kk) (hgl.keeps kk) (hbl.keeps kk) hbo hsup ?_ ?_ (guards_make.trans hgd) lf hcd hp hp2 hbody hk hco hgen hnc hs1 hs2 hs3 hs4 hpd hps (hbind _) hC hbm ⟨_, _, _, _, _, _, hcode, hvs, hfile⟩ ⟨_, _, _, hcell⟩ htop hopq hal hsa hfn hmsg hget hnx (hv.mono kk) (fun h' tk' dx t1 M => ?_)
  · rw [make_depth]; omega
  · rw [make_units]; omega
  · have z1 : ((hp'.push (kdv_tup [v])).push (HandSPX.excO C hp'.objs.size)).objs.size ≤ dx := M.above
    rw [Heap.size_push, Heap.size_push] at z1
    exact ⟨rfl, hq h' tk' (hp'.objs.size + 1) dx t1 (Nat.le_succ _) (by show hp'.objs.size ≤ dx; omega) M.apart (fun b o e => M.keep b o (Nat.ne_of_lt (Nat.lt_succ_of_lt (Heap.lt_size e))) (kk b o e)) M.obj M.map⟩
end
/-! ### raise X(e); n.f in a suite -/
theorem rel_one {fld : Str} {v : V} {u : Value} (r : RelV v u) (f : Str) : RelO (List.lookup f [(fld, v)]) (if f = fld then some u else none) := by
  by_cases hw : f = fld
  · subst hw
    have q : List.lookup f [(f, v)] = some v := by simp [List.lookup]
    rw [if_pos rfl, q]
    exact r
  · have qw : (f == fld) = false := by simpa using hw
    have q : List.lookup f [(fld, v)] = none := by simp [List.lookup, qw]
    rw [if_neg hw, q]
    trivial
/-- data that may be told by an error -/
def Tel (K : Frag) (H : Hp) (v : V) : Prop := ∃ k d, Rp K H v d ∧ Good k d ∧ k ≤ 60 ∧ wt d ≤ 1600
section
variable {X : Cx} {C : Addr} {x fld : Str}
def tMkErr (K : Frag) (C : Addr) (fld : Str) (ta : TA) : L2.St → Hp → XK → Prop := fun σ H Q =>
  ta σ H fun vs H1 => ∃ v, vs = [v] ∧ Tel K H1 v ∧ ∀ dx, H1 dx = none → Q (.ref C) (some dx) (upd H1 dx (.xd [(fld, v)]))
theorem pmk_err {a : Expr} {ta : TA} {p pos : Pos} {k : Nat} (T : Err X.prog X.K X.mg x fld C) (hS : ∃ mm, X.base.Ns sysModules mm) (hG : X.A.guards = some []) (hr : Room k X.A) (ha : PA X [a] ta) (hg : Gl X x := by rfl)
    (hdb : (x == ("__debug__" : Str)) = false := by decide)
    (he : starEach (a :: []) X.env = (false, eval a X.env) :: starEach [] X.env := by rfl) (hpl : (backTo pos (starEach [] X.env)).any (·.1) = false := by rfl) :
    PMk X (.Call (.Name x p) [a] [] pos) (tMkErr X.K C fld ta) := by
  intro pins s σ H Q I h
  refine wpAny_Call_Name_kw (ld_glob I hg T.gC ?_ hdb)
  refine callWith_K (h₀ := X.base) I.ok.mod.kin T.kC (thn (ha.run pos pins s σ H _ I h) fun us s1 hh => ?_) he hpl
  obtain ⟨vs, H1, I1, r1, v, ev, ⟨kd, d, hrp, hgd, hk60, hw⟩, q1⟩ := hh
  subst ev
  refine ⟨I1.kIn, ?_⟩
  cases r1 with
  | cons rv rn =>
    rename_i v' us'
    cases rn
    show wpAny _ _ (call (.ref C) [v']) _ _ _
    have tl := tells_of I1 hS hgd hk60 hw hrp rv
    obtain ⟨mb, hb1, hb2⟩ := I1.ok.mod.blt
    have d1 := hr.dp
    have d2 := hr.un
    obtain ⟨hp, g, dr, tk, os⟩ := s1
    refine wpAny_call (T.make (w := X.w) (s := ⟨hp, g, dr, tk, os⟩) I1.kIn I1.nolimit (I1.ok.mod.glob.keeps I1.bk) (hb1.keeps I1.bk) hb2 (by omega) (by omega) hG rfl tl fun h' tk' e dx t1 he1 hd1 hne kp ho hns => ?_)
    show MkP X pins σ Q (.ref e) ⟨h', g, dr, tk', os⟩
    obtain ⟨G', g1, g2⟩ := restrict h' fun b => decide (b ≠ e)
    have gk : ∀ b, b ≠ e → G'.get? b = h'.get? b := fun b hb => g1 b (decide_eq_true hb)
    have ge : G'.get? e = none := g2 e (by simp)
    have old : ∀ b o, hp.get? b = some o → G'.get? b = some o := fun b o q => (gk b (Nat.ne_of_lt (Nat.lt_of_lt_of_le (Heap.lt_size q) he1))).trans (kp b o q)
    have ob : ObjOk X.prog X.w (upd H1 dx (.xd [(fld, v)])) G' dx (.xd [(fld, v)]) := ⟨_, hns.at (fun o q => (gk dx hne).trans q), fun f => rel_one rv f⟩
    have J : Inv X pins σ (upd H1 dx (.xd [(fld, v)])) ⟨G', g, dr, tk', os⟩ := I1.laid (t' := tk') old hd1 ob
    refine ⟨e, _, _, ⟨G', g, dr, tk', os⟩, _, .ref C, some dx, rfl, J, fun b o q => ?_, ge, ho, ⟨rfl, rfl⟩, rfl, rfl, ?_, rfl, I1.bare, raises_own T.exC T.tyC, q1 dx (I1.hok.fresh hd1)⟩
    · by_cases hb : b = e
      · have q' : G'.get? b = some o := q
        rw [hb, ge] at q'
        cases q'
      · exact (gk b hb).symm.trans q
    · rw [upd_ne (Ne.symm hne)]
      exact I1.hok.fresh he1
/-- raise X(e) -/
theorem ps_err {a : Expr} {ta : TA} {W : WX} {p pos pos2 : Pos} {k : Nat} (hc : X.calm = true) (T : Err X.prog X.K X.mg x fld C) (hS : ∃ mm, X.base.Ns sysModules mm) (hG : X.A.guards = some []) (hr : Room k X.A) (tk : Takes X W) (ha : PA X [a] ta) (hg : Gl X x := by rfl)
    (hdb : (x == ("__debug__" : Str)) = false := by decide)
    (he : starEach (a :: []) X.env = (false, eval a X.env) :: starEach [] X.env := by rfl) (hpl : (backTo pos (starEach [] X.env)).any (·.1) = false := by rfl) :
    PS X (.Raise (some (.Call (.Name x p) [a] [] pos)) none pos2) (fun _ σ H => tMkErr X.K C fld ta σ H fun cls d H' => W cls d σ H') := ps_raise hc tk (pmk_err T hS hG hr ha hg hdb he hpl)

/-- n.f, n the error that the suite holds -/
def tOfErr (C : Addr) (fld : Str) (a : Addr) (cls : Value) (d : Option Addr) (te : TE) : TE := fun σ H Q =>
  te σ H fun x H1 => x = .ref a ∧ cls = .ref C ∧ ∃ (dd : Addr) (v : V), d = some dd ∧ H1 dd = some (.xd [(fld, v)]) ∧ Q v H1
theorem pe_ofErr {a : Addr} {oe : Obj} {cls : Value} {d : Option Addr} {pn : List (Addr × Obj)} {e : Expr} {te : TE} {pos : Pos} (T : Err X.prog X.K X.mg x fld C) (hz : Zc cls d oe) (hf : ∃ vs, oe.data = .fields vs) (he : PE (X.suite a ((a, oe) :: pn)) e te)
    (hb : attributeBase e fld X.env (eval e X.env) = eval e X.env := by rfl) : PE (X.suite a ((a, oe) :: pn)) (.Attribute e fld pos) (tOfErr C fld a cls d te) := by
  refine ⟨fun pins s σ H Q I h => ?_⟩
  refine attr_of hb (thn (he.run pins s σ H _ I h) fun u s1 hh => ?_)
  obtain ⟨x0, H1, I1, rx, ex, ec, dd, v, ed, ea, q⟩ := hh
  subst ex
  obtain rfl : u = Value.ref a := rx
  subst ec
  subst ed
  obtain ⟨ha, _⟩ := I1.pin (a, oe) (List.mem_append_left _ List.mem_cons_self)
  obtain ⟨vs, hd⟩ := hf
  obtain ⟨mA, hns, hr⟩ := (I1.hok dd _ ea : ObjOk X.prog X.w H1 s1.heap dd (.xd [(fld, v)]))
  obtain ⟨od, ho, hl⟩ := lookIn_ns hns
  have l : List.lookup fld [(fld, v)] = some v := by simp [List.lookup]
  obtain ⟨u, hu, ru⟩ := RelO.some_of (v := v) (o := mA fld) (by rw [← l]; exact hr fld)
  have J : InstAt s1.heap a oe C (some od) := ⟨ha, hz.1, by unfold notCls; rw [hd] <;> rfl, by rw [hz.2]; exact ho⟩
  exact HandSPX.exc_get I1.kIn J T.ga T.gg T.exC (findObj_own T.hdC T.nof rfl (by rw [hl, hu])) (handed_of ru) ⟨v, H1, I1.tok _, ru, q⟩
end
end CR

namespace CR
open PySem PySem.Spec PySem.W PyProof.Rows L2

/-! ### what a def promises where no repr is under way -/
structure FnG (P : Program) (w : World) (K : Frag) (mg : Str → Option Value) (base : Heap) (k : Nat) (f : Addr) (fd : FuncData) (ps : List Str) (sp : Sp) : Prop where
  len : ∀ vs H Q E, sp vs H Q E → vs.length = ps.length
  run : ∀ (A : Around) (outer : List Env) (s : Shared) (H : Hp) (args : Args) (us : List Value) (vs : List V) (Q : VK) (E : XK), A.guards = some [] → Room k A →
    Env0 P w K mg base A outer s H → BindsTo s fd args (ps.zip us) → Vals vs us → sp vs H Q E → codeAny (model P w) A (.call (.ref f) args) (CR (L2.CX P w) outer P w H s Q E) s
section
variable {P : Program} {w : World} {K : Frag} {mg : Str → Option Value} {base : Heap} {k : Nat} {f : Addr} {fd : FuncData} {N ps : List Str} {sp : Sp}
theorem FnG.mono {j : Nat} (F : FnG P w K mg base j f fd ps sp) (h : j ≤ k) : FnG P w K mg base k f fd ps sp :=
  ⟨F.len, fun A outer s H args us vs Q E hg hr => F.run A outer s H args us vs Q E hg (hr.mono h)⟩
/-- the context of the body of the def that stands at f -/
abbrev bodyCx (P : Program) (w : World) (K : Frag) (mg : Str → Option Value) (base : Heap) (N : List Str) (qual : Str) (st : Stmt) (f : Addr) (cdv : Value) (A : Around) (outer : List Env) (s : Shared) (H : Hp) (E : XK) : Cx :=
  cxOf (L2.CX P w) P w K mg base N qual (defScope st) f cdv A outer s H E
theorem okG {x qual : Str} {st : Stmt} (F : Fun K x qual st f fd) (S : FnScope N ps (defScope st)) (len : ∀ vs H Q E, sp vs H Q E → vs.length = ps.length)
    (hbody : ∀ (cdv : Value) (A : Around) (outer : List Env) (s : Shared) (H : Hp) (vs : List V) (Q : VK) (E : XK), fd.code = cdv → Room k (bodyCx P w K mg base N qual st f cdv A outer s H E).A → (bodyCx P w K mg base N qual st f cdv A outer s H E).A.guards = some [] →
      Takes (bodyCx P w K mg base N qual st f cdv A outer s H E) (fun cls d _ H => E cls d H) → sp vs H Q E →
      ∃ t, PSs (bodyCx P w K mg base N qual st f cdv A outer s H E) (defBody st) t ∧ t { nx := fun _ H' => Q .non H', rt := Q } (start N vs) H) : FnG P w K mg base (k + 1) f fd ps sp := by
  obtain ⟨oc, od, kV, doc, pm, an, cdv, ct, osl, rfl, lk, hcd⟩ := F.ex
  constructor
  · exact len
  intro A outer s H args us vs Q E hg hr e0 hb r hsp
  have bk := fun b o (e : base.get? b = some o) => (e0.bs b o e).1
  have KX : K.In s.heap := e0.mod.kin.keeps bk
  have kinds : ∀ y ∈ ps.zip us, (defScope st).names.lookup y.1 = some .local ∨ ((defScope st).names.lookup y.1 = some .cell ∧ ((cellsFrom (s.heap.objs.size + 1) (defScope st).names []).lookup y.1).isSome = true) := by
    rintro ⟨n, v⟩ hy
    rcases S.par n (List.of_mem_zip hy).1 with q | q
    · exact Or.inl q
    · exact Or.inr ⟨q, cellsFrom_some _ _ _ (Or.inl q)⟩
  refine codeAny_call_function hr.depth (KX _ _ lk) rfl S.co S.gen rfl (codeRec_of KX hcd) (hb _ _ _ _ (wpAny_newFunctionEnv_cells S.kind kinds fun env he s1 hx => ?_))
  subst he
  refine ⟨(e0.mod.nolimit.keeps bk).keeps hx.toInCall.keep, codeAny_func ?_⟩
  obtain ⟨t, ht, hq⟩ := hbody cdv A outer s H vs Q E rfl (hr.deeper _) hg (takes_of rfl rfl rfl rfl) hsp
  have I := inv_start (CX := L2.CX P w) (E := E) (qual := qual) (f := f) (cd := cdv) S hr.hd e0 (len _ _ _ _ hsp) r hx
  refine wpAny_mono (ht.run [] s1 (start N vs) H _ I hq) (fun fl s' hs => ?_) fun e s' hs => hs
  cases fl with
  | ret u =>
    obtain ⟨v, σ', H', J, rv, q⟩ := hs
    exact ⟨v, H', J.os, J.bare, J.base, J.hok, rv, q⟩
  | next =>
    obtain ⟨σ', H', J, q⟩ := hs
    exact ⟨V.non, H', J.os, J.bare, J.base, J.hok, rfl, q⟩
  | brk =>
    obtain ⟨_, _, _, q⟩ := hs
    exact q.elim
  | cont =>
    obtain ⟨_, _, _, q⟩ := hs
    exact q.elim
end

/-! ### calls -/
section
variable {X : Cx} {k : Nat} {f : Addr} {fd : FuncData} {ps ks : List Str} {sp : Sp} {W : WX} {x : Str} {p pos : Pos} {e : Expr} {es : List Expr} {t tk : TA} {kws : List Keyword} {g : List Value → List Value → List Value} {gV : List V → List V → List V}
theorem afterG {pins : List (Addr × Obj)} {σ : L2.St} {H : Hp} {s : Shared} {Q : VK} {args : Args} {us : List Value} {vs : List V} (F : FnG X.prog X.w X.K X.mg X.base k f fd ps sp) (hg : X.A.guards = some []) (hr : Room k X.A) (tk : Takes X W)
    (I : Inv X pins σ H s) (r : Vals vs us) (hb : us.length = ps.length → BindsTo s fd args (ps.zip us)) (h : sp vs H Q (fun cls d H' => W cls d σ H')) : codeAny (model X.prog X.w) X.A (.call (.ref f) args) (fun r s' => match r with | .ok (.ret u) => EP X pins σ Q u s' | .ok _ => False | .error e => X.xe e s') s := by
  have hl : us.length = ps.length := by rw [← r.length]; exact F.len _ _ _ _ h
  refine codeAny_mono (F.run X.A X.stack s H args us vs Q _ hg hr I.env0 (hb hl) r h) fun r s' hq => ?_
  cases r with
  | error e => exact tk e s' (XE.of_call I (fun cls d H' h => h) hq)
  | ok fl =>
    cases fl with
    | ret u => exact I.after hq
    | next => exact False.elim hq
    | brk => exact False.elim hq
    | cont => exact False.elim hq
/-- f(e, ..): what is raised is wished for at the slots -/
def tCallG (sp : Sp) (W : WX) (t : TA) : TE := fun σ H Q => t σ H fun vs H1 => sp vs H1 Q (fun cls d H' => W cls d σ H')
def tCallGK (sp : Sp) (gV : List V → List V → List V) (W : WX) (t tk : TA) : TE := fun σ H Q => t σ H fun vs H1 => tk σ H1 fun zs H2 => sp (gV vs zs) H2 Q (fun cls d H' => W cls d σ H')
theorem pe_callG (F : FnG X.prog X.w X.K X.mg X.base k f fd ps sp) (hG : X.A.guards = some []) (hr : Room k X.A) (tk : Takes X W) (hm : X.mg x = some (.ref f)) (hk : keepIn X.K (.ref f) = true) (hb : Binds X.K fd ps [])
    (ha : PA X (e :: es) t) (hg : Gl X x := by rfl) (hdb : (x == ("__debug__" : Str)) = false := by decide) (he : starEach (e :: es) X.env = (false, eval e X.env) :: starEach es X.env := by rfl) (hpl : (backTo pos (starEach es X.env)).any (·.1) = false := by rfl) :
    PE X (.Call (.Name x p) (e :: es) [] pos) (tCallG sp W t) := by
  refine ⟨fun pins s σ H Q I h => ?_⟩
  refine wpAny_Call_Name_kw (ld_glob I hg hm ?_ hdb)
  refine callWith_K (h₀ := X.base) I.ok.mod.kin hk (thn (ha.run pos pins s σ H _ I h) fun us s1 ⟨vs, H1, I1, r, q⟩ => ⟨I1.kIn, ?_⟩) he hpl
  refine wpAny_call (codeAny_mono (afterG F hG hr tk I1 r (fun hl => ?_) q) fun r s' hq => ?_)
  · have z := hb s1 us I1.kIn (by rw [List.append_nil]; exact hl)
    rw [List.append_nil] at z
    exact z
  · cases r with
    | error e => exact hq
    | ok fl => cases fl <;> exact hq
theorem pe_callG0 (F : FnG X.prog X.w X.K X.mg X.base k f fd ps sp) (hG : X.A.guards = some []) (hr : Room k X.A) (tk : Takes X W) (hm : X.mg x = some (.ref f)) (hk : keepIn X.K (.ref f) = true) (hb : Binds X.K fd ps [])
    (hg : Gl X x := by rfl) (hdb : (x == ("__debug__" : Str)) = false := by decide) : PE X (.Call (.Name x p) [] [] pos) (tCallG sp W tNil) := by
  refine ⟨fun pins s σ H Q I h => ?_⟩
  refine wpAny_Call_Name_kw (ld_glob I hg hm ?_ hdb)
  refine callWith_K0 I.kIn hk ?_
  refine wpAny_call (codeAny_mono (afterG F hG hr tk I (us := []) .nil (fun hl => ?_) h) fun r s' hq => ?_)
  · have z := hb s [] I.kIn (by rw [List.append_nil]; exact hl)
    rw [List.append_nil] at z
    exact z
  · cases r with
    | error e => exact hq
    | ok fl => cases fl <;> exact hq
end
end CR

namespace CR
open PySem PySem.Spec PySem.W PyProof.Rows L2 LamX

/-- what the law's entry tracks: the tables of code objects (ts), and the script where it is none of the module's own -/
def entryH (K : Frag) (ts : List Addr) (a : Addr) (o : Obj) (ns : List Int) : Hp := fun b =>
  if b ∈ ts then some (.tbl #[]) else if b = a ∧ K.lookup a = none then some (.frz o (.lst (ns.map V.int))) else none
section
variable {K : Frag} {ts : List Addr} {a b : Addr} {o u : Obj} {ns : List Int} {h : Heap}
theorem entry_tab (hb : b ∈ ts) : entryH K ts a o ns b = some (.tbl #[]) := if_pos hb
theorem entry_cases {z : HO} (e : entryH K ts a o ns b = some z) : (b ∈ ts ∧ z = .tbl #[]) ∨ (b ∉ ts ∧ b = a ∧ K.lookup a = none ∧ z = .frz o (.lst (ns.map V.int))) := by
  unfold entryH at e
  split at e
  · rename_i hb
    exact Or.inl ⟨hb, (Option.some.inj e).symm⟩
  · rename_i hb
    split at e
    · rename_i hc
      exact Or.inr ⟨hb, hc.1, hc.2, (Option.some.inj e).symm⟩
    · cases e
/-- what is neither a list nor a record is not tracked at the entry -/
theorem entry_free (hT : ∀ b ∈ ts, h.get? b = some { cls := .none, data := .fields #[] }) (ha : h.get? a = some o) (hu : h.get? b = some u) (n1 : u.data ≠ .fields #[]) (n2 : u.data ≠ o.data) : entryH K ts a o ns b = none := by
  cases e : entryH K ts a o ns b with
  | none => rfl
  | some z =>
    rcases entry_cases e with ⟨hb, _⟩ | ⟨_, hb, _, _⟩
    · rw [hT b hb] at hu
      cases hu
      exact absurd rfl n1
    · rw [hb, ha] at hu
      cases hu
      exact absurd rfl n2
end

theorem law_callG {P : Program} {w : World} {K : Frag} {mg mb : Str → Option Value} {k : Nat} {fa a : Addr} {cs : List (Addr × Addr)} {fd : FuncData} {x : Str} {sp : Sp} {s₁ : Shared} {vs : List Value} {ns : List Int}
    (KX : K.In s₁.heap) (hns : s₁.heap.Ns mainGlobals mg) (hb : s₁.heap.Ns builtinsNs mb) (hbb : ∀ x : Str, x ≠ "__name__" → mb x = bootBuiltins x) (hlim : s₁.heap.NoLimit) (hsys : ∃ mm, s₁.heap.Ns sysModules mm) (hg : s₁.gens = #[])
    (hT : ∀ p ∈ cs, s₁.heap.get? p.2 = some { cls := .none, data := .fields #[] }) (nT : ∀ p ∈ cs, K.lookup p.2 = none) (C : ∀ p ∈ cs, CodeHd s₁.heap p.1 p.2)
    (hbm : ∃ (bm : Addr) (ob : Obj), mg "__builtins__" = some (.ref bm) ∧ bm ≠ builtinsNs ∧ s₁.heap.get? bm = some ob ∧ ob.cls = .type "module" ∧ ob.dict = some builtinsNs ∧ ob.data = .plain)
    (ha : s₁.heap.get? a = some { cls := .type "list", data := .seq vs.toArray }) (hi : IntsAre vs ns) (hl : ns.length ≤ sizeLine) (hr : Room k callerA)
    (F : ∀ base : Heap, K.In base → base.Ns mainGlobals mg → (∃ mm, base.Ns sysModules mm) → (∀ p ∈ cs, TabB base mg p.1 p.2) → FnG P w K mg base k fa fd [x] sp) (hbind : ∀ (s : Shared) (u : Value), BindsTo s fd ⟨[u], []⟩ [(x, u)])
    (hsp : ∀ H : Hp, (∀ p ∈ cs, H p.2 = some (.tbl #[])) → SqL K H a (ns.map V.int) → sp [.ref a] H (fun v _ => v = .bl true) fun _ _ _ => False) :
    codeAny (model P w) callerA (.call (.ref fa) ⟨[.ref a], []⟩) (fun r s' => r = .ok (.ret (.bool true)) ∧ OldK s₁.heap s'.heap ∧ s'.os = s₁.os ∧ AllBare s'.gens) s₁ := by
  have rv := vals_ints hi
  have hT' : ∀ b ∈ cs.map (·.2), s₁.heap.get? b = some { cls := .none, data := .fields #[] } := fun b hb => by
    obtain ⟨p, hp, rfl⟩ := List.mem_map.mp hb
    exact hT p hp
  obtain ⟨H, hH⟩ : ∃ H, H = entryH K (cs.map (·.2)) a { cls := .type "list", data := .seq vs.toArray } ns := ⟨_, rfl⟩
  have aT : a ∉ cs.map (·.2) := fun z => by
    have q := hT' a z
    rw [ha] at q
    have z' := congrArg Obj.data (Option.some.inj q)
    cases z'
  have tab : ∀ p ∈ cs, H p.2 = some (.tbl #[]) := fun p hp => by rw [hH]; exact entry_tab (List.mem_map.mpr ⟨p, hp, rfl⟩)
  have keepB : ∀ {b : Addr} {u : Obj}, s₁.heap.get? b = some u → (u.data ≠ .fields #[]) → (∀ l n, u.data ≠ .seq l n) → (hidT s₁.heap H).get? b = some u := fun {b u} e n1 n2 =>
    hidT_get e (by rw [hH]; exact entry_free hT' ha e n1 (n2 _ _))
  have nsB : ∀ {b : Addr} {m : Str → Option Value}, s₁.heap.Ns b m → (hidT s₁.heap H).Ns b m := fun {b m} ⟨o, es, ep, e, d, r⟩ =>
    ⟨o, es, ep, keepB e (fun z => by rw [d] at z; cases z) (fun l n z => by rw [d] at z; cases z), d, r⟩
  have kB : K.In (hidT s₁.heap H) := fun b o e => hidT_get (KX b o e) (by
    cases q : H b with
    | none => rfl
    | some u =>
      rw [hH] at q
      rcases entry_cases q with ⟨hb, _⟩ | ⟨_, hb, hk, _⟩
      · obtain ⟨p, hp, rfl⟩ := List.mem_map.mp hb
        rw [nT p hp] at e
        cases e
      · rw [hb, hk] at e
        cases e)
  have ok : HOk P w H s₁.heap := fun b u e => by
    rw [hH] at e
    rcases entry_cases e with ⟨hb, rfl⟩ | ⟨_, rfl, _, rfl⟩
    · exact hT' b hb
    · exact ⟨ha, by rw [List.length_map]; exact hl, vs, _, rv, ha⟩
  have sq : SqL K H a (ns.map V.int) := by
    cases hk : K.lookup a with
    | none => exact Or.inl (Or.inr ⟨_, by rw [hH]; unfold entryH; rw [if_neg aT, if_pos ⟨rfl, hk⟩]⟩)
    | some o =>
      have e := KX a o hk
      rw [ha] at e
      cases e
      exact Or.inr ⟨_, vs.toArray, _, hk, rfl, rfl, rfl, by rw [List.size_toArray, hi.length]; exact hl, by simpa using rv⟩
  have M : L2.Mod K mg (hidT s₁.heap H) := by
    obtain ⟨mc, l1, l2⟩ := hlim
    exact ⟨kB, nsB hns, ⟨mb, nsB hb, hbb⟩, mc, nsB l1, l2⟩
  have TB : ∀ p ∈ cs, TabB (hidT s₁.heap H) mg p.1 p.2 := fun p hp => by
    have hTp := hT p hp
    constructor
    · obtain ⟨o, us, file, tf, flags, tg, inF, text, tt, e1, r1, r2, r3, r4, rest⟩ := C p hp
      refine ⟨o, us, file, tf, flags, tg, inF, text, tt, keepB e1 (fun z => ?_) (fun l n z => ?_), r1, r2, r3, r4, rest⟩
      · rw [r2] at z
        cases z
        simp at r3
      · rw [r2] at z
        cases z
    · obtain ⟨bm, ob, b1, b2, b3, b4, b5, b6⟩ := hbm
      refine ⟨bm, ob, b1, b2, fun q => ?_, fun q => ?_, keepB b3 (fun z => by rw [b6] at z; cases z) (fun l n z => by rw [b6] at z; cases z), b4, b5, b6⟩
      · obtain ⟨o, es, ep, e, hd, _⟩ := hns
        rw [q, e] at b3
        cases b3
        rw [hd] at b6
        cases b6
      · rw [q, hTp] at b3
        cases b3
        cases b6
    · intro z
      obtain ⟨o, es, ep, e, hd, _⟩ := hns
      rw [z, hTp] at e
      cases e
      cases hd
  have hsysB : ∃ mm, (hidT s₁.heap H).Ns sysModules mm := let ⟨mm, q⟩ := hsys; ⟨mm, nsB q⟩
  have e0 : Env0 P w K mg (hidT s₁.heap H) callerA [] s₁ H := ⟨rfl, M, fun b o e => of_hidT e, Nat.le_of_eq (hidT_size _ _), trivial, fun b hb => absurd (show b ∈ ([] : List Addr) from hb) (by simp), ok, .of_eq hg⟩
  refine codeAny_mono ((F _ kB (nsB hns) hsysB TB).run callerA [] s₁ H ⟨[.ref a], []⟩ [.ref a] [.ref a] _ _ rfl hr e0 (hbind s₁ (.ref a)) (.cons rfl .nil) (hsp H tab sq)) fun r s' hz => ?_
  cases r with
  | error e =>
    obtain ⟨_, _, _, _, _, _, _, _, _, _, _, _, z⟩ := (show L2.CX P w [] H s₁ _ e s' from hz)
    exact z.elim
  | ok fl =>
    cases fl with
    | next => exact False.elim hz
    | brk => exact False.elim hz
    | cont => exact False.elim hz
    | ret u =>
      obtain ⟨v, H', os, bare, un, hok', r', q⟩ := hz
      obtain rfl : v = .bl true := q
      obtain rfl : u = Value.bool true := r'
      have key : ∀ b o, b ∉ cs.map (·.2) → s₁.heap.get? b = some o → s'.heap.get? b = some o := fun b o nb e => by
        cases q : H b with
        | none => exact un.keep b o e q (fun z => absurd (show b ∈ ([] : List Addr) from z) (by simp)) (by simp)
        | some u =>
          have q2 := q
          rw [hH] at q2
          rcases entry_cases q2 with ⟨z, _⟩ | ⟨_, hb, _, rfl⟩
          · exact absurd z nb
          · have z2 := un.frzs b _ _ q
            obtain ⟨e2, _⟩ := hok' b _ z2
            rw [hb, ha] at e
            cases e
            exact e2
      have more : ∀ p ∈ cs, ∃ l : Array Value, s'.heap.get? p.2 = some { cls := .none, data := .fields l } := fun p hp => by
        obtain ⟨m, z⟩ := un.tbls p.2 #[] (tab p hp)
        exact ⟨_, hok' p.2 _ z⟩
      refine ⟨rfl, ⟨fun b o e => ?_, fun b o e => ?_⟩, os, bare⟩
      · by_cases hb : b ∈ cs.map (·.2)
        · obtain ⟨p, hp, rfl⟩ := List.mem_map.mp hb
          obtain ⟨l, hm⟩ := more p hp
          rw [hT p hp] at e
          cases e
          exact Or.inr (Or.inl ⟨((C p hp).tab (hT p hp)).isCodeTable, rfl, #[], l, rfl, by rw [Array.empty_append]; exact hm⟩)
        · exact Or.inl (key b o hb e)
      · by_cases hb : b ∈ cs.map (·.2)
        · obtain ⟨p, hp, rfl⟩ := List.mem_map.mp hb
          obtain ⟨l, hm⟩ := more p hp
          exact ⟨_, hm⟩
        · exact ⟨o, key b o hb e⟩
/-- what is known of the law's promise behind the top -/
def LawAt (l : OpenLaw) (w : World) (K : Frag) (k n : Nat) (x : Str) (mg : Str → Option Value) (fa : Addr) (h : Heap) : Prop :=
  ∃ (fd : FuncData) (cs : List (Addr × Addr)) (sp : Sp), (∀ p ∈ cs, h.get? p.2 = some { cls := .none, data := .fields #[] }) ∧ (∀ p ∈ cs, K.lookup p.2 = none) ∧ (∀ p ∈ cs, CodeHd h p.1 p.2) ∧
    (∀ (s : Shared) (u : Value), BindsTo s fd ⟨[u], []⟩ [(x, u)]) ∧
    (∀ (H : Hp) (a : Addr) (ns : List Int), ns.length ≤ n → (∀ z ∈ ns, Builtin.Int.intBits z ≤ 1048576) → (∀ p ∈ cs, H p.2 = some (.tbl #[])) → SqL K H a (ns.map V.int) → sp [.ref a] H (fun v _ => v = .bl true) fun _ _ _ => False) ∧
    ∀ base : Heap, K.In base → base.Ns mainGlobals mg → (∃ mm, base.Ns sysModules mm) → (∀ p ∈ cs, TabB base mg p.1 p.2) → FnG l.prog w K mg base k fa fd [x] sp
theorem walkG {l : OpenLaw} {n k : Nat} {q : Program} {loose : List Str} {XP : (Str → Option Value) → Heap → Prop} {YP : World → Heap → Prop} {d : DefRec} {K : Params → Frag} {x : Str}
    (hn : l.most = some n) (hn2 : n ≤ sizeLine) (hdf : d.params.defaults = []) (hr : Room k callerA) (hseer : importsNone q = true) (hY : ∀ (w : World) (h : Heap), YP w h → (K w.params).In h)
    (F : ∀ (w : World) (mg : Str → Option Value) (fa : Addr) (h : Heap), YP w h → (K w.params).In h → h.Ns mainGlobals mg → (∃ (lo : List Str) (mean : ExcName → Option Value) (mb : Str → Option Value), Top q lo mean mg mb h) → mg d.name = some (.ref fa) → LawAt l w (K w.params) k n x mg fa h) :
    WalkO q loose XP YP l.row.toRowW d [] (fun f vs => PySem.call f vs) := by
  refine Att.attach_callB hn hdf fun w s₀ s₁ mg mb fa o pm cd doc a vs ns G Y ho hd hcd hmg hobj hints hlen hbits hg => ?_
  have KX := hY w _ Y
  obtain ⟨fd, cs, sp, hT, nT, C, hb, hsp, hF⟩ := F w mg fa _ Y KX G.T.g ⟨_, _, _, G.T⟩ hmg
  exact law_callG KX G.T.g G.T.b G.T.builtins G.T.nolimit (let ⟨mm, z⟩ := (G.T.seer hseer).mods; ⟨mm, z.1⟩) hg hT nT C G.T.bmain hobj hints (Nat.le_trans hlen hn2) hr hF hb fun H hH hS => hsp H a ns hlen hbits hH hS
end CR

namespace CR
open PySem PySem.Spec PySem.W PySem.SeqAt PyProof.Rows L2 LamX
section
variable {X : Cx}
/-- two values that stand for the same data -/
def rSame (K : Frag) : R2 := fun x y H Q => ∃ k d, Good k d ∧ k ≤ 60 ∧ Rp K H x d ∧ Rp K H y d ∧ Q (.bl true) H
theorem op_same (hu : X.A.units + 64 < cLine) : OpR X (compareOp .Eq) (rSame X.K) := by
  intro pins s σ H x y v u Q I rx ry h
  obtain ⟨k, d, g, hk, h1, h2, q⟩ := h
  have flat : scal x y = true → x = y → wpAny (model X.prog X.w) X.A (compareOp .Eq v u) (EP X pins σ Q) X.xe s := fun a b => op_eq pins s σ H x y v u Q I rx ry ⟨a, by rw [decide_eq_true b]; exact q⟩
  have done : EP X pins σ Q (.bool true) s := ⟨.bl true, H, I, rfl, q⟩
  cases h1 with
  | non => cases h2; exact flat rfl rfl
  | bl b => cases h2; exact flat rfl rfl
  | int i => cases h2; exact flat rfl rfl
  | str z => cases h2; exact flat rfl rfl
  | @lst a xs ds hs ha =>
    cases h2 with
    | @lst a' xs' _ hs' ha' =>
    cases rx; cases ry
    cases k with
    | zero => cases g
    | succ k =>
      obtain ⟨its, rv, ⟨o, n, ho, hc, _, hd⟩, _⟩ := I.list (SqL.of hs)
      obtain ⟨its', rv', ⟨o', n', ho', hc', _, hd'⟩, _⟩ := I.list (SqL.of hs')
      obtain ⟨l1, l2⟩ := same_trees I k ds xs xs' its its' g ha ha' rv rv'
      refine eq_listsT (n := k + 1) (e := fun _ => true) ⟨o, ho, hc, n, hd⟩ ⟨o', ho', hc', n', hd'⟩ (by simpa using l1) (fun j h1 h2 => by simpa using l2 j (by simpa using h1) (by simpa using h2)) (by omega) ?_
      rw [all_yes]
      exact done
  | @tup a xs ds hs ha =>
    cases h2 with
    | @tup a' xs' _ hs' ha' =>
    cases rx; cases ry
    cases k with
    | zero => cases g
    | succ k =>
      obtain ⟨its, rv, ⟨o, ho, hc, n, hd⟩, _⟩ := I.tuple hs
      obtain ⟨its', rv', ⟨o', ho', hc', n', hd'⟩, _⟩ := I.tuple hs'
      obtain ⟨l1, l2⟩ := same_trees I k ds xs xs' its its' g ha ha' rv rv'
      refine eq_tuplesT (n := k + 1) (e := fun _ => true) ⟨o, ho, hc, n, hd⟩ ⟨o', ho', hc', n', hd'⟩ (fun j h1 h2 => by simpa using l2 j (by simpa using h1) (by simpa using h2)) (by omega) ?_
      have z : ((its.toArray.size == its'.toArray.size) : Bool) = true := by simpa using l1
      rw [all_yes, z]
      exact done
  | @emp a he =>
    cases h2 with
    | @emp a' he' =>
    cases rx; cases ry
    obtain ⟨_, hsm, vs, hkv, hdo⟩ := (I.hok _ _ he : ObjOk X.prog X.w H s.heap _ (.dK []))
    obtain ⟨_, hsm', vs', hkv', hdo'⟩ := (I.hok _ _ he' : ObjOk X.prog X.w H s.heap _ (.dK []))
    cases hkv; cases hkv'
    exact eq_dictsT (n := k) (e := fun _ => true) hsm hsm' hdo hdo' (fun k v y hm => by cases hm) (by omega) done
/-- repr of data -/
def rRepr (K : Frag) : List V → Hp → VK → Prop := fun xs H Q => ∃ v k d, xs = [v] ∧ Good k d ∧ k ≤ 60 ∧ wt d ≤ 25000 ∧ Rp K H v d ∧ Q (.str d.shown) H
theorem call_reprD (hS : ∃ mm, X.base.Ns sysModules mm) (hG : X.A.guards = some []) (hu : X.A.units + 70 < cLine) : CallR X (.builtin "repr") (rRepr X.K) := by
  intro pins s σ H xs us Q I r h
  obtain ⟨v, k, d, rfl, g, hk, hw, hp, q⟩ := h
  cases r with
  | cons rv rn =>
  rename_i u us'
  cases rn
  obtain ⟨t1, t2, t3⟩ := g.tells
  have big : 16000000 ≤ sizeLine := by decide
  have hlen : d.shown.length ≤ sizeLine := by omega
  obtain ⟨as, hn, hr⟩ := Rp.reads I hS d v u hp rv
  have viaRef : ∀ a, u = .ref a → wpAny (model X.prog X.w) X.A (call (.builtin "repr") [u]) (EP X pins σ Q) X.xe s := fun a e => by
    subst e
    exact repr_of_reads' hr t1 (fun _ => hn) hG (by omega) (fun _ _ e => e) (fun h' z tk kk => ⟨.str d.shown, H, I.kept kk, ⟨_, rfl⟩, q⟩) hlen
  cases hp with
  | non => cases rv; exact PySem.P.repr_of_none ⟨.str _, H, I.tok _, ⟨_, rfl⟩, q⟩
  | bl b => cases rv; exact PySem.P.repr_of_bool ⟨.str _, H, I.tok _, ⟨_, rfl⟩, q⟩
  | int i =>
    obtain ⟨t, rfl⟩ := rv
    exact PySem.P.repr_of_int (of_decide_eq_true t1) ⟨.str _, H, I.tok _, ⟨_, rfl⟩, q⟩
  | str x =>
    obtain ⟨t, rfl⟩ := rv
    exact PySem.P.repr_of_str ⟨.str _, H, I.tok _, ⟨_, rfl⟩, q⟩ hlen
  | lst _ _ => exact viaRef _ rv
  | tup _ _ => exact viaRef _ rv
  | emp _ => exact viaRef _ rv
end
end CR

namespace CR
open PySem PySem.Spec PySem.W PySem.SeqAt PyProof.Rows L2 LamX

/-! ### lambdas, with or without a written default -/
abbrev cFn (q : Str) (params : Arguments) (body : Expr) (scope : Scope) (cl : List (Str × Addr)) (dV pm cdv ct : Value) : FuncData :=
  { kla_fn "<lambda>" q params body scope cl pm cdv ct with defaults := dV }
abbrev cObj (q : Str) (params : Arguments) (body : Expr) (scope : Scope) (cl : List (Str × Addr)) (dV pm cdv ct : Value) : Obj :=
  { cls := .type "function", data := .func (cFn q params body scope cl dV pm cdv ct) }
section
variable {M : Model} {A : Around} {E : Value → Shared → Prop} {s : Shared} {q : Str} {params : Arguments} {body : Expr} {scope : Scope} {env : Env} {c P : Addr} {ps : Array Value} {pos : Pos} {mg : Str → Option Value}
  {clos : List (Str × Addr)} {dV : Value} {Q : Value → Shared → Prop}
theorem lam_tail (hcl : closureFor scope env = pure clos) (hge : env.globals = mainGlobals) (hg : s.heap.Ns mainGlobals mg) (hcode : env.code = .ref c) (C : CodeHd s.heap c P) (hP : s.heap.get? P = some (tabObj ps)) (ht : TriplesOk ps.toList)
    (hgP : mainGlobals ≠ P) (hb : s.heap.BuiltinsAt mg P)
    (hit : ∀ (cv ctv : Value) (h' : Heap) (tk : Tok), codeAmong pos ps.toList = some cv → (∀ b o, s.heap.get? b = some o → h'.get? b = some o) → s.heap.objs.size ≤ h'.objs.size →
      Q (.ref h'.objs.size) { s with heap := h'.push (cObj q params body scope clos dV ((mg "__name__").getD .none) cv ctv), toks := tk })
    (new : ∀ (c' : Addr) (ctv : Value) (h' : Heap) (tk : Tok), codeAmong pos ps.toList = none → Heap.ExtBut P s.heap h' → s.heap.objs.size ≤ c' → c' < h'.objs.size → h'.CodeRec (.ref c') q →
      h'.get? P = some (tabObj (ps ++ #[rawInt pos.line, rawInt pos.col, .ref c'])) → Q (.ref h'.objs.size) { s with heap := h'.push (cObj q params body scope clos dV ((mg "__name__").getD .none) (.ref c') ctv), toks := tk }) :
    wpAny M A (makeTail "<lambda>" q params (.expr body) scope env dV .none none pos pos.line) Q E s := by
  obtain ⟨bm, ob, hbm, hne0, hneG, hneP, hbo, hcls, hdict, hdata⟩ := hb
  have size1 : ∀ oT : Obj, s.heap.objs.size ≤ (s.heap.push oT).objs.size := fun oT => by
    rw [Heap.size_push]
    exact Nat.le_succ _
  unfold makeTail
  rw [hcl, hge]
  refine wpAny_bind (wpAny_pure ?_)
  -- the closure's tuple, if there is one
  have go : ∀ (h0 : Heap) (ctv : Value), (∀ b o, s.heap.get? b = some o → h0.get? b = some o) → s.heap.objs.size ≤ h0.objs.size →
      wpAny M A (do
        let code ← functionCode env pos pos.line "<lambda>" q params scope (.expr body)
        let bl ← builtinsFor mainGlobals env.builtins
        let nm ← nsGet mainGlobals "__name__"
        let doc ← (pure Value.none : Sem Value)
        newObj (.type "function") (.func { name := "<lambda>", qualname := q, params, body := .expr body, scope, globals := mainGlobals, closure := clos, closureTuple := ctv, code := code, builtins := bl, defaults := dV, kwdefaults := .none, annotations := none, pyModule := nm.getD .none, doc := doc }))
        Q E { s with heap := h0 } := fun h0 ctv up sz => by
    have C0 := C.keeps up
    have hP0 := up _ _ hP
    cases hc : codeAmong pos ps.toList with
    | some cv =>
      refine wpAny_bind (wpAny_functionCode_hit hcode (C0.code hP0 ht) hc ?_)
      refine wpAny_bind (wpAny_builtinsFor (hg.keeps up) hbm hne0 (up _ _ hbo) hcls hdict hdata ?_)
      refine wpAny_bind (wpAny_nsGet (hg.keeps up) ?_)
      exact wpAny_bind (wpAny_pure (wpAny_newObj_type (hit cv ctv h0 s.toks hc up sz) (by size_fits)))
    | none =>
      refine wpAny_bind (wpAny_functionCodeX hcode (C0.code hP0 ht) (C0.tab hP0) hc fun c' h' tk hx hge' hlt _ hrec htb _ => ?_)
      have hx' : Heap.ExtBut P s.heap h' := fun b o hb' e => hx b o hb' (up b o e)
      have hg' := hg.extBut hx' hgP
      refine wpAny_bind (wpAny_builtinsFor hg' hbm hne0 (hx' _ _ hneP hbo) hcls hdict hdata ?_)
      refine wpAny_bind (wpAny_nsGet hg' ?_)
      exact wpAny_bind (wpAny_pure (wpAny_newObj_type (new c' ctv h' tk hc hx' (Nat.le_trans sz hge') hlt hrec htb.2) (by size_fits)))
  cases clos with
  | nil =>
    simp only [List.isEmpty_nil, if_true]
    exact wpAny_bind (wpAny_pure (go s.heap .none (fun _ _ e => e) (Nat.le_refl _)))
  | cons z r =>
    simp only [List.isEmpty_cons, Bool.false_eq_true, if_false]
    exact wpAny_bind (wpAny_newTextTuple (go _ _ (fun b o e => Heap.get?_push_of_some _ e) (size1 _)))
end

/-- a closure that stands at f, told by its object -/
def Clo (q : Str) (params : Arguments) (body : Expr) (scope : Scope) (cl : List (Str × Addr)) (dV pm : Value) (c' : Addr) (ctv : Value) (f : Addr) : HO :=
  .ext fun h => h.get? f = some (cObj q params body scope cl dV pm (.ref c') ctv)
theorem clo_ne {q : Str} {params : Arguments} {body : Expr} {scope : Scope} {cl : List (Str × Addr)} {dV pm : Value} {c' : Addr} {ctv : Value} {f : Addr} (ps : Array Value) : Clo q params body scope cl dV pm c' ctv f ≠ .tbl ps := fun z => by
  unfold Clo at z
  cases z
section
variable {X : Cx} {pins : List (Addr × Obj)} {σ : L2.St} {H : Hp} {s : Shared}
/-- the closure's object is pushed -/
theorem inv_clo {o : Obj} {q : Str} {params : Arguments} {body : Expr} {scope : Scope} {cl : List (Str × Addr)} {dV pm : Value} {c' : Addr} {ctv : Value} {h' : Heap} {tk : Nat} (I : Inv X pins σ H { s with heap := h', toks := tk }) :
    Inv X pins σ (upd H h'.objs.size (Clo q params body scope cl dV pm c' ctv h'.objs.size)) { s with heap := h'.push (cObj q params body scope cl dV pm (.ref c') ctv), toks := tk } := by
  have e : (h'.push (cObj q params body scope cl dV pm (.ref c') ctv)).get? h'.objs.size = some (cObj q params body scope cl dV pm (.ref c') ctv) := Heap.get?_push_size _ rfl
  exact I.laid (t' := tk) (fun b o q => Heap.get?_push_of_some _ q) (Nat.le_refl _) ⟨e, ⟨_, e⟩, fun h1 h2 a st => st _ a⟩
/-- what a lambda's making leaves -/
def LamP (T : List (Addr × Str)) (q : Str) (params : Arguments) (body : Expr) (scope : Scope) (cl : List (Str × Addr)) (dV : Value) (H : Hp) (Q : VK) : Prop :=
  ∀ (H1 : Hp) (f : Addr) (pm : Value) (c' : Addr) (ctv : Value), ExtN H H1 → Tabs T H1 → H f = none → H1 f = some (Clo q params body scope cl dV pm c' ctv f) → H1 c' = some (CodeO c' q) → Q (.ref f) H1
theorem lam_inv {T : List (Addr × Str)} {c P : Addr} {params : Arguments} {body : Expr} {scope : Scope} {pos : Pos} {dV : Value} {Q : VK} {E : Value → Shared → Prop} (I : Inv X pins σ H s) (TB : TabB X.base X.mg c P) (hcode : X.env.code = .ref c)
    (hm : (P, X.env.qual ++ "<lambda>") ∈ T) (hu : ∀ p ∈ T, p.1 = P → p.2 = X.env.qual ++ "<lambda>") (hT : Tabs T H) (hfree : ∀ y ∈ scope.names, y.2 = .free → ∃ c, X.env.cells.lookup y.1 = some c)
    (h : LamP T (X.env.qual ++ "<lambda>") params body scope (cloFrom X.env.cells scope.names []) dV H Q) :
    wpAny (model X.prog X.w) X.A (makeTail "<lambda>" (X.env.qual ++ "<lambda>") params (.expr body) scope X.env dV .none none pos pos.line) (EP X pins σ Q) E s := by
  obtain ⟨ps, hP, ht, ha⟩ := hT _ hm
  have bP : s.heap.BuiltinsAt X.mg P := TB.bm.keeps I.bk
  have hP' : s.heap.get? P = some { cls := .none, data := .fields ps } := I.hok P _ hP
  refine lam_tail (closure_ok hfree) I.ok.glob (I.mod.glob.keeps I.bk) hcode (TB.code.keeps I.bk) hP' ht TB.gP bP (fun cv ctv h' tk hc up sz => ?_) (fun c' ctv h' tk hc hx hge hlt hrec htb => ?_)
  · obtain ⟨c', e, hco⟩ := ha pos cv hc
    subst e
    have I1 : Inv X pins σ H { s with heap := h', toks := tk } := I.kept up
    have nf : H h'.objs.size = none := I1.hok.fresh (Nat.le_refl _)
    refine ⟨.ref h'.objs.size, _, inv_clo (o := default) I1, rfl, h _ h'.objs.size _ c' ctv (fun b o e n => by rw [upd_ne (ne_of_none e nf)]; exact e) (hT.ext fun b o e => by rw [upd_ne (ne_of_none e nf)]; exact e) nf upd_same (by rw [upd_ne (ne_of_none hco nf)]; exact hco)⟩
  · obtain ⟨c2, oc, vs, t, e2, hoc, hd, hv⟩ := hrec
    cases e2
    have nC : H c' = none := I.hok.fresh hge
    have I1 := inv_table (t' := tk) (more := #[rawInt pos.line, rawInt pos.col, .ref c']) (h' := h') I hP (fun b o hb e => hx b o hb e) htb hge ⟨oc, vs, t, hoc, hd, hv⟩
    have eN : ExtN H (upd (upd H P (.tbl (ps ++ #[rawInt pos.line, rawInt pos.col, .ref c']))) c' (CodeO c' (X.env.qual ++ "<lambda>"))) := fun b o e n => by
      rw [upd_ne (ne_of_none e nC), upd_ne (fun z => n ps (Option.some.inj (e.symm.trans (by rw [z]; exact hP))))]
      exact e
    have eL : (ps ++ #[rawInt pos.line, rawInt pos.col, .ref c']).toList = ps.toList ++ [rawInt pos.line, rawInt pos.col, .ref c'] := by simp
    have T1 : Tabs T (upd (upd H P (.tbl (ps ++ #[rawInt pos.line, rawInt pos.col, .ref c']))) c' (CodeO c' (X.env.qual ++ "<lambda>"))) := fun p hp => by
      by_cases hb : p.1 = P
      · rw [hu p hp hb, hb]
        refine ⟨_, by rw [upd_ne (ne_of_none hP nC), upd_same], by rw [eL]; exact PySem.TriplesOk_snoc _ _ _ _ ht, fun p' cv hcv => ?_⟩
        rw [eL] at hcv
        rcases among_app _ ht hcv with z | z
        · obtain ⟨c0, e1, e2⟩ := ha p' cv z
          exact ⟨c0, e1, eN _ _ e2 codeO_ne⟩
        · exact ⟨c', z, upd_same⟩
      · obtain ⟨ps', a1, a2, a3⟩ := hT p hp
        refine ⟨ps', by rw [upd_ne (ne_of_none a1 nC), upd_ne hb]; exact a1, a2, fun p' cv hcv => ?_⟩
        obtain ⟨c0, e1, e2⟩ := a3 p' cv hcv
        exact ⟨c0, e1, eN _ _ e2 codeO_ne⟩
    have nf := I1.hok.fresh (Nat.le_refl h'.objs.size)
    have nf0 : H h'.objs.size = none := I.hok.fresh (Nat.le_trans hge (Nat.le_of_lt hlt))
    exact ⟨.ref h'.objs.size, _, inv_clo (o := default) I1, rfl, h _ h'.objs.size _ c' ctv (fun b o e n => by rw [upd_ne (ne_of_none e nf0)]; exact eN b o e n) (T1.ext fun b o e => by rw [upd_ne (ne_of_none e nf)]; exact e) nf0 upd_same
      (by rw [upd_ne (ne_of_none upd_same nf), upd_same])⟩
end
section
variable {X : Cx}
/-- lambda: body -/
def tLam0 (T : List (Addr × Str)) (q : Str) (params : Arguments) (body : Expr) (scope : Scope) (cl : List (Str × Addr)) : TE := fun _ H Q => Tabs T H ∧ LamP T q params body scope cl .none H Q
theorem pe_lam0 {T : List (Addr × Str)} {c P : Addr} {params : Arguments} {body : Expr} {scope : Scope} {pos : Pos} (TB : TabB X.base X.mg c P) (hcode : X.env.code = .ref c) (hm : (P, X.env.qual ++ "<lambda>") ∈ T)
    (hu : ∀ p ∈ T, p.1 = P → p.2 = X.env.qual ++ "<lambda>") (hfree : ∀ y ∈ scope.names, y.2 = .free → X.env.scope.names.lookup y.1 = some .cell ∨ X.env.scope.names.lookup y.1 = some .free) (hdef : defaultsOf params X.env = ([], []) := by rfl) :
    PE X (.Lambda params body scope pos) (tLam0 T (X.env.qual ++ "<lambda>") params body scope (cloFrom X.env.cells scope.names [])) := by
  refine ⟨fun pins s σ H Q I h => ?_⟩
  refine kla_eval hdef ?_
  rw [makeFunction_eq]
  simp only [List.zip_nil_right, List.filterMap_nil, List.isEmpty_nil, if_true, pure_bind]
  exact lam_inv I TB hcode hm hu h.1 (fun y hy e => (hfree y hy e).elim (fun k => I.ok.has _ (.inl k)) fun k => I.ok.has _ (.inr k)) h.2
/-- lambda k=0: body -/
def tLam1 (T : List (Addr × Str)) (q : Str) (params : Arguments) (body : Expr) (scope : Scope) (cl : List (Str × Addr)) (i : Int) : TE := fun _ H Q => Tabs T H ∧ ∀ td, H td = none → LamP T q params body scope cl (.ref td) (upd H td (.tup [.int i])) Q
theorem pe_lam1 {T : List (Addr × Str)} {c P : Addr} {params : Arguments} {body : Expr} {scope : Scope} {pos dpos : Pos} {i : Int} {j : Nat} (TB : TabB X.base X.mg c P) (hcode : X.env.code = .ref c) (hm : (P, X.env.qual ++ "<lambda>") ∈ T)
    (hu : ∀ p ∈ T, p.1 = P → p.2 = X.env.qual ++ "<lambda>") (hfree : ∀ y ∈ scope.names, y.2 = .free → X.env.scope.names.lookup y.1 = some .cell ∨ X.env.scope.names.lookup y.1 = some .free)
    (hdef : defaultsOf params X.env = ([eval (.Constant (.int i) j dpos) X.env], []) := by rfl) (hkw : params.kwonlyargs = [] := by rfl) :
    PE X (.Lambda params body scope pos) (tLam1 T (X.env.qual ++ "<lambda>") params body scope (cloFrom X.env.cells scope.names []) i) := by
  refine ⟨fun pins s σ H Q I h => ?_⟩
  rw [arm_eval_Lambda, hdef]
  show wpAny _ _ (evalAll [eval (.Constant (.int i) j dpos) X.env] >>= _) _ _ _
  refine wpAny_bind (wpAny_evalAll_cons (wpAny_Constant_int (wpAny_evalAll_nil ?_)))
  refine wpAny_bind (wpAny_holding (wpAny_pure ?_))
  rw [makeFunction_eq, hkw]
  simp only [List.zip_nil_left, List.filterMap_nil, List.isEmpty_nil, List.isEmpty_cons, if_true, if_false, Bool.false_eq_true, pure_bind]
  refine wpAny_bind (wpAny_newTextTuple ?_)
  have I0 := I.tok (s.toks + 1)
  have nf : H s.heap.objs.size = none := I.hok.fresh (Nat.le_refl _)
  have hd : (s.heap.push { cls := .type "tuple", data := .seq [Value.int i s.toks].toArray }).get? s.heap.objs.size = some { cls := .type "tuple", data := .seq [Value.int i s.toks].toArray } := Heap.get?_push_size _ rfl
  have I1 : Inv X pins σ (upd H s.heap.objs.size (.tup [.int i])) { s with heap := s.heap.push { cls := .type "tuple", data := .seq [Value.int i s.toks].toArray }, toks := s.toks + 1 } :=
    I.laid (t' := s.toks + 1) (fun b o e => Heap.get?_push_of_some _ e) (Nat.le_refl _) ⟨by show 1 ≤ sizeLine; decide, [.int i s.toks], .cons ⟨_, rfl⟩ .nil, ⟨_, hd, rfl, _, rfl⟩⟩
  exact lam_inv I1 TB hcode hm hu (h.1.ext fun b o e => by rw [upd_ne (ne_of_none e nf)]; exact e) (fun y hy e => (hfree y hy e).elim (fun k => I.ok.has _ (.inl k)) fun k => I.ok.has _ (.inr k)) (h.2 _ nf)
end
end CR

namespace CR
open PySem PySem.Spec PySem.W PySem.SeqAt PyProof.Rows L2 LamX

/-! ### a closure called by the def that it was handed to -/
/-- how a closure's own parameter is filled: there is none, or the written default fills it -/
inductive DvOk (q : Str) (params : Arguments) (body : Expr) (scope : Scope) (cl : List (Str × Addr)) (dV : Value) (H : Hp) : Prop where
  | zero (e : dV = .none) (h : ∀ pm cv ct, bindArgs (cFn q params body scope cl .none pm cv ct) ⟨[], []⟩ = pure [])
  | one (td : Addr) (v : V) (k : Str) (e : dV = .ref td) (ht : H td = some (.tup [v])) (hl : scope.names.lookup k = some .local)
      (h : ∀ pm cv ct, ∃ kk, bindArgs (cFn q params body scope cl (.ref td) pm cv ct) ⟨[], []⟩ = (seqItems? (.ref td) >>= kk) ∧ ∀ u, kk (some #[u]) = pure [(k, u)])
def IsClo (q : Str) (params : Arguments) (body : Expr) (scope : Scope) (cl : List (Str × Addr)) (H : Hp) (f : Addr) : Prop :=
  ∃ (dV pm : Value) (c' : Addr) (ctv : Value), H f = some (Clo q params body scope cl dV pm c' ctv f) ∧ H c' = some (CodeO c' q) ∧ DvOk q params body scope cl dV H
theorem IsClo.ext {q : Str} {params : Arguments} {body : Expr} {scope : Scope} {cl : List (Str × Addr)} {H H' : Hp} {f : Addr} (x : IsClo q params body scope cl H f) (e : ExtN H H') : IsClo q params body scope cl H' f := by
  obtain ⟨dV, pm, c', ctv, a, b, d⟩ := x
  refine ⟨dV, pm, c', ctv, e _ _ a clo_ne, e _ _ b codeO_ne, ?_⟩
  cases d with
  | zero e1 h => exact .zero e1 h
  | one td v k e1 ht hl h => exact .one td v k e1 (e _ _ ht (fun ps z => by cases z)) hl h
/-- the slots that a closure sees: those of the names that it captures -/
def maskS (N : List Str) (sc : Scope) (σ : L2.St) : L2.St := List.zipWith (fun x o => if sc.names.lookup x = some .free then o else none) N σ
theorem mask_get {N : List Str} {sc : Scope} {σ : L2.St} {i : Nat} {x : Str} {v : V} (hx : N[i]? = some x) (h : (maskS N sc σ)[i]? = some (some v)) : sc.names.lookup x = some .free ∧ σ[i]? = some (some v) := by
  unfold maskS at h
  rw [List.getElem?_zipWith, hx] at h
  cases e : σ[i]? with
  | none => rw [e] at h; cases h
  | some o =>
    rw [e] at h
    have h' : (if sc.names.lookup x = some .free then o else none) = some v := Option.some.inj h
    split at h'
    · rename_i hf
      exact ⟨hf, by rw [h']⟩
    · cases h'
/-- what a closure's scope is like -/
structure CloS (sc scope : Scope) : Prop where
  kind : scope.kind = .function
  co : scope.isCoroutine = false
  gen : scope.isGenerator = false
  nocell : ∀ y ∈ scope.names, y.2 ≠ .cell
  free : ∀ y ∈ scope.names, y.2 = .free → sc.names.lookup y.1 = some .cell ∨ sc.names.lookup y.1 = some .free
def cloSB (sc scope : Scope) : Bool :=
  decide (scope.kind = .function) && !scope.isCoroutine && !scope.isGenerator && scope.names.all fun y => !decide (y.2 = .cell) && (!decide (y.2 = .free) || decide (sc.names.lookup y.1 = some .cell) || decide (sc.names.lookup y.1 = some .free))
theorem cloS_by {sc scope : Scope} (h : cloSB sc scope = true) : CloS sc scope := by
  unfold cloSB at h
  simp only [Bool.and_eq_true, Bool.or_eq_true, Bool.not_eq_true', decide_eq_true_eq, decide_eq_false_iff_not, List.all_eq_true] at h
  obtain ⟨⟨⟨h1, h2⟩, h3⟩, h4⟩ := h
  refine ⟨h1, h2, h3, fun y hy => (h4 y hy).1, fun y hy e => ?_⟩
  rcases (h4 y hy).2 with (z | z) | z
  · exact absurd e z
  · exact Or.inl z
  · exact Or.inr z
section
variable {X : Cx} {pins : List (Addr × Obj)} {σ : L2.St} {H HZ : Hp} {s s1 : Shared}
theorem clo_start {A : Around} {outer : List Env} {E : XK} {scope : Scope} {f c' : Addr} {h₁ : Heap} {tk : Nat} {mB : Str → Option Value} (I : Inv X pins σ H s) (L : CloS X.env.scope scope) (e0 : Env0 X.prog X.w X.K X.mg X.base A outer s1 HZ) (hd : A.handled = none)
    (un : Un (frs X.stack) [] H HZ s.heap s1.heap) (hns : h₁.Ns s1.heap.objs.size mB) (kp : ∀ b o, s1.heap.get? b = some o → h₁.get? b = some o) :
    Inv (lamCx X A outer s1 HZ E scope f c') [] (maskS X.N scope σ) HZ { s1 with heap := h₁, toks := tk } := by
  have hfree : ∀ y ∈ scope.names, y.2 = .free → ∃ c, X.env.cells.lookup y.1 = some c := fun y hy e => (L.free y hy e).elim (fun k => I.ok.has _ (.inl k)) fun k => I.ok.has _ (.inr k)
  have cm : ∀ {y c}, (cloFrom X.env.cells scope.names []).lookup y = some c → X.env.cells.lookup y = some c := fun {y c} e => by
    rcases cloFrom_mem (PySem.mem_of_lookup e) with hm | ⟨h1, h2⟩
    · cases hm
    · obtain ⟨c1, hc⟩ := hfree _ h1 rfl
      have hc : X.env.cells.lookup y = some c1 := hc
      have e2 : c = c1 := by rw [h2, hc] <;> rfl
      rw [e2]
      exact hc
  have look : ∀ {y}, scope.names.lookup y = some .free → ∃ c, (cloFrom X.env.cells scope.names []).lookup y = some c := fun {y} hl =>
    mem_lookup (cloFrom_has (cells := X.env.cells) (acc := []) (PySem.mem_of_lookup hl))
  have cellK : ∀ {c : Addr} {v : Option Value}, H c = none → s.heap.IsCell c v → h₁.IsCell c v := fun {c v} n ⟨o, ho, hd⟩ => by
    obtain ⟨sl, q⟩ := un.any ho n (by simp)
    exact ⟨_, kp _ _ q, hd⟩
  have noA : ∀ b : Addr, b ∉ (lamCx X A outer s1 HZ E scope f c').ex := fun b z => absurd (show b ∈ ([] : List Addr) from z) (by simp)
  have nocell : ∀ {y}, scope.names.lookup y = some .cell → False := fun {y} k => L.nocell _ (PySem.mem_of_lookup k) rfl
  refine ⟨⟨e0.mod, L.kind, rfl, rfl, Nat.le_refl _, fun y z c e1 e2 => I.ok.inj y z c (cm e1) (cm e2), fun y hy => ?_, fun y c z _ => ?_, fun _ => hd, Around.frames_deeper e0.frames, .inr ⟨rfl, rfl⟩, fun b z => absurd z (noA b), e0.bs, e0.bsz, fun b _ _ => noA b,
      fun b z => absurd z (noA b), e0.funs, e0.frf⟩,
    rfl, e0.bare, Un.kept kp, ⟨_, hns, fun i y v e1 e2 e3 => ?_⟩, fun y c e => ?_, e0.hok.fresh (Nat.le_refl _), fun y c e => ?_, fun q hq => absurd (show q ∈ ([] : List (Addr × Obj)) ++ [] from hq) (by simp), e0.hok.kept kp, ?_⟩
  · have hy : scope.names.lookup y = some .cell ∨ scope.names.lookup y = some .free := hy
    rcases hy with hy | hy
    · exact (nocell hy).elim
    · exact look hy
  · have z : false = true := z
    cases z
  · obtain ⟨k, e2⟩ := mask_get (show X.N[i]? = some y from e1) e2
    obtain ⟨m, hn, hl⟩ := I.loc
    have hvis : Vis X.env.scope y := (L.free _ (PySem.mem_of_lookup k) rfl).elim (fun k => .inr (.inl k)) (fun k => .inr (.inr k))
    obtain ⟨w', r, q⟩ := hl i y v e1 e2 hvis
    obtain ⟨c2, h2⟩ := look k
    refine ⟨w', r, .inr ⟨.inr k, c2, h2, ?_⟩⟩
    have c1 := cm h2
    rcases q with ⟨k', _⟩ | ⟨_, c3, e', z⟩
    · have k' : X.env.scope.names.lookup y = some .local := k'
      rcases L.free _ (PySem.mem_of_lookup k) rfl with k2 | k2 <;> rw [show X.env.scope.names.lookup y = _ from k2] at k' <;> cases k'
    · rw [c1] at e'
      cases e'
      exact cellK (I.freeC y _ c1) z
  · obtain ⟨w', z⟩ := I.cell y c (cm e)
    exact ⟨w', cellK (I.freeC y c (cm e)) z⟩
  · obtain ⟨v, o, ho, hd⟩ := I.cell y c (cm e)
    exact un.free c o ho (I.freeC y c (cm e)) (by simp)
  · show (List.zipWith _ X.N σ).length = X.N.length
    rw [List.length_zipWith, I.len]
    exact Nat.min_self _
/-- what is known of a closure's body, wherever it is run -/
def CloB (X : Cx) (k : Nat) (body : Expr) (scope : Scope) (tb : XK → TE) : Prop :=
  CloS X.env.scope scope ∧ ∀ (A : Around) (outer : List Env) (s : Shared) (H : Hp) (E : XK) (f c' : Addr), Room k (A.deeper (lamEnv X scope s.heap.objs.size f c')) → A.guards = some [] → PE (lamCx X A outer s H E scope f c') body (tb E)
/-- a(), in the def that got the closure; that def was entered at s, from the frame of the closure's maker -/
theorem pe_clo {Eg : XK} {Ng : List Str} {qg : Str} {sg : Scope} {g f : Addr} {cdg : Value} {params : Arguments} {body : Expr} {scope : Scope} {k i : Nat} {a : Str} {pn : List (Addr × Obj)} {xe : Value → Shared → Prop} {W : WX} {E : XK} {tb : XK → TE} {p1 p2 : Pos}
    (I : Inv X pins σ H s) (B : CloB X k body scope tb) (hG : X.A.guards = some [])
    (tk : Takes ((cxOf (L2.CX X.prog X.w) X.prog X.w X.K X.mg X.base Ng qg sg g cdg X.A X.stack s H Eg).tr pn xe) W) (hW : ∀ cls d σ' H', E cls d H' → W cls d σ' H') (hr : Room (k + 1) (X.A.deeper (envOfC qg sg s.heap.objs.size g cdg)))
    (hN : Ng[i]? = some a) (hv : Vis sg a) (hd : (a == ("__debug__" : Str)) = false := by decide) (hcd : (a == ("__classdict__" : Str)) = false := by decide) :
    PE ((cxOf (L2.CX X.prog X.w) X.prog X.w X.K X.mg X.base Ng qg sg g cdg X.A X.stack s H Eg).tr pn xe) (.Call (.Name a p1) [] [] p2)
      (fun σZ HZ Q => σZ[i]? = some (some (.ref f)) ∧ IsClo (X.env.qual ++ "<lambda>") params body scope (cloFrom X.env.cells scope.names []) HZ f ∧ tb E (maskS X.N scope σ) HZ Q) := by
  refine ⟨fun pinsZ sZ σZ HZ Q IZ h => ?_⟩
  obtain ⟨hs, ⟨dV, pm, c', ctv, hf, hc, hdv⟩, ht⟩ := h
  refine wpAny_Call_Name_kw (thn ((pe_var (pos := p1) (i := i) hN hv hd hcd).run pinsZ sZ σZ HZ (fun v H1 => v = .ref f ∧ H1 = HZ) IZ ⟨.ref f, hs, rfl, rfl⟩) fun u s1 ⟨v, H1, I1, r1, q1⟩ => ?_)
  obtain ⟨ev, eH⟩ := q1
  subst ev
  rw [eH] at I1
  obtain rfl : u = Value.ref f := r1
  obtain ⟨of1, _, _⟩ := I1.hok f _ hf
  refine callWith_F0 ⟨_, _, _, _, of1⟩ ?_
  have un : Un (frs X.stack) [] H HZ s.heap s1.heap := I1.base
  obtain ⟨⟨oc, vs, t, hoc, hdc, hvc⟩, _, _⟩ := I1.hok c' _ hc
  obtain ⟨L, hbody⟩ := B
  have gz : (X.A.deeper (envOfC qg sg s.heap.objs.size g cdg)).guards = some [] := hG
  have fin : ∀ (binds : List (Str × Value)), (∀ y ∈ binds, scope.names.lookup y.1 = some .local) → BindsTo s1 (cFn (X.env.qual ++ "<lambda>") params body scope (cloFrom X.env.cells scope.names []) dV pm (.ref c') ctv) ⟨[], []⟩ binds →
      codeAny (model X.prog X.w) (X.A.deeper (envOfC qg sg s.heap.objs.size g cdg)) (.call (.ref f) ⟨[], []⟩) (CR (L2.CX X.prog X.w) (envOfC qg sg s.heap.objs.size g cdg :: X.stack) X.prog X.w HZ s1 Q E) s1 := fun binds hl hb => by
    refine kla_callFunE hr.depth of1 rfl L.co L.gen rfl ⟨c', oc, vs, t, rfl, hoc, hdc, hvc⟩ (hb _ _ _ _ ?_)
    refine wpAny_newFunctionEnv L.nocell hl (fun h₁ hns hsb => ⟨I1.nolimit.fresh _ hsb, ?_⟩) L.kind
    show codeAny _ _ (.expr body (lamEnv X scope s1.heap.objs.size f c')) _ _
    have kp : ∀ b o, s1.heap.get? b = some o → h₁.get? b = some o := fun b o e => hsb.extBut b o (Nat.ne_of_lt (Heap.lt_size e)) (Heap.get?_push_of_some _ e)
    have J : Inv (lamCx X (X.A.deeper (envOfC qg sg s.heap.objs.size g cdg)) (envOfC qg sg s.heap.objs.size g cdg :: X.stack) s1 HZ E scope f c') [] (maskS X.N scope σ) HZ { s1 with heap := h₁, toks := s1.toks + binds.length } :=
      clo_start I L I1.env0 hr.hd un hns kp
    refine kla_codeExpr (wpAny_mono ((hbody _ _ s1 HZ E f c' (hr.deeper _) gz).run [] _ _ HZ Q J ht) (fun v s' hq => ?_) fun e s' hq => hq)
    obtain ⟨w', H', J', rv, q⟩ := hq
    exact ⟨w', H', J'.os, J'.bare, J'.base, J'.hok, rv, q⟩
  have rc : codeAny (model X.prog X.w) (X.A.deeper (envOfC qg sg s.heap.objs.size g cdg)) (.call (.ref f) ⟨[], []⟩) (CR (L2.CX X.prog X.w) (envOfC qg sg s.heap.objs.size g cdg :: X.stack) X.prog X.w HZ s1 Q E) s1 := by
    cases hdv with
    | zero e h =>
      subst e
      exact fin [] (fun y hy => absurd hy (by simp)) (.of_eq (h pm _ ctv))
    | one td v k e htd hlk h =>
      subst e
      obtain ⟨kk, e1, e2⟩ := h pm (.ref c') ctv
      obtain ⟨_, its, rvs, ⟨ot, ho, hoc2, n, hod⟩⟩ := (I1.hok td _ htd : ObjOk X.prog X.w HZ s1.heap td (.tup [v]))
      cases rvs with
      | cons r1 r2 =>
        rename_i u us
        cases r2
        refine fin [(k, u)] (fun y hy => by obtain rfl := List.mem_singleton.mp hy; exact hlk) (fun M A E' Q' hq => ?_)
        rw [e1]
        refine wpAny_bind (wpAny_seqItems ho hod ?_)
        have z : kk (some [u].toArray) = pure [(k, u)] := e2 u
        rw [z]
        exact wpAny_pure hq
  have hx : Passes (L2.CX X.prog X.w) ((cxOf (L2.CX X.prog X.w) X.prog X.w X.K X.mg X.base Ng qg sg g cdg X.A X.stack s H Eg).tr pn xe) E := passes_call tk hW
  refine wpAny_call (codeAny_mono rc fun r s' hq => ?_)
  cases r with
  | error e => exact hx pinsZ σZ HZ s1 e s' I1 hq
  | ok fl =>
    cases fl with
    | ret u => exact I1.after hq
    | next => exact False.elim hq
    | brk => exact False.elim hq
    | cont => exact False.elim hq
end

/-! ### _law_heard(..) -/
/-- nothing leaves the def -/
abbrev XN : XK := fun _ _ _ => False
/-- a def's body run from a frame of X, told of the very state -/
theorem run_body {X : Cx} {pins : List (Addr × Obj)} {σ : L2.St} {H : Hp} {s : Shared} {x qual : Str} {st : Stmt} {g : Addr} {fd : FuncData} {N ps : List Str} {k : Nat} {us : List Value} {vs : List V} {Q : VK} {E : XK}
    (F : Fun X.K x qual st g fd) (S : FnScope N ps (defScope st)) (hb : Binds X.K fd ps []) (hr : Room (k + 1) X.A) (I : Inv X pins σ H s) (r : Vals vs us) (hl : vs.length = ps.length)
    (h : ∀ cdv, Room k (X.A.deeper (envOfC qual (defScope st) s.heap.objs.size g cdv)) → ∃ t, PSs (cxOf (L2.CX X.prog X.w) X.prog X.w X.K X.mg X.base N qual (defScope st) g cdv X.A X.stack s H E) (defBody st) t ∧ t { nx := fun _ H' => Q .non H', rt := Q } (start N vs) H) :
    codeAny (model X.prog X.w) X.A (.call (.ref g) ⟨us, []⟩) (CR (L2.CX X.prog X.w) X.stack X.prog X.w H s Q E) s := by
  obtain ⟨oc, od, kV, doc, pm, an, cdv, ct, osl, rfl, lk, hcd⟩ := F.ex
  have kinds : ∀ y ∈ ps.zip us, (defScope st).names.lookup y.1 = some .local ∨ ((defScope st).names.lookup y.1 = some .cell ∧ ((cellsFrom (s.heap.objs.size + 1) (defScope st).names []).lookup y.1).isSome = true) := by
    rintro ⟨n, v⟩ hy
    rcases S.par n (List.of_mem_zip hy).1 with q | q
    · exact Or.inl q
    · exact Or.inr ⟨q, cellsFrom_some _ _ _ (Or.inl q)⟩
  have hbt : BindsTo s (fnOf x qual (defArgs st) (defBody st) (defScope st) .none kV doc pm an cdv ct) ⟨us, []⟩ (ps.zip us) := by
    have z := hb s us I.kIn (by rw [List.append_nil, ← r.length]; exact hl)
    rw [List.append_nil] at z
    exact z
  refine codeAny_call_function hr.depth (I.kIn _ _ lk) rfl S.co S.gen rfl (codeRec_of I.kIn hcd) (hbt _ _ _ _ (wpAny_newFunctionEnv_cells S.kind kinds fun env he s1 hx => ?_))
  subst he
  refine ⟨I.nolimit.keeps hx.toInCall.keep, codeAny_func ?_⟩
  obtain ⟨t, ht, hq⟩ := h cdv (hr.deeper _)
  have J := inv_start (CX := L2.CX X.prog X.w) (E := E) (qual := qual) (f := g) (cd := cdv) S hr.hd I.env0 hl r hx
  refine wpAny_mono (ht.run [] s1 (start N vs) H _ J hq) (fun fl s' hs => ?_) fun e s' hs => hs
  cases fl with
  | ret u =>
    obtain ⟨v, σ', H', J, rv, q⟩ := hs
    exact ⟨v, H', J.os, J.bare, J.base, J.hok, rv, q⟩
  | next =>
    obtain ⟨σ', H', J, q⟩ := hs
    exact ⟨V.non, H', J.os, J.bare, J.base, J.hok, rfl, q⟩
  | brk =>
    obtain ⟨_, _, _, q⟩ := hs
    exact q.elim
  | cont =>
    obtain ⟨_, _, _, q⟩ := hs
    exact q.elim
/-- what a def (st, at g, its one parameter a in slot 0) makes of the closure that it gets: TT, of the closure's reading -/
def GivesG (X : Cx) (Ng : List Str) (x : Str) (st : Stmt) (g : Addr) (a : Str) (TT : (XK → Hp → VK → Prop) → Hp → VK → Prop) : Prop :=
  ∀ (cdg : Value) (f : Addr) (s : Shared) (H : Hp) (Q : VK) (tl : XK → Hp → VK → Prop) (clo : Hp → Prop),
    (∀ (W : WX) (pn : List (Addr × Obj)) (xe : Value → Shared → Prop) (E : XK) (p1 p2 : Pos), Takes ((cxOf (L2.CX X.prog X.w) X.prog X.w X.K X.mg X.base Ng x (defScope st) g cdg X.A X.stack s H XN).tr pn xe) W → (∀ cls d σ' H', E cls d H' → W cls d σ' H') →
      PE ((cxOf (L2.CX X.prog X.w) X.prog X.w X.K X.mg X.base Ng x (defScope st) g cdg X.A X.stack s H XN).tr pn xe) (.Call (.Name a p1) [] [] p2) (fun σZ HZ Q => σZ[0]? = some (some (.ref f)) ∧ clo HZ ∧ tl E HZ Q)) →
    clo H → TT tl H Q →
    ∃ t, PSs (cxOf (L2.CX X.prog X.w) X.prog X.w X.K X.mg X.base Ng x (defScope st) g cdg X.A X.stack s H XN) (defBody st) t ∧ t { nx := fun _ H' => Q .non H', rt := Q } (start Ng [.ref f]) H
section
variable {X : Cx}
def tHeard (X : Cx) (k : Nat) (TT : (XK → Hp → VK → Prop) → Hp → VK → Prop) (te : TE) : TE := fun σ H Q => te σ H fun v H1 =>
  ∃ (f : Addr) (params : Arguments) (body : Expr) (scope : Scope) (tb : XK → TE), v = .ref f ∧ CloB X k body scope tb ∧ IsClo (X.env.qual ++ "<lambda>") params body scope (cloFrom X.env.cells scope.names []) H1 f ∧
    TT (fun E H' Q' => tb E (maskS X.N scope σ) H' Q') H1 Q
theorem pe_heard {x a : Str} {st : Stmt} {g : Addr} {fd : FuncData} {Ng : List Str} {k : Nat} {TT : (XK → Hp → VK → Prop) → Hp → VK → Prop} {e : Expr} {te : TE} {p pos : Pos}
    (hm : X.mg x = some (.ref g)) (F : Fun X.K x x st g fd) (S : FnScope Ng [a] (defScope st)) (hb : Binds X.K fd [a] []) (hN : Ng[0]? = some a) (hv : Vis (defScope st) a) (hG : X.A.guards = some []) (hr : Room (k + 2) X.A)
    (G : GivesG X Ng x st g a TT) (he : PE X e te) (hg : Gl X x := by rfl) (hdb : (x == ("__debug__" : Str)) = false := by decide) (hd : (a == ("__debug__" : Str)) = false := by decide) (hcd : (a == ("__classdict__" : Str)) = false := by decide)
    (hes : starEach (e :: []) X.env = (false, eval e X.env) :: starEach [] X.env := by rfl) (hpl : (backTo pos (starEach [] X.env)).any (·.1) = false := by rfl) :
    PE X (.Call (.Name x p) [e] [] pos) (tHeard X k TT te) := by
  refine ⟨fun pins s σ H Q I h => ?_⟩
  refine wpAny_Call_Name_kw (ld_glob I hg hm ?_ hdb)
  refine callWith_K (h₀ := X.base) I.ok.mod.kin F.kp (thn ((pa_cons he pa_nil hes).run pos pins s σ H (fun vs H1 => match vs with
    | [v] => ∃ (f : Addr) (params : Arguments) (body : Expr) (scope : Scope) (tb : XK → TE), v = .ref f ∧ CloB X k body scope tb ∧ IsClo (X.env.qual ++ "<lambda>") params body scope (cloFrom X.env.cells scope.names []) H1 f ∧
        TT (fun E H' Q' => tb E (maskS X.N scope σ) H' Q') H1 Q
    | _ => False) I h) fun us s1 hh => ?_) hes hpl
  obtain ⟨vs, H1, I1, r1, q1⟩ := hh
  match vs, r1, q1 with
  | [], _, q1 => exact q1.elim
  | _ :: _ :: _, _, q1 => exact q1.elim
  | [v], r1, q1 =>
  obtain ⟨f, params, body, scope, tb, rfl, B, ic, q⟩ := q1
  refine ⟨I1.kIn, ?_⟩
  refine wpAny_call (codeAny_mono (run_body (E := XN) (Q := Q) F S hb hr I1 r1 rfl fun cdv hr' => ?_) fun r s2 hq => ?_)
  · exact G cdv f s1 H1 Q _ _ (fun W pn xe E p1 p2 tk hW => pe_clo I1 B hG tk hW hr' hN hv hd hcd) ic q
  · cases r with
    | error e =>
      obtain ⟨_, _, _, _, _, _, _, _, _, _, _, _, z⟩ := (show L2.CX X.prog X.w X.stack H1 s1 XN e s2 from hq)
      exact z.elim
    | ok fl =>
      cases fl with
      | ret u => exact I1.after hq
      | next => exact False.elim hq
      | brk => exact False.elim hq
      | cont => exact False.elim hq
/-- a lambda made, as a closure -/
def tLam (T : List (Addr × Str)) (q : Str) (params : Arguments) (body : Expr) (scope : Scope) (cl : List (Str × Addr)) : TE := fun _ H Q =>
  Tabs T H ∧ ∀ (H1 : Hp) (f : Addr), ExtN H H1 → Tabs T H1 → H f = none → IsClo q params body scope cl H1 f → Q (.ref f) H1
theorem pe_lam {T : List (Addr × Str)} {c P : Addr} {params : Arguments} {body : Expr} {scope : Scope} {pos : Pos} (TB : TabB X.base X.mg c P) (hcode : X.env.code = .ref c) (hm : (P, X.env.qual ++ "<lambda>") ∈ T)
    (hu : ∀ p ∈ T, p.1 = P → p.2 = X.env.qual ++ "<lambda>") (L : CloS X.env.scope scope)
    (hb : ∀ q cl pm cv ct, bindArgs (cFn q params body scope cl .none pm cv ct) ⟨[], []⟩ = pure []) (hdef : defaultsOf params X.env = ([], []) := by rfl) :
    PE X (.Lambda params body scope pos) (tLam T (X.env.qual ++ "<lambda>") params body scope (cloFrom X.env.cells scope.names [])) := by
  refine ⟨fun pins s σ H Q I h => (pe_lam0 TB hcode hm hu L.free hdef).run pins s σ H Q I ⟨h.1, fun H1 f pm c' ctv e1 t1 n1 a1 a2 => ?_⟩⟩
  exact h.2 H1 f e1 t1 n1 ⟨_, _, _, _, a1, a2, .zero rfl fun pm cv ct => hb _ _ pm cv ct⟩
theorem pe_lamD {T : List (Addr × Str)} {c P : Addr} {params : Arguments} {body : Expr} {scope : Scope} {pos dpos : Pos} {i : Int} {j : Nat} {k : Str} (TB : TabB X.base X.mg c P) (hcode : X.env.code = .ref c) (hm : (P, X.env.qual ++ "<lambda>") ∈ T)
    (hu : ∀ p ∈ T, p.1 = P → p.2 = X.env.qual ++ "<lambda>") (L : CloS X.env.scope scope) (hl : scope.names.lookup k = some .local)
    (hb : ∀ q cl td pm cv ct, ∃ kk, bindArgs (cFn q params body scope cl (.ref td) pm cv ct) ⟨[], []⟩ = (seqItems? (.ref td) >>= kk) ∧ ∀ u, kk (some #[u]) = pure [(k, u)])
    (hdef : defaultsOf params X.env = ([eval (.Constant (.int i) j dpos) X.env], []) := by rfl) (hkw : params.kwonlyargs = [] := by rfl) :
    PE X (.Lambda params body scope pos) (tLam T (X.env.qual ++ "<lambda>") params body scope (cloFrom X.env.cells scope.names [])) := by
  refine ⟨fun pins s σ H Q I h => (pe_lam1 TB hcode hm hu L.free hdef hkw).run pins s σ H Q I ⟨h.1, fun td ntd H1 f pm c' ctv e1 t1 n1 a1 a2 => ?_⟩⟩
  have eN : ExtN H (upd H td (.tup [.int i])) := fun b o e _ => by rw [upd_ne (ne_of_none e ntd)]; exact e
  have nf : H f = none := by
    cases z : H f with
    | none => rfl
    | some o =>
      have w : upd H td (.tup [.int i]) f = H f := upd_ne (ne_of_none z ntd)
      rw [n1, z] at w
      cases w
  refine h.2 H1 f (eN.trans e1) t1 nf ⟨_, _, _, _, a1, a2, .one td (.int i) k rfl (e1 _ _ upd_same (fun ps z => by cases z)) hl fun pm cv ct => hb _ _ td pm cv ct⟩
end
end CR

namespace CR
open PySem PySem.Spec PySem.W PySem.SeqAt PyProof.Rows L2 LamX

/-! ### what stands still -/
def Stable (o : HO) : Prop := (∀ ps, o ≠ .tbl ps) ∧ ∀ kvs, o = .dK kvs → kvs = []
def ExtS (H H' : Hp) : Prop := ∀ b o, H b = some o → Stable o → H' b = some o
theorem ExtS.refl (H : Hp) : ExtS H H := fun _ _ e _ => e
theorem ExtS.trans {A B C : Hp} (h : ExtS A B) (g : ExtS B C) : ExtS A C := fun b o e s => g b o (h b o e s) s
theorem ExtS.of {H H' : Hp} (h : ∀ b o, H b = some o → H' b = some o) : ExtS H H' := fun b o e _ => h b o e
theorem ExtS.upd {H : Hp} {p : Addr} {o : HO} (h : H p = none) : ExtS H (upd H p o) := ExtS.of fun b x e => by rw [upd_ne (ne_of_none e h)]; exact e
variable {K : PySem.W.Frag}
theorem sqL_ext {H H' : Hp} {a : Addr} {xs : List V} (s : SqL K H a xs) (h : ExtS H H') : SqL K H' a xs := by
  rcases s with (s | ⟨o, s⟩) | s
  · exact .inl (.inl (h _ _ s ⟨fun _ z => (by cases z), fun _ z => (by cases z)⟩))
  · exact .inl (.inr ⟨o, h _ _ s ⟨fun _ z => (by cases z), fun _ z => (by cases z)⟩⟩)
  · exact .inr s
theorem sqT_ext {H H' : Hp} {a : Addr} {xs : List V} (s : SqT K H a xs) (h : ExtS H H') : SqT K H' a xs := by
  rcases s with (s | ⟨o, s⟩) | s
  · exact .inl (.inl (h _ _ s ⟨fun _ z => (by cases z), fun _ z => (by cases z)⟩))
  · exact .inl (.inr ⟨o, h _ _ s ⟨fun _ z => (by cases z), fun _ z => (by cases z)⟩⟩)
  · exact .inr s
mutual
theorem Rp.ext {H H' : Hp} (h : ExtS H H') : ∀ (d : PyData) (v : V), Rp K H v d → Rp K H' v d
  | .none, _, r => by cases r; exact .non
  | .bool b, _, r => by cases r; exact .bl b
  | .int b, _, r => by cases r; exact .int b
  | .str b, _, r => by cases r; exact .str b
  | .list ds, _, r => by
    cases r with
    | lst s rs => exact .lst (h _ _ s ⟨fun _ z => (by cases z), fun _ z => (by cases z)⟩) (Rps.ext h ds _ rs)
  | .tuple ds, _, r => by
    cases r with
    | tup s rs => exact .tup (sqT_ext s h) (Rps.ext h ds _ rs)
  | .dict _, _, r => by
    cases r with
    | emp e => exact .emp (h _ _ e ⟨fun _ z => (by cases z), fun _ z => (by cases z; rfl)⟩)
theorem Rps.ext {H H' : Hp} (h : ExtS H H') : ∀ (ds : List PyData) (vs : List V), Rps K H vs ds → Rps K H' vs ds
  | [], _, r => by cases r; exact .nil
  | d :: ds, _, r => by
    cases r with
    | cons a b => exact .cons (Rp.ext h d _ a) (Rps.ext h ds _ b)
end
theorem Rps.length {H : Hp} : ∀ {vs : List V} {ds : List PyData}, Rps K H vs ds → vs.length = ds.length
  | _, _, .nil => rfl
  | _, _, .cons _ r => by rw [List.length_cons, List.length_cons, r.length]
theorem Rps.get {H : Hp} : ∀ {vs : List V} {ds : List PyData} {i : Nat} {d : PyData}, Rps K H vs ds → ds[i]? = some d → ∃ v, vs[i]? = some v ∧ Rp K H v d
  | _, _, _, _, .nil, h => by simp at h
  | _, _, 0, d, .cons (v := v) a r, h => ⟨v, rfl, by have e := Option.some.inj h; subst e; exact a⟩
  | _, _, i + 1, d, .cons a r, h => r.get (i := i) h
theorem Rps.append {H : Hp} : ∀ {vs ws : List V} {ds es : List PyData}, Rps K H vs ds → Rps K H ws es → Rps K H (vs ++ ws) (ds ++ es)
  | _, _, _, _, .nil, h => h
  | _, _, _, _, .cons a r, h => .cons a (r.append h)

/-! ### what is known of a slot -/
structure Stb where
  φ : V → Hp → Prop
  mono : ∀ v H H', ExtS H H' → φ v H → φ v H'
inductive Sl
  | d (x : PyData)
  | is (v : V)
  | st (p : Stb)
  | sts (ps : List Stb)
abbrev Sl.int (i : Int) : Sl := .d (.int i)
abbrev Sl.bl (b : Bool) : Sl := .d (.bool b)
inductive Al (H : Hp) : List Stb → List V → Prop
  | nil : Al H [] []
  | cons {p : Stb} {ps : List Stb} {v : V} {vs : List V} : p.φ v H → Al H ps vs → Al H (p :: ps) (v :: vs)
theorem Al.ext {H H' : Hp} (h : ExtS H H') : ∀ {ps : List Stb} {vs : List V}, Al H ps vs → Al H' ps vs
  | _, _, .nil => .nil
  | _, _, .cons (p := p) a r => .cons (p.mono _ _ _ h a) (r.ext h)
theorem Al.length {H : Hp} : ∀ {ps : List Stb} {vs : List V}, Al H ps vs → vs.length = ps.length
  | _, _, .nil => rfl
  | _, _, .cons a r => by rw [List.length_cons, List.length_cons, r.length]
theorem Al.get {H : Hp} : ∀ {ps : List Stb} {vs : List V} {i : Nat} {v : V}, Al H ps vs → vs[i]? = some v → ∃ p, ps[i]? = some p ∧ p.φ v H
  | _, _, _, _, .nil, h => by simp at h
  | _, _, 0, d, .cons (p := p) a r, h => ⟨p, rfl, by have e := Option.some.inj h; subst e; exact a⟩
  | _, _, i + 1, d, .cons a r, h => r.get (i := i) h
theorem Al.append {H : Hp} : ∀ {ps qs : List Stb} {vs ws : List V}, Al H ps vs → Al H qs ws → Al H (ps ++ qs) (vs ++ ws)
  | _, _, _, _, .nil, h => h
  | _, _, _, _, .cons a r, h => .cons a (r.append h)
def Sl.rel (K : PySem.W.Frag) : Sl → V → Hp → Prop
  | .d x, v, H => Rp K H v x
  | .is u, v, _ => v = u
  | .st p, v, H => p.φ v H
  | .sts ps, v, H => ∃ a xs, v = .ref a ∧ H a = some (.lst xs) ∧ Al H ps xs
theorem Sl.ext {H H' : Hp} (h : ExtS H H') : ∀ {x : Sl} {v : V}, x.rel K v H → x.rel K v H'
  | .d x, _, r => Rp.ext h x _ r
  | .is _, _, r => r
  | .st p, _, r => p.mono _ _ _ h r
  | .sts ps, _, ⟨a, xs, e, s, l⟩ => ⟨a, xs, e, h _ _ s ⟨fun _ z => (by cases z), fun _ z => (by cases z)⟩, l.ext h⟩
inductive Rels (K : PySem.W.Frag) (H : Hp) : List V → List Sl → Prop
  | nil : Rels K H [] []
  | cons {v : V} {vs : List V} {x : Sl} {xs : List Sl} : x.rel K v H → Rels K H vs xs → Rels K H (v :: vs) (x :: xs)
theorem Rels.ext {H H' : Hp} (h : ExtS H H') : ∀ {vs : List V} {xs : List Sl}, Rels K H vs xs → Rels K H' vs xs
  | _, _, .nil => .nil
  | _, _, .cons a r => .cons (Sl.ext h a) (r.ext h)
theorem Rels.length {H : Hp} : ∀ {vs : List V} {xs : List Sl}, Rels K H vs xs → vs.length = xs.length
  | _, _, .nil => rfl
  | _, _, .cons a r => by rw [List.length_cons, List.length_cons, r.length]
theorem Rels.rps {H : Hp} : ∀ {vs : List V} {ds : List PyData}, Rels K H vs (ds.map Sl.d) → Rps K H vs ds
  | _, [], .nil => .nil
  | _, d :: ds, .cons a r => .cons a (Rels.rps r)

/-- slots -/
abbrev Rho := List (Option Sl)
def RS (K : PySem.W.Frag) (H : Hp) (σ : L2.St) (ρ : Rho) : Prop := σ.length = ρ.length ∧ ∀ (i : Nat) (x : Sl), ρ[i]? = some (some x) → ∃ v, σ[i]? = some (some v) ∧ x.rel K v H
theorem RS.ext {H H' : Hp} {σ : L2.St} {ρ : Rho} (r : RS K H σ ρ) (h : ExtS H H') : RS K H' σ ρ := ⟨r.1, fun i x e => let ⟨v, e1, e2⟩ := r.2 i x e; ⟨v, e1, Sl.ext h e2⟩⟩
theorem RS.set {H : Hp} {σ : L2.St} {ρ : Rho} {i : Nat} {v : V} {x : Sl} (r : RS K H σ ρ) (h : x.rel K v H) : RS K H (σ.set i (some v)) (ρ.set i (some x)) := by
  refine ⟨by rw [List.length_set, List.length_set]; exact r.1, fun j y e => ?_⟩
  rw [List.getElem?_set] at e ⊢
  split
  · rename_i q
    rw [if_pos q, ← r.1] at e
    split
    · rename_i q2
      rw [if_pos q2] at e
      cases e
      exact ⟨v, rfl, h⟩
    · rename_i q2
      rw [if_neg q2] at e
      cases e
  · rename_i q
    rw [if_neg q] at e
    exact r.2 j y e
theorem RS.none {H : Hp} {σ : L2.St} {ρ : Rho} {i : Nat} (r : RS K H σ ρ) : RS K H σ (ρ.set i none) := by
  refine ⟨by rw [List.length_set]; exact r.1, fun j y e => ?_⟩
  rw [List.getElem?_set] at e
  split at e
  · split at e <;> cases e
  · exact r.2 j y e
def rho0 (N : List Str) (xs : List Sl) : Rho := xs.map some ++ List.replicate (N.length - xs.length) none
theorem RS.start {H : Hp} {N : List Str} {vs : List V} {xs : List Sl} (r : Rels K H vs xs) : RS K H (L2.start N vs) (rho0 N xs) := by
  have hl := r.length
  refine ⟨by simp [L2.start, rho0, hl], fun i x e => ?_⟩
  unfold rho0 at e
  unfold L2.start
  by_cases hi : i < xs.length
  · rw [List.getElem?_append_left (by simpa using hi), List.getElem?_map] at e
    rw [List.getElem?_append_left (by simpa [hl] using hi), List.getElem?_map]
    clear hl
    induction r generalizing i with
    | nil => simp at hi
    | cons a r ih =>
      cases i with
      | zero =>
        simp at e
        subst e
        exact ⟨_, rfl, a⟩
      | succ i =>
        exact ih i (by simpa using e) (by simpa using hi)
  · rw [List.getElem?_append_right (by simpa using hi), List.getElem?_replicate] at e
    split at e <;> cases e

/-! ### the world: tables of code objects, the drawing dict -/
def Ms (K : PySem.W.Frag) (m : Addr) (b : Nat) (H : Hp) : Prop := ∃ (L S spot : Int) (c : Addr) (cs : List Int),
  H m = some (.dK [(.inr "left", .int L), (.inr "seed", .int S), (.inr "cells", .ref c), (.inr "spot", .int spot)]) ∧ SqL K H c (cs.map V.int) ∧ cs ≠ [] ∧ 0 ≤ L ∧ 0 ≤ S ∧ S < 2 ^ 31 ∧ 0 ≤ spot ∧ spot ≤ b
/-! ### the heap, and the part of it that the reading tells of -/
structure HG where
  H : Hp
  G : Hp
  sub : ∀ b o, G b = some o → H b = some o
  hid : ∀ b o, H b = some o → G b = none → (∃ xs, o = .lst xs) ∨ ∃ kvs, o = .dK kvs
structure Ex2 (A B : HG) : Prop where
  ext : ExtS A.G B.G
  keep : ∀ b o, A.H b = some o → A.G b = none → B.H b = some o ∧ B.G b = none
theorem Ex2.refl (A : HG) : Ex2 A A := ⟨ExtS.refl _, fun _ _ h g => ⟨h, g⟩⟩
theorem Ex2.trans {A B C : HG} (h : Ex2 A B) (g : Ex2 B C) : Ex2 A C := ⟨h.ext.trans g.ext, fun b o x y => let ⟨z1, z2⟩ := h.keep b o x y; g.keep b o z1 z2⟩
theorem HG.none {A : HG} {b : Addr} (h : A.H b = none) : A.G b = none := by
  cases e : A.G b with
  | none => rfl
  | some o =>
    rw [A.sub b o e] at h
    cases h
def HG.upd (A : HG) (p : Addr) (o : HO) : HG := ⟨L2.upd A.H p o, L2.upd A.G p o, fun b x e => by
  by_cases q : b = p
  · subst q
    rw [upd_same] at e ⊢
    exact e
  · rw [upd_ne q] at e ⊢
    exact A.sub b x e, fun b x e g => by
  by_cases q : b = p
  · subst q
    rw [upd_same] at g
    cases g
  · rw [upd_ne q] at e g
    exact A.hid b x e g⟩
theorem Ex2.upd {A : HG} {p : Addr} {o : HO} (h : A.H p = none) : Ex2 A (A.upd p o) := ⟨ExtS.upd (HG.none h), fun b x e g => by
  have q : b ≠ p := ne_of_none e h
  exact ⟨(upd_ne q).trans e, (upd_ne q).trans g⟩⟩
abbrev Bd := Option (Addr × Nat)
structure Wd where
  T : List (Addr × Str)
  a : Option Addr
  H0 : HG
  Er : Value → Option (Str × PyData) → Bd → Prop
def Fr (T : List (Addr × Str)) (a : Option Addr) (H H' : Hp) : Prop := ∀ b o, H b = some o → (T ≠ [] → ∀ ps, o ≠ .tbl ps) → a ≠ some b → H' b = some o
/-- a place that the frame does not speak of -/
def Fresh (T : List (Addr × Str)) (G : Hp) (m : Addr) : Prop := ∀ o, G m = some o → T ≠ [] ∧ ∃ ps, o = .tbl ps
def AA (K : PySem.W.Frag) (T : List (Addr × Str)) (b : Bd) (H : Hp) : Prop := Tabs T H ∧ ∀ m n, b = some (m, n) → Ms K m n H
theorem Fr.refl (T : List (Addr × Str)) (a : Option Addr) (H : Hp) : Fr T a H H := fun _ _ e _ _ => e
theorem Fr.trans {T : List (Addr × Str)} {a : Option Addr} {A B C : Hp} (h : Fr T a A B) (g : Fr T a B C) : Fr T a A C := fun b o e t n => g b o (h b o e t n) t n
theorem Fr.of {T : List (Addr × Str)} {a : Option Addr} {H H' : Hp} (h : ∀ b o, H b = some o → H' b = some o) : Fr T a H H' := fun b o e _ _ => h b o e
theorem AA.notab {T : List (Addr × Str)} {b : Bd} {H : Hp} (h : AA K T b H) {c : Addr} {o : HO} (e : H c = some o) (n : ∀ ps, o ≠ .tbl ps) : ∀ q ∈ T, q.1 ≠ c := fun q hq z => by
  obtain ⟨ps, h1, _⟩ := h.1 q hq
  rw [z, e] at h1
  exact n ps (Option.some.inj h1)
theorem AA.nom {T : List (Addr × Str)} {b : Bd} {H : Hp} (h : AA K T b H) {c : Addr} {o : HO} (e : H c = some o) (n : Stable o) : b.map (·.1) ≠ some c := fun z => by
  cases b with
  | none => cases z
  | some q =>
    cases z
    obtain ⟨_, _, _, _, _, h1, _⟩ := h.2 _ _ rfl
    rw [e] at h1
    have := n.2 _ (Option.some.inj h1)
    cases this
theorem Ms.of {m : Addr} {b : Nat} {H H' : Hp} (h : Ms K m b H) (e : ExtS H H') (em : ∀ o, H m = some o → H' m = some o) : Ms K m b H' := by
  obtain ⟨L, S, spot, c, cs, h1, h2, r⟩ := h
  exact ⟨L, S, spot, c, cs, em _ h1, sqL_ext h2 e, r⟩
theorem Ms.le {m : Addr} {b b' : Nat} {H : Hp} (h : Ms K m b H) (e : b ≤ b') : Ms K m b' H := by
  obtain ⟨L, S, spot, c, cs, h1, h2, h3, h4, h5, h6, h7, h8⟩ := h
  exact ⟨L, S, spot, c, cs, h1, h2, h3, h4, h5, h6, h7, by omega⟩
theorem AA.same {T : List (Addr × Str)} {b : Bd} {H H' : Hp} (h : AA K T b H) (e : ∀ b o, H b = some o → H' b = some o) : AA K T b H' := ⟨h.1.ext e, fun m n hm => (h.2 m n hm).of (ExtS.of e) (e m)⟩
theorem codeO_stable {c : Addr} {q : Str} : Stable (CodeO c q) := ⟨fun ps => codeO_ne ps, fun kvs z => by unfold CodeO at z; cases z⟩
def Ok (K : PySem.W.Frag) (w : Wd) (b : Bd) (H : HG) : Prop := Fr w.T w.a w.H0.G H.G ∧ Ex2 w.H0 H ∧ AA K w.T b H.G ∧ ∀ m n, b = some (m, n) → w.a = some m ∨ Fresh w.T w.H0.G m
/-- behind a callee that knows less -/
theorem Ok.back {w : Wd} {T' : List (Addr × Str)} {b b' r : Bd} {H H' : HG} (o : Ok K w b H) (f : Fr T' (b'.map (·.1)) H.G H'.G) (x : Ex2 H H') (h' : AA K T' r H'.G) (hn : ∀ m n, r = some (m, n) → b'.map (·.1) = some m ∨ Fresh T' H.G m) (hT : T' = [] ∨ T' = w.T) (hb : b' = none ∨ b' = b) :
    Ok K w (match r with | some q => some q | none => match b' with | none => b | some _ => none) H' := by
  obtain ⟨o1, o2, o3, o4⟩ := o
  have up : ∀ {u : HO}, (w.T ≠ [] → ∀ ps, u ≠ .tbl ps) → T' ≠ [] → ∀ ps, u ≠ .tbl ps := fun t z => by
    rcases hT with rfl | rfl
    · exact absurd rfl z
    · exact t z
  refine ⟨fun c u e t n => ?_, o2.trans x, ⟨?_, ?_⟩, ?_⟩
  · refine f c u (o1 c u e t n) (up t) fun z => ?_
    · rcases hb with rfl | rfl
      · cases z
      · cases b' with
        | none => cases z
        | some q =>
          cases z
          rcases o4 _ _ rfl with k | k
          · exact n k
          · obtain ⟨k1, ps, k2⟩ := k u e
            exact t k1 ps k2
  · rcases hT with rfl | rfl
    · intro q hq
      obtain ⟨ps, h1, h2, h3⟩ := o3.1 q hq
      have k1 : H'.G q.1 = some (.tbl ps) := f _ _ h1 (fun z => absurd rfl z) (fun z => by
        rcases hb with rfl | rfl
        · cases z
        · cases b' with
          | none => cases z
          | some p =>
            have e : p.1 = q.1 := Option.some.inj z
            obtain ⟨_, _, _, _, _, g1, _⟩ := o3.2 p.1 p.2 rfl
            rw [e, h1] at g1
            cases g1)
      exact ⟨ps, k1, h2, fun pos cv hc => let ⟨c, e1, e2⟩ := h3 pos cv hc; ⟨c, e1, x.ext _ _ e2 codeO_stable⟩⟩
    · exact h'.1
  · intro m n hm
    cases r with
    | some q =>
      cases hm
      exact h'.2 _ _ rfl
    | none =>
      cases b' with
      | some _ => cases hm
      | none =>
        have hm : b = some (m, n) := hm
        refine (o3.2 m n hm).of x.ext fun u e => ?_
        obtain ⟨_, _, _, _, _, g1, _⟩ := o3.2 m n hm
        refine f _ _ e (fun _ ps z => ?_) (fun z => by cases z)
        rw [e] at g1
        rw [Option.some.inj g1] at z
        cases z
  · intro m n hm
    cases r with
    | some q =>
      cases hm
      by_cases z : w.a = some m
      · exact .inl z
      · refine .inr fun u e => ?_
        by_cases t : w.T ≠ [] → ∀ ps, u ≠ .tbl ps
        · have k1 := o1 _ _ e t z
          exfalso
          rcases hn _ _ rfl with k | k
          · rcases hb with rfl | rfl
            · cases k
            · cases b' with
              | none => cases k
              | some p =>
                have e2 : p.1 = m := Option.some.inj k
                rcases o4 _ _ rfl with k3 | k3
                · rw [e2] at k3
                  exact z k3
                · rw [e2] at k3
                  obtain ⟨k4, ps, k5⟩ := k3 u e
                  exact t k4 ps k5
          · obtain ⟨k4, ps, k5⟩ := k u k1
            exact up t k4 ps k5
        · refine Classical.byContradiction fun hn => t fun h1 ps h2 => hn ⟨h1, ps, h2⟩
    | none =>
      cases b' with
      | some _ => cases hm
      | none => exact o4 m n hm
theorem Ok.upd2 {w : Wd} {b : Bd} {A : HG} {p : Addr} {o : HO} (h : Ok K w b A) (e : A.H p = none) : Ok K w b (A.upd p o) := by
  have k : ∀ c x, A.G c = some x → (A.upd p o).G c = some x := fun c x q => (upd_ne (ne_of_none q (HG.none e))).trans q
  exact ⟨h.1.trans (Fr.of k), h.2.1.trans (Ex2.upd e), h.2.2.1.same k, h.2.2.2⟩
theorem HG.sql {A : HG} {a : Addr} {xs : List V} (h : SqL K A.G a xs) : SqL K A.H a xs := by
  rcases h with (s | ⟨o, s⟩) | s
  · exact .inl (.inl (A.sub _ _ s))
  · exact .inl (.inr ⟨o, A.sub _ _ s⟩)
  · exact .inr s
theorem HG.sqt {A : HG} {a : Addr} {xs : List V} (h : SqT K A.G a xs) : SqT K A.H a xs := by
  rcases h with (s | ⟨o, s⟩) | s
  · exact .inl (.inl (A.sub _ _ s))
  · exact .inl (.inr ⟨o, A.sub _ _ s⟩)
  · exact .inr s
theorem HG.rp {A : HG} {v : V} {d : PyData} (h : Rp K A.G v d) : Rp K A.H v d := Rp.ext (ExtS.of A.sub) d v h
theorem HG.up {A : HG} {p : Addr} {o : HO} : (A.upd p o).G p = some o := upd_same
end CR

namespace CR
open PySem PySem.Spec PySem.W PySem.SeqAt PyProof.Rows L2 LamX

/-! ### what an expression gives, told of data -/
def sE (X : Cx) (e : Expr) : TE := fun σ H Q => ∀ pins s, Inv X pins σ H s → wpAny (model X.prog X.w) X.A (eval e X.env) (EP X pins σ Q) X.xe s
def sT (X : Cx) (e : Expr) : TT := fun σ H Q => ∀ pins s, Inv X pins σ H s → wpAny (model X.prog X.w) X.A (isTrue e X.env (eval e X.env)) (TP X pins σ Q) X.xe s
def sA (X : Cx) (es : List Expr) : TA := fun σ H Q => ∀ pos pins s, Inv X pins σ H s → wpAny (model X.prog X.w) X.A (spliced (backTo pos (starEach es X.env))) (AP X pins σ Q) X.xe s
def sS (X : Cx) (st : Stmt) : TS := fun D σ H => ∀ pins s, Inv X pins σ H s → wpAny (model X.prog X.w) X.A (exec st X.env) (SP X pins D) X.xe s
def sB (X : Cx) (st : List Stmt) : TS := fun D σ H => ∀ pins s, Inv X pins σ H s → wpAny (model X.prog X.w) X.A (execs st X.env) (SP X pins D) X.xe s
variable {X : Cx} {w : Wd} {ρ : Rho} {b : Bd} {e e1 e2 : Expr} {es : List Expr} {st : Stmt} {sts : List Stmt} {pos : Pos}
theorem pE : PE X e (sE X e) := ⟨fun pins s σ H Q I h => h pins s I⟩
theorem pT : PT X e (sT X e) := ⟨fun pins s σ H Q I h => h pins s I⟩
theorem pA : PA X es (sA X es) := ⟨fun pos pins s σ H Q I h => h pos pins s I⟩
theorem pS : PS X st (sS X st) := ⟨fun pins s σ H Q I h => h pins s I⟩
theorem pB : PSs X sts (sB X sts) := ⟨fun pins s σ H Q I h => h pins s I⟩

structure JE (X : Cx) (w : Wd) (ρ : Rho) (b : Bd) (e : Expr) (Φ : Sl → Bd → Prop) : Prop where
  run : ∀ (σ : L2.St) (H : HG) (Q : VK), RS X.K H.G σ ρ → Ok X.K w b H → (∀ v x b' (H' : HG), Ex2 H H' → Ok X.K w b' H' → Sl.rel X.K x v H'.G → Φ x b' → Q v H'.H) → sE X e σ H.H Q
instance {X : Cx} {w : Wd} {ρ : Rho} {b : Bd} {e : Expr} {Φ : Sl → Bd → Prop} : CoeFun (JE X w ρ b e Φ) fun _ => ∀ (σ : L2.St) (H : HG) (Q : VK), RS X.K H.G σ ρ → Ok X.K w b H → (∀ v x b' (H' : HG), Ex2 H H' → Ok X.K w b' H' → Sl.rel X.K x v H'.G → Φ x b' → Q v H'.H) → sE X e σ H.H Q := ⟨JE.run⟩
structure JT (X : Cx) (w : Wd) (ρ : Rho) (b : Bd) (e : Expr) (Φ : Bool → Bd → Prop) : Prop where
  run : ∀ (σ : L2.St) (H : HG) (Q : Bool → Hp → Prop), RS X.K H.G σ ρ → Ok X.K w b H → (∀ c b' (H' : HG), Ex2 H H' → Ok X.K w b' H' → Φ c b' → Q c H'.H) → sT X e σ H.H Q
instance {X : Cx} {w : Wd} {ρ : Rho} {b : Bd} {e : Expr} {Φ : Bool → Bd → Prop} : CoeFun (JT X w ρ b e Φ) fun _ => ∀ (σ : L2.St) (H : HG) (Q : Bool → Hp → Prop), RS X.K H.G σ ρ → Ok X.K w b H → (∀ c b' (H' : HG), Ex2 H H' → Ok X.K w b' H' → Φ c b' → Q c H'.H) → sT X e σ H.H Q := ⟨JT.run⟩
structure JA (X : Cx) (w : Wd) (ρ : Rho) (b : Bd) (es : List Expr) (Φ : List Sl → Bd → Prop) : Prop where
  run : ∀ (σ : L2.St) (H : HG) (Q : List V → Hp → Prop), RS X.K H.G σ ρ → Ok X.K w b H → (∀ vs xs b' (H' : HG), Ex2 H H' → Ok X.K w b' H' → Rels X.K H'.G vs xs → Φ xs b' → Q vs H'.H) → sA X es σ H.H Q
instance {X : Cx} {w : Wd} {ρ : Rho} {b : Bd} {es : List Expr} {Φ : List Sl → Bd → Prop} : CoeFun (JA X w ρ b es Φ) fun _ => ∀ (σ : L2.St) (H : HG) (Q : List V → Hp → Prop), RS X.K H.G σ ρ → Ok X.K w b H → (∀ vs xs b' (H' : HG), Ex2 H H' → Ok X.K w b' H' → Rels X.K H'.G vs xs → Φ xs b' → Q vs H'.H) → sA X es σ H.H Q := ⟨JA.run⟩
theorem je_of {te : TE} {Φ : Sl → Bd → Prop} (h : PE X e te) (k : ∀ σ (H : HG) Q, RS X.K H.G σ ρ → Ok X.K w b H → (∀ v x b' (H' : HG), Ex2 H H' → Ok X.K w b' H' → Sl.rel X.K x v H'.G → Φ x b' → Q v H'.H) → te σ H.H Q) : JE X w ρ b e Φ :=
  ⟨fun σ H Q r o c pins s I => h.run pins s σ H.H Q I (k σ H Q r o c)⟩
theorem jt_of {te : TT} {Φ : Bool → Bd → Prop} (h : PT X e te) (k : ∀ σ (H : HG) Q, RS X.K H.G σ ρ → Ok X.K w b H → (∀ c b' (H' : HG), Ex2 H H' → Ok X.K w b' H' → Φ c b' → Q c H'.H) → te σ H.H Q) : JT X w ρ b e Φ :=
  ⟨fun σ H Q r o c pins s I => h.run pins s σ H.H Q I (k σ H Q r o c)⟩
theorem ja_of {te : TA} {Φ : List Sl → Bd → Prop} (h : PA X es te) (k : ∀ σ (H : HG) Q, RS X.K H.G σ ρ → Ok X.K w b H → (∀ vs xs b' (H' : HG), Ex2 H H' → Ok X.K w b' H' → Rels X.K H'.G vs xs → Φ xs b' → Q vs H'.H) → te σ H.H Q) : JA X w ρ b es Φ :=
  ⟨fun σ H Q r o c pos pins s I => h.run pos pins s σ H.H Q I (k σ H Q r o c)⟩
theorem JE.mono {Φ Ψ : Sl → Bd → Prop} (h : JE X w ρ b e Φ) (k : ∀ x b', Φ x b' → Ψ x b') : JE X w ρ b e Ψ := ⟨fun σ H Q r o c => h σ H Q r o fun v x b' H' a1 a2 a3 a4 => c v x b' H' a1 a2 a3 (k x b' a4)⟩

/-! ### names, constants -/
theorem je_var {n : Str} {x : Sl} {Φ : Sl → Bd → Prop} (i : Nat) (hN : X.N[i]? = some n) (hv : Vis X.env.scope n) (hρ : ρ[i]? = some (some x)) (h : Φ x b) (hd : (n == ("__debug__" : Str)) = false := by decide) (hcd : (n == ("__classdict__" : Str)) = false := by decide) : JE X w ρ b (.Name n pos) Φ :=
  je_of (pe_var hN hv hd hcd) fun σ H Q r o c => let ⟨v, e1, e2⟩ := r.2 i x hρ; ⟨v, e1, c v x b H (Ex2.refl H) o e2 h⟩
theorem je_int {i : Int} {j : Nat} {Φ : Sl → Bd → Prop} (h : Φ (.int i) b) : JE X w ρ b (.Constant (.int i) j pos) Φ := je_of pe_int fun σ H Q r o c => c _ (.int i) b H (Ex2.refl H) o (.int i) h
theorem je_bl {i : Bool} {j : Nat} {Φ : Sl → Bd → Prop} (h : Φ (.bl i) b) : JE X w ρ b (.Constant (.bool i) j pos) Φ := je_of pe_bl fun σ H Q r o c => c _ (.bl i) b H (Ex2.refl H) o (.bl i) h
theorem je_str {i : Str} {j : Nat} {Φ : Sl → Bd → Prop} (h : Φ (.d (.str i)) b) : JE X w ρ b (.Constant (.str i) j pos) Φ := je_of pe_str fun σ H Q r o c => c _ (.d (.str i)) b H (Ex2.refl H) o (.str i) h
theorem je_non {j : Nat} {Φ : Sl → Bd → Prop} (h : Φ (.d .none) b) : JE X w ρ b (.Constant .none j pos) Φ := je_of pe_non fun σ H Q r o c => c _ (.d .none) b H (Ex2.refl H) o .non h
theorem je_glob {n : Str} {x : Sl} {v : V} {u : Value} {Φ : Sl → Bd → Prop} (hm : X.mg n = some u) (hr : RelV v u) (hx : ∀ H, x.rel X.K v H) (h : Φ x b) (hg : Gl X n := by rfl) (hd : (n == ("__debug__" : Str)) = false := by decide) : JE X w ρ b (.Name n pos) Φ :=
  je_of (pe_glob hg hm hr hd) fun σ H Q r o c => c v x b H (Ex2.refl H) o (hx H.G) h
theorem je_ty {n : Str} {T : String} {Φ : Sl → Bd → Prop} (hm : X.mg n = none) (hv : bootBuiltins n = some (.type T)) (h : Φ (.is (.ty T)) b) (hg : Gl X n := by rfl) (hn : n ≠ "__name__" := by decide) (hd : (n == ("__debug__" : Str)) = false := by decide) : JE X w ρ b (.Name n pos) Φ :=
  je_of (pe_bltn (v := .ty T) hg hm hv rfl hn hd) fun σ H Q r o c => c (.ty T) (.is (.ty T)) b H (Ex2.refl H) o rfl h

/-! ### operations -/
def OpD (X : Cx) (w : Wd) (r : R2) (x y : Sl) (b : Bd) (Φ : Sl → Bd → Prop) : Prop :=
  ∀ v u (H : HG) (Q : VK), Ok X.K w b H → x.rel X.K v H.G → y.rel X.K u H.G → (∀ t z b' (H' : HG), Ex2 H H' → Ok X.K w b' H' → Sl.rel X.K z t H'.G → Φ z b' → Q t H'.H) → r v u H.H Q
theorem je_bin {r : R2} {Φ : Sl → Bd → Prop} {ex : Expr} (hp : PE X ex (tOp r (sE X e1) (sE X e2))) (h : JE X w ρ b e1 fun x b1 => JE X w ρ b1 e2 fun y b2 => OpD X w r x y b2 Φ) : JE X w ρ b ex Φ :=
  je_of hp fun σ H Q rs o c => h σ H _ rs o fun v x b1 H1 a1 a2 a3 a4 => a4 σ H1 _ (rs.ext a1.ext) a2 fun u y b2 H2 c1 c2 c3 c4 =>
    c4 v u H2 Q c2 (Sl.ext c1.ext a3) c3 fun t z b' H' d1 d2 d3 d4 => c t z b' H' (a1.trans (c1.trans d1)) d2 d3 d4
theorem je_op {op : Operator} {r : R2} {Φ : Sl → Bd → Prop} (ho : OpR X (binaryOp op) r) (h : JE X w ρ b e1 fun x b1 => JE X w ρ b1 e2 fun y b2 => OpD X w r x y b2 Φ) : JE X w ρ b (.BinOp e1 op e2 pos) Φ := je_bin (pe_op ho pE pE) h
theorem je_cmp {op : CmpOp} {r : R2} {Φ : Sl → Bd → Prop} (ho : OpR X (compareOp op) r) (hm : behindInMarks op e2 = false) (h : JE X w ρ b e1 fun x b1 => JE X w ρ b1 e2 fun y b2 => OpD X w r x y b2 Φ) : JE X w ρ b (.Compare e1 [op] [e2] pos) Φ := je_bin (pe_cmpR ho pE pE hm) h
theorem opd_I0 {g : Int → Int → V} {z : Sl} {i j : Int} {Φ : Sl → Bd → Prop} (hz : ∀ H, z.rel X.K (g i j) H) (h : Φ z b) : OpD X w (rI0 g) (.int i) (.int j) b Φ := fun v u H Q o r1 r2 c => by
  cases r1
  cases r2
  exact ⟨i, j, rfl, rfl, c _ z b H (Ex2.refl H) o (hz H.G) h⟩
theorem opd_I {C : Int → Int → Prop} {g : Int → Int → V} {z : Sl} {i j : Int} {Φ : Sl → Bd → Prop} (hC : C i j) (hz : ∀ H, z.rel X.K (g i j) H) (h : Φ z b) : OpD X w (rI C g) (.int i) (.int j) b Φ := fun v u H Q o r1 r2 c => by
  cases r1
  cases r2
  exact ⟨i, j, rfl, rfl, hC, c _ z b H (Ex2.refl H) o (hz H.G) h⟩
/-- two ints -/
abbrev II (X : Cx) (w : Wd) (ρ : Rho) (b : Bd) (e1 e2 : Expr) (k : Int → Int → Bd → Prop) : Prop := JE X w ρ b e1 fun x b1 => ∃ i, x = .int i ∧ JE X w ρ b1 e2 fun y b2 => ∃ j, y = .int j ∧ k i j b2
theorem II.op {r : R2} {Φ : Sl → Bd → Prop} {k : Int → Int → Bd → Prop} (h : II X w ρ b e1 e2 k) (f : ∀ i j b2, k i j b2 → OpD X w r (.int i) (.int j) b2 Φ) : JE X w ρ b e1 fun x b1 => JE X w ρ b1 e2 fun y b2 => OpD X w r x y b2 Φ :=
  h.mono fun x b1 ⟨i, e, q⟩ => q.mono fun y b2 ⟨j, e', q'⟩ => by
    subst e
    subst e'
    exact f i j b2 q'
section
variable {Φ : Sl → Bd → Prop}
theorem je_add (h : II X w ρ b e1 e2 fun i j b2 => Φ (.int (i + j)) b2) : JE X w ρ b (.BinOp e1 .Add e2 pos) Φ := je_op op_add (h.op fun i j b2 q => opd_I0 (z := .int (i + j)) (fun _ => .int _) q)
theorem je_sub (h : II X w ρ b e1 e2 fun i j b2 => Φ (.int (i - j)) b2) : JE X w ρ b (.BinOp e1 .Sub e2 pos) Φ := je_op op_sub (h.op fun i j b2 q => opd_I0 (z := .int (i - j)) (fun _ => .int _) q)
theorem je_mul (h : II X w ρ b e1 e2 fun i j b2 => CMul i j ∧ Φ (.int (i * j)) b2) : JE X w ρ b (.BinOp e1 .Mult e2 pos) Φ := je_op op_mul (h.op fun i j b2 q => opd_I (z := .int (i * j)) q.1 (fun _ => .int _) q.2)
theorem je_mulW (h : II X w ρ b e1 e2 fun i j b2 => CMulW i j ∧ Φ (.int (i * j)) b2) : JE X w ρ b (.BinOp e1 .Mult e2 pos) Φ := je_op op_mulW (h.op fun i j b2 q => opd_I (z := .int (i * j)) q.1 (fun _ => .int _) q.2)
theorem je_mod (h : II X w ρ b e1 e2 fun i j b2 => 0 < j ∧ Φ (.int (i % j)) b2) : JE X w ρ b (.BinOp e1 .Mod e2 pos) Φ := je_op op_mod (h.op fun i j b2 q => opd_I (z := .int (i % j)) q.1 (fun _ => .int _) q.2)
theorem je_modN (h : II X w ρ b e1 e2 fun i j b2 => j ≠ 0 ∧ Φ (.int (i.fmod j)) b2) : JE X w ρ b (.BinOp e1 .Mod e2 pos) Φ := je_op op_modN (h.op fun i j b2 q => opd_I (z := .int (i.fmod j)) q.1 (fun _ => .int _) q.2)
theorem je_pow (h : II X w ρ b e1 e2 fun i j b2 => CPow i j ∧ Φ (.int (i ^ j.toNat)) b2) : JE X w ρ b (.BinOp e1 .Pow e2 pos) Φ := je_op op_pow (h.op fun i j b2 q => opd_I (z := .int (i ^ j.toNat)) q.1 (fun _ => .int _) q.2)
/-- // by any divisor but nought, below 2 ^ 9000 -/
theorem op_fdivA : OpR X (binaryOp .FloorDiv) (rI (fun _ j => j ≠ 0 ∧ j.natAbs.log2 < 9000) fun i j => .int (i.fdiv j)) := opI fun i j _ _ _ _ _ hc q => floordiv_int hc.1 q (.inl (PyProof.noPylong_of_log2 hc.2))
theorem je_fdiv (h : II X w ρ b e1 e2 fun i j b2 => (j ≠ 0 ∧ j.natAbs.log2 < 9000) ∧ Φ (.int (i.fdiv j)) b2) : JE X w ρ b (.BinOp e1 .FloorDiv e2 pos) Φ := je_op op_fdivA (h.op fun i j b2 q => opd_I (z := .int (i.fdiv j)) q.1 (fun _ => .int _) q.2)
theorem je_lt (h : II X w ρ b e1 e2 fun i j b2 => Φ (.bl (decide (i < j))) b2) : JE X w ρ b (.Compare e1 [.Lt] [e2] pos) Φ := je_cmp op_lt (nomark _) (h.op fun i j b2 q => opd_I0 (z := .bl (decide (i < j))) (fun _ => .bl _) q)
theorem je_le (h : II X w ρ b e1 e2 fun i j b2 => Φ (.bl (decide (i ≤ j))) b2) : JE X w ρ b (.Compare e1 [.LtE] [e2] pos) Φ := je_cmp op_le (nomark _) (h.op fun i j b2 q => opd_I0 (z := .bl (decide (i ≤ j))) (fun _ => .bl _) q)
theorem je_gt (h : II X w ρ b e1 e2 fun i j b2 => Φ (.bl (decide (j < i))) b2) : JE X w ρ b (.Compare e1 [.Gt] [e2] pos) Φ := je_cmp op_gt (nomark _) (h.op fun i j b2 q => opd_I0 (z := .bl (decide (j < i))) (fun _ => .bl _) q)
theorem je_ge (h : II X w ρ b e1 e2 fun i j b2 => Φ (.bl (decide (j ≤ i))) b2) : JE X w ρ b (.Compare e1 [.GtE] [e2] pos) Φ := je_cmp op_ge (nomark _) (h.op fun i j b2 q => opd_I0 (z := .bl (decide (j ≤ i))) (fun _ => .bl _) q)
theorem dec_V {i j : Int} : decide (V.int i = V.int j) = decide (i = j) := by
  rw [Bool.eq_iff_iff]
  simp
theorem je_eq (h : II X w ρ b e1 e2 fun i j b2 => Φ (.bl (decide (i = j))) b2) : JE X w ρ b (.Compare e1 [.Eq] [e2] pos) Φ := je_cmp op_eq (nomark _) (h.op fun i j b2 q v u H Q o r1 r2 c => by
  cases r1
  cases r2
  exact ⟨rfl, by rw [dec_V]; exact c _ (.bl (decide (i = j))) b2 H (Ex2.refl H) o (.bl _) q⟩)
theorem je_ne (h : II X w ρ b e1 e2 fun i j b2 => Φ (.bl (!decide (i = j))) b2) : JE X w ρ b (.Compare e1 [.NotEq] [e2] pos) Φ := je_cmp op_ne (nomark _) (h.op fun i j b2 q v u H Q o r1 r2 c => by
  cases r1
  cases r2
  exact ⟨rfl, by rw [dec_V]; exact c _ (.bl (!decide (i = j))) b2 H (Ex2.refl H) o (.bl _) q⟩)
/-- bool - bool -/
theorem je_subB (op_sub_bb : OpR X (binaryOp .Sub) fun x y H Q => ∃ i j, x = .bl i ∧ y = .bl j ∧ Q (.int ((if i then 1 else 0) - (if j then 1 else 0))) H) (h : JE X w ρ b e1 fun x b1 => ∃ i, x = .bl i ∧ JE X w ρ b1 e2 fun y b2 => ∃ j, y = .bl j ∧ Φ (.int ((if i then 1 else 0) - (if j then 1 else 0))) b2) : JE X w ρ b (.BinOp e1 .Sub e2 pos) Φ :=
  je_op op_sub_bb (h.mono fun x b1 ⟨i, e, q⟩ => q.mono fun y b2 ⟨j, e', q'⟩ => by
    subst e
    subst e'
    intro v u H Q o r1 r2 c
    cases r1
    cases r2
    exact ⟨i, j, rfl, rfl, c _ (.int _) b2 H (Ex2.refl H) o (.int _) q'⟩)
theorem je_neg (h : JE X w ρ b e fun x b1 => ∃ i, x = .int i ∧ Φ (.int (-i)) b1) : JE X w ρ b (.UnaryOp .USub e pos) Φ :=
  je_of (pe_un un_neg pE) fun σ H Q rs o c => h σ H _ rs o fun v x b1 H1 a1 a2 a3 ⟨i, e, q⟩ => by
    subst e
    cases a3
    exact ⟨i, rfl, c _ (.int (-i)) b1 H1 a1 a2 (.int _) q⟩
theorem je_same (hu : X.A.units + 64 < cLine) (h : JE X w ρ b e1 fun x b1 => JE X w ρ b1 e2 fun y b2 => ∃ k d, Good k d ∧ k ≤ 60 ∧ x = .d d ∧ y = .d d ∧ Φ (.bl true) b2) : JE X w ρ b (.Compare e1 [.Eq] [e2] pos) Φ :=
  je_cmp (op_same hu) (nomark _) (h.mono fun x b1 q => q.mono fun y b2 ⟨k, d, g, hk, e, e', q3⟩ v u H Q o r1 r2 c => by
    subst e
    subst e'
    exact ⟨k, d, g, hk, HG.rp r1, HG.rp r2, c _ (.bl true) b2 H (Ex2.refl H) o (.bl true) q3⟩)
/-- a <= b <= c -/
theorem je_chain {op op' : CmpOp} {g g' : Int → Int → Bool} {e3 : Expr} (ho : OpR X (compareOp op) (rI0 fun i j => .bl (g i j))) (ho' : OpR X (compareOp op') (rI0 fun i j => .bl (g' i j)))
    (h : JE X w ρ b e1 fun x b1 => ∃ i, x = .int i ∧ JE X w ρ b1 e2 fun y b2 => ∃ j, y = .int j ∧ (g i j = true → JE X w ρ b2 e3 fun z b3 => ∃ k, z = .int k ∧ Φ (.bl (g' j k)) b3) ∧ (g i j = false → Φ (.bl false) b2))
    (hm : lastMarks [op, op'] [e2, e3] = false := by with_unfolding_all rfl) : JE X w ρ b (.Compare e1 [op, op'] [e2, e3] pos) Φ :=
  je_of (pe_chain ho ho' pE pE pE hm) fun σ H Q rs o c => h σ H _ rs o fun v x b1 H1 a1 a2 a3 ⟨i, e, q⟩ => q σ H1 _ (rs.ext a1.ext) a2 fun u y b2 H2 c1 c2 c3 ⟨j, e', q'⟩ => by
    subst e
    subst e'
    cases a3
    cases c3
    refine ⟨i, j, rfl, rfl, _, rfl, ?_⟩
    cases z : g i j with
    | true =>
      rw [if_pos rfl]
      refine q'.1 z σ H2 _ (rs.ext (a1.trans c1).ext) c2 fun t x3 b3 H3 d1 d2 d3 ⟨k, e3, q3⟩ => ?_
      subst e3
      cases d3
      exact ⟨j, k, rfl, rfl, c _ (.bl _) b3 H3 (a1.trans (c1.trans d1)) d2 (.bl _) q3⟩
    | false =>
      rw [if_neg Bool.false_ne_true]
      exact c _ (.bl false) b2 H2 (a1.trans c1) c2 (.bl _) (q'.2 z)
/-! ### and, or, not, a if t else b -/
theorem je_one {op : BoolOp} (h : JE X w ρ b e Φ) : JE X w ρ b (.BoolOp op [e] pos) Φ := je_of (pe_one pE) fun σ H Q rs o c => h σ H Q rs o c
theorem je_and {rest : List Expr} (h : JE X w ρ b e1 fun x b1 => ∃ c, x = .bl c ∧ (c = true → JE X w ρ b1 (.BoolOp .And (e2 :: rest) pos) Φ) ∧ (c = false → Φ (.bl false) b1)) : JE X w ρ b (.BoolOp .And (e1 :: e2 :: rest) pos) Φ :=
  je_of (pe_and pE pE) fun σ H Q rs o c => h σ H _ rs o fun v x b1 H1 a1 a2 a3 ⟨k, e, q⟩ => by
    subst e
    cases a3
    refine ⟨k, rfl, ?_⟩
    cases k with
    | true => exact q.1 rfl σ H1 Q (rs.ext a1.ext) a2 fun v x b' H' d1 d2 d3 d4 => c v x b' H' (a1.trans d1) d2 d3 d4
    | false => exact c _ (.bl false) b1 H1 a1 a2 (.bl _) (q.2 rfl)
theorem je_or {rest : List Expr} (h : JE X w ρ b e1 fun x b1 => ∃ c, x = .bl c ∧ (c = false → JE X w ρ b1 (.BoolOp .Or (e2 :: rest) pos) Φ) ∧ (c = true → Φ (.bl true) b1)) : JE X w ρ b (.BoolOp .Or (e1 :: e2 :: rest) pos) Φ :=
  je_of (pe_or pE pE) fun σ H Q rs o c => h σ H _ rs o fun v x b1 H1 a1 a2 a3 ⟨k, e, q⟩ => by
    subst e
    cases a3
    refine ⟨k, rfl, ?_⟩
    cases k with
    | false => exact q.1 rfl σ H1 Q (rs.ext a1.ext) a2 fun v x b' H' d1 d2 d3 d4 => c v x b' H' (a1.trans d1) d2 d3 d4
    | true => exact c _ (.bl true) b1 H1 a1 a2 (.bl _) (q.2 rfl)
theorem je_not (h : JE X w ρ b e fun x b1 => ∃ c, x = .bl c ∧ Φ (.bl (!c)) b1) : JE X w ρ b (.UnaryOp .Not e pos) Φ :=
  je_of (L2.pe_not pE) fun σ H Q rs o c => h σ H _ rs o fun v x b1 H1 a1 a2 a3 ⟨k, e, q⟩ => by
    subst e
    cases a3
    exact ⟨k, rfl, c _ (.bl (!k)) b1 H1 a1 a2 (.bl _) q⟩
theorem je_ifExp {t : Expr} (h : JT X w ρ b t fun k b1 => (k = true → JE X w ρ b1 e1 Φ) ∧ (k = false → JE X w ρ b1 e2 Φ)) : JE X w ρ b (.IfExp t e1 e2 pos) Φ :=
  je_of (pe_ifExp pT pE pE) fun σ H Q rs o c => h σ H _ rs o fun k b1 H1 a1 a2 q => by
    cases k with
    | true =>
      rw [if_pos rfl]
      exact q.1 rfl σ H1 Q (rs.ext a1.ext) a2 fun v x b' H' d1 d2 d3 d4 => c v x b' H' (a1.trans d1) d2 d3 d4
    | false =>
      rw [if_neg Bool.false_ne_true]
      exact q.2 rfl σ H1 Q (rs.ext a1.ext) a2 fun v x b' H' d1 d2 d3 d4 => c v x b' H' (a1.trans d1) d2 d3 d4
end
/-! ### tests -/
section
variable {Φ : Bool → Bd → Prop}
abbrev Bo (Φ : Bool → Bd → Prop) : Sl → Bd → Prop := fun x b => ∃ c, x = .bl c ∧ Φ c b
theorem jt_bin {r : R2} {ex : Expr} (hp : PT X ex (tTest (tOp r (sE X e1) (sE X e2)))) (h : JE X w ρ b e1 fun x b1 => JE X w ρ b1 e2 fun y b2 => OpD X w r x y b2 (Bo Φ)) : JT X w ρ b ex Φ :=
  jt_of hp fun σ H Q rs o c => h σ H _ rs o fun v x b1 H1 a1 a2 a3 a4 => a4 σ H1 _ (rs.ext a1.ext) a2 fun u y b2 H2 c1 c2 c3 c4 =>
    c4 v u H2 _ c2 (Sl.ext c1.ext a3) c3 fun t z b' H' d1 d2 d3 ⟨k, e, q⟩ => by
      subst e
      cases d3
      exact ⟨k, rfl, c k b' H' (a1.trans (c1.trans d1)) d2 q⟩
theorem jt_cmp {op : CmpOp} {r : R2} (ho : OpR X (compareOp op) r) (hm : behindInMarks op e2 = false) (h : JE X w ρ b e1 fun x b1 => JE X w ρ b1 e2 fun y b2 => OpD X w r x y b2 (Bo Φ)) : JT X w ρ b (.Compare e1 [op] [e2] pos) Φ := jt_bin (pt_cmpR ho pE pE hm) h
theorem jt_lt (h : II X w ρ b e1 e2 fun i j b2 => Φ (decide (i < j)) b2) : JT X w ρ b (.Compare e1 [.Lt] [e2] pos) Φ := jt_cmp op_lt (nomark _) (h.op fun i j b2 q => opd_I0 (z := .bl (decide (i < j))) (fun _ => .bl _) ⟨_, rfl, q⟩)
theorem jt_le (h : II X w ρ b e1 e2 fun i j b2 => Φ (decide (i ≤ j)) b2) : JT X w ρ b (.Compare e1 [.LtE] [e2] pos) Φ := jt_cmp op_le (nomark _) (h.op fun i j b2 q => opd_I0 (z := .bl (decide (i ≤ j))) (fun _ => .bl _) ⟨_, rfl, q⟩)
theorem jt_gt (h : II X w ρ b e1 e2 fun i j b2 => Φ (decide (j < i)) b2) : JT X w ρ b (.Compare e1 [.Gt] [e2] pos) Φ := jt_cmp op_gt (nomark _) (h.op fun i j b2 q => opd_I0 (z := .bl (decide (j < i))) (fun _ => .bl _) ⟨_, rfl, q⟩)
theorem jt_ge (h : II X w ρ b e1 e2 fun i j b2 => Φ (decide (j ≤ i)) b2) : JT X w ρ b (.Compare e1 [.GtE] [e2] pos) Φ := jt_cmp op_ge (nomark _) (h.op fun i j b2 q => opd_I0 (z := .bl (decide (j ≤ i))) (fun _ => .bl _) ⟨_, rfl, q⟩)
theorem jt_eq (h : II X w ρ b e1 e2 fun i j b2 => Φ (decide (i = j)) b2) : JT X w ρ b (.Compare e1 [.Eq] [e2] pos) Φ := jt_cmp op_eq (nomark _) (h.op fun i j b2 q v u H Q o r1 r2 c => by
  cases r1
  cases r2
  exact ⟨rfl, by rw [dec_V]; exact c _ (.bl (decide (i = j))) b2 H (Ex2.refl H) o (.bl _) ⟨_, rfl, q⟩⟩)
theorem jt_ne (h : II X w ρ b e1 e2 fun i j b2 => Φ (!decide (i = j)) b2) : JT X w ρ b (.Compare e1 [.NotEq] [e2] pos) Φ := jt_cmp op_ne (nomark _) (h.op fun i j b2 q v u H Q o r1 r2 c => by
  cases r1
  cases r2
  exact ⟨rfl, by rw [dec_V]; exact c _ (.bl (!decide (i = j))) b2 H (Ex2.refl H) o (.bl _) ⟨_, rfl, q⟩⟩)
theorem jt_chain {op op' : CmpOp} {g g' : Int → Int → Bool} {e3 : Expr} (ho : OpR X (compareOp op) (rI0 fun i j => .bl (g i j))) (ho' : OpR X (compareOp op') (rI0 fun i j => .bl (g' i j)))
    (h : JE X w ρ b e1 fun x b1 => ∃ i, x = .int i ∧ JE X w ρ b1 e2 fun y b2 => ∃ j, y = .int j ∧ (g i j = true → JE X w ρ b2 e3 fun z b3 => ∃ k, z = .int k ∧ Φ (g' j k) b3) ∧ (g i j = false → Φ false b2))
    (hm : lastMarks [op, op'] [e2, e3] = false := by with_unfolding_all rfl) : JT X w ρ b (.Compare e1 [op, op'] [e2, e3] pos) Φ :=
  jt_of (pt_chain ho ho' pE pE pE hm) fun σ H Q rs o c => h σ H _ rs o fun v x b1 H1 a1 a2 a3 ⟨i, e, q⟩ => q σ H1 _ (rs.ext a1.ext) a2 fun u y b2 H2 c1 c2 c3 ⟨j, e', q'⟩ => by
    subst e
    subst e'
    cases a3
    cases c3
    refine ⟨i, j, rfl, rfl, _, rfl, ?_⟩
    cases z : g i j with
    | true =>
      rw [if_pos rfl]
      refine q'.1 z σ H2 _ (rs.ext (a1.trans c1).ext) c2 fun t x3 b3 H3 d1 d2 d3 ⟨k, e3, q3⟩ => ?_
      subst e3
      cases d3
      exact ⟨j, k, rfl, rfl, _, rfl, c _ b3 H3 (a1.trans (c1.trans d1)) d2 q3⟩
    | false =>
      rw [if_neg Bool.false_ne_true]
      exact ⟨_, rfl, c false b2 H2 (a1.trans c1) c2 (q'.2 z)⟩
def sW (X : Cx) (e : Expr) : TT := fun σ H Q => ∀ whole pins s, Inv X pins σ H s → wpAny (model X.prog X.w) X.A (isTrue e X.env whole) (TP X pins σ Q) X.xe s
theorem pW : PW X e (sW X e) := ⟨fun wh pins s σ H Q I h => h wh pins s I⟩
/-- a row of and, or, as a test -/
structure JW (X : Cx) (w : Wd) (ρ : Rho) (b : Bd) (e : Expr) (Φ : Bool → Bd → Prop) : Prop where
  run : ∀ (σ : L2.St) (H : HG) (Q : Bool → Hp → Prop), RS X.K H.G σ ρ → Ok X.K w b H → (∀ c b' (H' : HG), Ex2 H H' → Ok X.K w b' H' → Φ c b' → Q c H'.H) → sW X e σ H.H Q
instance {X : Cx} {w : Wd} {ρ : Rho} {b : Bd} {e : Expr} {Φ : Bool → Bd → Prop} : CoeFun (JW X w ρ b e Φ) fun _ => ∀ (σ : L2.St) (H : HG) (Q : Bool → Hp → Prop), RS X.K H.G σ ρ → Ok X.K w b H → (∀ c b' (H' : HG), Ex2 H H' → Ok X.K w b' H' → Φ c b' → Q c H'.H) → sW X e σ H.H Q := ⟨JW.run⟩
theorem jw_of {te : TT} (h : PW X e te) (k : ∀ σ (H : HG) Q, RS X.K H.G σ ρ → Ok X.K w b H → (∀ c b' (H' : HG), Ex2 H H' → Ok X.K w b' H' → Φ c b' → Q c H'.H) → te σ H.H Q) : JW X w ρ b e Φ :=
  ⟨fun σ H Q r o c wh pins s I => h.run wh pins s σ H.H Q I (k σ H Q r o c)⟩
theorem jt_w (h : JW X w ρ b e Φ) : JT X w ρ b e Φ := jt_of pW.pt fun σ H Q rs o c => h σ H Q rs o c
theorem jw_and1 (h : JT X w ρ b e Φ) : JW X w ρ b (.BoolOp .And [e] pos) Φ := jw_of (pw_and1 pT) fun σ H Q rs o c => h σ H Q rs o c
theorem jw_or1 (h : JT X w ρ b e Φ) : JW X w ρ b (.BoolOp .Or [e] pos) Φ := jw_of (pw_or1 pT) fun σ H Q rs o c => h σ H Q rs o c
theorem jw_and {rest : List Expr} (h : JT X w ρ b e1 fun c b1 => (c = true → JW X w ρ b1 (.BoolOp .And (e2 :: rest) pos) Φ) ∧ (c = false → Φ false b1)) : JW X w ρ b (.BoolOp .And (e1 :: e2 :: rest) pos) Φ :=
  jw_of (pw_and pT pW) fun σ H Q rs o c => h σ H _ rs o fun k b1 H1 a1 a2 q => by
    cases k with
    | true => exact q.1 rfl σ H1 Q (rs.ext a1.ext) a2 fun k b' H' d1 d2 d3 => c k b' H' (a1.trans d1) d2 d3
    | false => exact c false b1 H1 a1 a2 (q.2 rfl)
theorem jw_or {rest : List Expr} (h : JT X w ρ b e1 fun c b1 => (c = false → JW X w ρ b1 (.BoolOp .Or (e2 :: rest) pos) Φ) ∧ (c = true → Φ true b1)) : JW X w ρ b (.BoolOp .Or (e1 :: e2 :: rest) pos) Φ :=
  jw_of (pw_or pT pW) fun σ H Q rs o c => h σ H _ rs o fun k b1 H1 a1 a2 q => by
    cases k with
    | false => exact q.1 rfl σ H1 Q (rs.ext a1.ext) a2 fun k b' H' d1 d2 d3 => c k b' H' (a1.trans d1) d2 d3
    | true => exact c true b1 H1 a1 a2 (q.2 rfl)
theorem jt_val (h : JE X w ρ b e fun x b1 => ∃ c, x = .bl c ∧ Φ c b1) (he : ∀ whole, isTrue e X.env whole = (do let v ← whole; standAt e.pos; holding [v] (truthy v)) := by intro _; rfl) : JT X w ρ b e Φ :=
  jt_of (pt_val pE he) fun σ H Q rs o c => h σ H _ rs o fun v x b1 H1 a1 a2 a3 ⟨k, e, q⟩ => by
    subst e
    cases a3
    exact ⟨k, rfl, c k b1 H1 a1 a2 q⟩
theorem jt_not (h : JT X w ρ b e fun k b1 => Φ (!k) b1) : JT X w ρ b (.UnaryOp .Not e pos) Φ := jt_of (L2.pt_not pT) fun σ H Q rs o c => h σ H _ rs o fun k b1 H1 a1 a2 q => c (!k) b1 H1 a1 a2 q
end
end CR

namespace CR
open PySem PySem.Spec PySem.W PySem.SeqAt PyProof.Rows L2 LamX
theorem gives_sub_bb (a b : Bool) : Gives (Builtin.«int.__sub__» ⟨[.bool a, .bool b], []⟩) (.int ((if a = true then (1 : Int) else 0) - (if b = true then (1 : Int) else 0))) :=
  .of_wp fun M A E s Q h => by obtain ⟨hp, g, d, tk, os⟩ := s; wp_walk; exact ⟨_, rfl, h⟩
variable {X : Cx} {w : Wd} {ρ : Rho} {b : Bd} {e e1 e2 : Expr} {es : List Expr} {st : Stmt} {sts : List Stmt} {pos : Pos}
theorem op_sub_bb : OpR X (binaryOp .Sub) fun x y H Q => ∃ i j, x = .bl i ∧ y = .bl j ∧ Q (.int ((if i then 1 else 0) - (if j then 1 else 0))) H := by
  intro pins s σ H x y v u Q I rx ry h
  obtain ⟨i, j, rfl, rfl, q⟩ := h
  cases rx
  cases ry
  exact binaryOp_gives (op := .Sub) (show s.TypeIs (.bool i) "bool" from rfl) (show s.TypeIs (.bool j) "bool" from rfl) F.fills_bool_sub F.slot_bool_sub F.entry_int_sub (F.args_int_sub_2 _ _) (gives_sub_bb i j) trivial ⟨.int _, H, I.tok _, ⟨_, rfl⟩, q⟩
section
variable {Φ : Sl → Bd → Prop}
theorem je_subBB (h : JE X w ρ b e1 fun x b1 => ∃ i, x = .bl i ∧ JE X w ρ b1 e2 fun y b2 => ∃ j, y = .bl j ∧ Φ (.int ((if i then 1 else 0) - (if j then 1 else 0))) b2) : JE X w ρ b (.BinOp e1 .Sub e2 pos) Φ := je_subB op_sub_bb h

/-! ### argument lists, displays -/
theorem ja_nil {Φ : List Sl → Bd → Prop} (h : Φ [] b) : JA X w ρ b [] Φ := ja_of pa_nil fun σ H Q rs o c => c [] [] b H (Ex2.refl H) o .nil h
theorem ja_cons {Φ : List Sl → Bd → Prop} (h : JE X w ρ b e fun x b1 => JA X w ρ b1 es fun xs b2 => Φ (x :: xs) b2) (hs : starEach (e :: es) X.env = (false, eval e X.env) :: starEach es X.env := by rfl) : JA X w ρ b (e :: es) Φ :=
  ja_of (pa_cons pE pA hs) fun σ H Q rs o c => h σ H _ rs o fun v x b1 H1 a1 a2 a3 a4 => a4 σ H1 _ (rs.ext a1.ext) a2 fun vs xs b2 H2 c1 c2 c3 c4 =>
    c (v :: vs) (x :: xs) b2 H2 (a1.trans c1) c2 (.cons (Sl.ext c1.ext a3) c3) c4
theorem JA.mono {Φ Ψ : List Sl → Bd → Prop} (h : JA X w ρ b es Φ) (k : ∀ x b', Φ x b' → Ψ x b') : JA X w ρ b es Ψ := ⟨fun σ H Q r o c => h σ H Q r o fun v x b' H' a1 a2 a3 a4 => c v x b' H' a1 a2 a3 (k x b' a4)⟩
theorem je_tup {k : Nat} (h : JA X w ρ b es fun xs b1 => ∃ ds : List PyData, xs = ds.map Sl.d ∧ ds.length ≤ sizeLine ∧ Φ (.d (.tuple ds)) b1) : JE X w ρ b (.Tuple es k pos) Φ :=
  je_of (pe_tup pA) fun σ H Q rs o c => h σ H _ rs o fun vs xs b1 H1 a1 a2 a3 ⟨ds, e, hl, q⟩ => by
    subst e
    have r := a3.rps
    refine ⟨by rw [r.length]; exact hl, fun p hp => c _ (.d (.tuple ds)) b1 (H1.upd p _) (a1.trans (Ex2.upd hp)) (a2.upd2 hp) ?_ q⟩
    exact .tup (.of upd_same) (Rps.ext (ExtS.upd (HG.none hp)) _ _ r)
theorem je_lst (h : JA X w ρ b es fun xs b1 => ∃ ds : List PyData, xs = ds.map Sl.d ∧ ds.length ≤ sizeLine ∧ Φ (.d (.list ds)) b1) : JE X w ρ b (.List es pos) Φ :=
  je_of (pe_lst pA) fun σ H Q rs o c => h σ H _ rs o fun vs xs b1 H1 a1 a2 a3 ⟨ds, e, hl, q⟩ => by
    subst e
    have r := a3.rps
    refine ⟨by rw [r.length]; exact hl, fun p hp => c _ (.d (.list ds)) b1 (H1.upd p _) (a1.trans (Ex2.upd hp)) (a2.upd2 hp) ?_ q⟩
    exact .lst upd_same (Rps.ext (ExtS.upd (HG.none hp)) _ _ r)
theorem Rels.al {K : PySem.W.Frag} {H : Hp} : ∀ {vs : List V} {ps : List Stb}, Rels K H vs (ps.map Sl.st) → Al H ps vs
  | _, [], .nil => .nil
  | _, p :: ps, .cons a r => .cons a (Rels.al r)
theorem je_lstS (h : JA X w ρ b es fun xs b1 => ∃ ps : List Stb, xs = ps.map Sl.st ∧ ps.length ≤ sizeLine ∧ Φ (.sts ps) b1) : JE X w ρ b (.List es pos) Φ :=
  je_of (pe_lst pA) fun σ H Q rs o c => h σ H _ rs o fun vs xs b1 H1 a1 a2 a3 ⟨ps, e, hl, q⟩ => by
    subst e
    have r := a3.al
    refine ⟨by rw [r.length]; exact hl, fun p hp => c _ (.sts ps) b1 (H1.upd p _) (a1.trans (Ex2.upd hp)) (a2.upd2 hp) ?_ q⟩
    exact ⟨p, vs, rfl, upd_same, r.ext (ExtS.upd (HG.none hp))⟩
/-! ### list + list, list * int -/

theorem je_cat (h : JE X w ρ b e1 fun x b1 => ∃ xs, x = .d (.list xs) ∧ JE X w ρ b1 e2 fun y b2 => ∃ ys, y = .d (.list ys) ∧ xs.length + ys.length ≤ sizeLine ∧ Φ (.d (.list (xs ++ ys))) b2) : JE X w ρ b (.BinOp e1 .Add e2 pos) Φ :=
  je_op op_cat (h.mono fun x b1 ⟨xs, e, q⟩ => q.mono fun y b2 ⟨ys, e', hz, q'⟩ => by
    subst e
    subst e'
    intro v u H Q o r1 r2 c
    cases r1 with
    | lst s1 t1 =>
    cases r2 with
    | lst s2 t2 =>
    refine ⟨_, _, _, _, rfl, rfl, H.sub _ _ s1, H.sub _ _ s2, by rw [t1.length, t2.length]; exact hz, fun p hp => c _ (.d (.list (xs ++ ys))) b2 (H.upd p _) (Ex2.upd hp) (o.upd2 hp) ?_ q'⟩
    exact .lst upd_same (Rps.ext (ExtS.upd (HG.none hp)) _ _ (t1.append t2)))
theorem je_catS (h : JE X w ρ b e1 fun x b1 => ∃ xs, x = .sts xs ∧ JE X w ρ b1 e2 fun y b2 => ∃ ys, y = .sts ys ∧ xs.length + ys.length ≤ sizeLine ∧ Φ (.sts (xs ++ ys)) b2) : JE X w ρ b (.BinOp e1 .Add e2 pos) Φ :=
  je_op op_cat (h.mono fun x b1 ⟨xs, e, q⟩ => q.mono fun y b2 ⟨ys, e', hz, q'⟩ => by
    subst e
    subst e'
    intro v u H Q o r1 r2 c
    obtain ⟨a1, z1, rfl, s1, t1⟩ := r1
    obtain ⟨a2, z2, rfl, s2, t2⟩ := r2
    refine ⟨_, _, _, _, rfl, rfl, H.sub _ _ s1, H.sub _ _ s2, by rw [t1.length, t2.length]; exact hz, fun p hp => c _ (.sts (xs ++ ys)) b2 (H.upd p _) (Ex2.upd hp) (o.upd2 hp) ?_ q'⟩
    exact ⟨p, _, rfl, upd_same, (t1.append t2).ext (ExtS.upd (HG.none hp))⟩)
theorem rps_flat {K : PySem.W.Frag} {H : Hp} {vs : List V} {ds : List PyData} (r : Rps K H vs ds) : ∀ n : Nat, Rps K H (List.replicate n vs).flatten (List.replicate n ds).flatten
  | 0 => .nil
  | n + 1 => by
    rw [List.replicate_succ, List.replicate_succ, List.flatten_cons, List.flatten_cons]
    exact r.append (rps_flat r n)
theorem je_rep (h : JE X w ρ b e1 fun x b1 => ∃ xs, x = .d (.list xs) ∧ JE X w ρ b1 e2 fun y b2 => ∃ k : Int, y = .int k ∧ 0 ≤ k ∧ k < 10000 ∧ xs.length ≤ 100 ∧ Φ (.d (.list (List.replicate k.toNat xs).flatten)) b2) : JE X w ρ b (.BinOp e1 .Mult e2 pos) Φ :=
  je_op op_rep (h.mono fun x b1 ⟨xs, e, q⟩ => q.mono fun y b2 ⟨k, e', h0, h1, h2, q'⟩ => by
    subst e
    subst e'
    intro v u H Q o r1 r2 c
    cases r2
    cases r1 with
    | lst s1 t1 =>
    have hl := t1.length
    refine ⟨_, _, _, rfl, rfl, H.sub _ _ s1, by omega, by omega, ?_, fun p hp => c _ (.d (.list (List.replicate k.toNat xs).flatten)) b2 (H.upd p _) (Ex2.upd hp) (o.upd2 hp) ?_ q'⟩
    · refine Nat.le_trans (Nat.mul_le_mul (hl ▸ h2) (show k.toNat ≤ 10000 by omega)) ?_
      decide
    · exact .lst upd_same (Rps.ext (ExtS.upd (HG.none hp)) _ _ (rps_flat t1 _)))
/-! ### subscripts, len -/
theorem je_ixT {i : Nat} {j : Nat} {pc : Pos} (h : JE X w ρ b e fun x b1 => ∃ ds d, x = .d (.tuple ds) ∧ ds[i]? = some d ∧ Φ (.d d) b1) : JE X w ρ b (.Subscript e (.Constant (.int (Int.ofNat i)) j pc) pos) Φ :=
  je_bin (pe_ix ix_tup pE pE (fun _ _ => rfl)) (h.mono fun x b1 ⟨ds, d, ex, hd, q⟩ => je_int (by
    subst ex
    intro v u H Q o r1 r2 c
    cases r2
    cases r1 with
    | tup s1 t1 =>
    obtain ⟨v, e1, e2⟩ := t1.get hd
    exact ⟨_, _, _, v, rfl, rfl, HG.sqt s1, atI_nat e1, c v (.d d) b1 H (Ex2.refl H) o e2 q⟩))
theorem je_ixL {e2 : Expr} (h : JE X w ρ b e fun x b1 => ∃ ds, x = .d (.list ds) ∧ JE X w ρ b1 e2 fun y b2 => ∃ (k : Int) (d : PyData), y = .int k ∧ 0 ≤ k ∧ ds[k.toNat]? = some d ∧ Φ (.d d) b2) (hs : PlainIx e2) : JE X w ρ b (.Subscript e e2 pos) Φ :=
  je_bin (pe_ix ix_list pE pE hs) (h.mono fun x b1 ⟨ds, ex, q⟩ => q.mono fun y b2 ⟨k, d, ey, hk, hd, q⟩ => by
    subst ex
    subst ey
    intro v u H Q o r1 r2 c
    cases r2
    cases r1 with
    | lst s1 t1 =>
    obtain ⟨v, e1, e2⟩ := t1.get hd
    have z := atI_nat e1
    rw [Int.toNat_of_nonneg hk] at z
    exact ⟨_, _, _, v, rfl, rfl, .of (H.sub _ _ s1), z, c v (.d d) b2 H (Ex2.refl H) o e2 q⟩)
theorem je_callB {id : String} {r : List V → Hp → VK → Prop} {n : Str} {p : Pos} (hc : CallR X (.builtin id) r) (hm : X.mg n = none) (hv : bootBuiltins n = some (.builtin id))
    (h : JA X w ρ b (e :: es) fun xs b1 => ∀ vs (H : HG) (Q : VK), Ok X.K w b1 H → Rels X.K H.G vs xs → (∀ t z b' (H' : HG), Ex2 H H' → Ok X.K w b' H' → Sl.rel X.K z t H'.G → Φ z b' → Q t H'.H) → r vs H.H Q)
    (hg : Gl X n := by rfl) (hn : n ≠ "__name__" := by decide) (hdb : (n == ("__debug__" : Str)) = false := by decide)
    (he : starEach (e :: es) X.env = (false, eval e X.env) :: starEach es X.env := by rfl) (hpl : (backTo pos (starEach es X.env)).any (·.1) = false := by rfl) : JE X w ρ b (.Call (.Name n p) (e :: es) [] pos) Φ :=
  je_of (pe_callB hc hg hm hv pA hn hdb he hpl) fun σ H Q rs o c => h σ H _ rs o fun vs xs b1 H1 a1 a2 a3 a4 => a4 vs H1 Q a2 a3 fun t z b' H' d1 d2 d3 d4 => c t z b' H' (a1.trans d1) d2 d3 d4
theorem je_callTy {T : String} {r : List V → Hp → VK → Prop} {n : Str} {p : Pos} (hc : CallR X (.type T) r) (hm : X.mg n = none) (hv : bootBuiltins n = some (.type T))
    (h : JA X w ρ b (e :: es) fun xs b1 => ∀ vs (H : HG) (Q : VK), Ok X.K w b1 H → Rels X.K H.G vs xs → (∀ t z b' (H' : HG), Ex2 H H' → Ok X.K w b' H' → Sl.rel X.K z t H'.G → Φ z b' → Q t H'.H) → r vs H.H Q)
    (hg : Gl X n := by rfl) (hn : n ≠ "__name__" := by decide) (hdb : (n == ("__debug__" : Str)) = false := by decide)
    (he : starEach (e :: es) X.env = (false, eval e X.env) :: starEach es X.env := by rfl) (hpl : (backTo pos (starEach es X.env)).any (·.1) = false := by rfl) : JE X w ρ b (.Call (.Name n p) (e :: es) [] pos) Φ :=
  je_of (pe_callTy hc hg hm hv pA hn hdb he hpl) fun σ H Q rs o c => h σ H _ rs o fun vs xs b1 H1 a1 a2 a3 a4 => a4 vs H1 Q a2 a3 fun t z b' H' d1 d2 d3 d4 => c t z b' H' (a1.trans d1) d2 d3 d4
end
section
variable {Φ : Sl → Bd → Prop} {p : Pos}
theorem ja_one {Ψ : List Sl → Bd → Prop} (h : JE X w ρ b e fun x b1 => Ψ [x] b1) (hs : starEach [e] X.env = (false, eval e X.env) :: starEach [] X.env := by rfl) : JA X w ρ b [e] Ψ := ja_cons (h.mono fun x b1 q => ja_nil q) hs
theorem je_abs (hm : X.mg "abs" = none) (h : JE X w ρ b e fun x b1 => ∃ i, x = .int i ∧ Φ (.int i.natAbs) b1) (hg : Gl X "abs" := by rfl) (he : starEach [e] X.env = (false, eval e X.env) :: starEach [] X.env := by rfl) (hpl : (backTo pos (starEach [] X.env)).any (·.1) = false := by rfl) : JE X w ρ b (.Call (.Name "abs" p) [e] [] pos) Φ :=
  je_callB call_abs hm (by decide +kernel) (ja_one (h.mono fun x b1 ⟨i, ex, q⟩ vs H Q o r c => by
    subst ex
    cases r with
    | cons r1 r2 =>
    cases r2
    cases r1
    refine ⟨i, rfl, ?_⟩
    have e : (if i < 0 then -i else i) = (i.natAbs : Int) := by split <;> omega
    rw [e]
    exact c _ (.int i.natAbs) b1 H (Ex2.refl H) o (.int _) q) he) hg (by decide) (by decide) he hpl
theorem je_intOf (hm : X.mg "int" = none) (h : JE X w ρ b e fun x b1 => ∃ i, x = .int i ∧ Φ (.int i) b1) (hg : Gl X "int" := by rfl) (he : starEach [e] X.env = (false, eval e X.env) :: starEach [] X.env := by rfl) (hpl : (backTo pos (starEach [] X.env)).any (·.1) = false := by rfl) : JE X w ρ b (.Call (.Name "int" p) [e] [] pos) Φ :=
  je_callTy call_int1 hm (by decide +kernel) (ja_one (h.mono fun x b1 ⟨i, ex, q⟩ vs H Q o r c => by
    subst ex
    cases r with
    | cons r1 r2 =>
    cases r2
    cases r1
    exact .inl ⟨i, rfl, c _ (.int i) b1 H (Ex2.refl H) o (.int _) q⟩) he) hg (by decide) (by decide) he hpl
/-- the length of data -/
def dlen : PyData → Option Nat
  | .list ds => some ds.length
  | .tuple ds => some ds.length
  | _ => none
theorem je_len (hm : X.mg "len" = none) (h : JE X w ρ b e fun x b1 => ∃ d n, x = .d d ∧ dlen d = some n ∧ Φ (.int n) b1) (hg : Gl X "len" := by rfl) (he : starEach [e] X.env = (false, eval e X.env) :: starEach [] X.env := by rfl) (hpl : (backTo pos (starEach [] X.env)).any (·.1) = false := by rfl) : JE X w ρ b (.Call (.Name "len" p) [e] [] pos) Φ :=
  je_callB call_len_seq hm (by decide +kernel) (ja_one (h.mono fun x b1 ⟨d, n, ex, hn, q⟩ vs H Q o r c => by
    subst ex
    cases r with
    | cons r1 r2 =>
    cases r2
    cases r1 with
    | non => cases hn
    | bl _ => cases hn
    | int _ => cases hn
    | str _ => cases hn
    | emp _ => cases hn
    | lst s1 t1 =>
      cases hn
      exact ⟨_, _, rfl, .inl (.of (H.sub _ _ s1)), by rw [t1.length]; exact c _ (.int _) b1 H (Ex2.refl H) o (.int _) q⟩
    | tup s1 t1 =>
      cases hn
      exact ⟨_, _, rfl, .inr (HG.sqt s1), by rw [t1.length]; exact c _ (.int _) b1 H (Ex2.refl H) o (.int _) q⟩) he) hg (by decide) (by decide) he hpl
theorem je_repr (hS : ∃ mm, X.base.Ns sysModules mm) (hG : X.A.guards = some []) (hu : X.A.units + 70 < cLine) (hm : X.mg "repr" = none) (h : JE X w ρ b e fun x b1 => ∃ k d, x = .d d ∧ Good k d ∧ k ≤ 60 ∧ wt d ≤ 25000 ∧ Φ (.d (.str d.shown)) b1) (hg : Gl X "repr" := by rfl)
    (he : starEach [e] X.env = (false, eval e X.env) :: starEach [] X.env := by rfl) (hpl : (backTo pos (starEach [] X.env)).any (·.1) = false := by rfl) : JE X w ρ b (.Call (.Name "repr" p) [e] [] pos) Φ :=
  je_callB (call_reprD hS hG hu) hm (by decide +kernel) (ja_one (h.mono fun x b1 ⟨k, d, ex, g, hk, hw, q⟩ vs H Q o r c => by
    subst ex
    cases r with
    | cons r1 r2 =>
    cases r2
    exact ⟨_, k, d, rfl, g, hk, hw, HG.rp r1, c _ (.d (.str d.shown)) b1 H (Ex2.refl H) o (.str _) q⟩) he) hg (by decide) (by decide) he hpl
/-- isinstance(x, T) -/
def tyN : PyData → String
  | .none => "NoneType"
  | .bool _ => "bool"
  | .int _ => "int"
  | .str _ => "str"
  | .list _ => "list"
  | .tuple _ => "tuple"
  | .dict _ => "dict"
theorem Rp.ty {K : PySem.W.Frag} {H : Hp} {d : PyData} {v : V} (r : Rp K H v d) : TyX K H v (.type (tyN d)) := by
  cases r with
  | non => exact .base .non
  | bl b => exact .base (.bl b)
  | int b => exact .base (.int b)
  | str b => exact .base (.str b)
  | lst s _ => exact .base (.lst s)
  | tup s _ =>
    rcases s with (s | ⟨o, s⟩) | ⟨o, _, _, e, c, _⟩
    · exact .base (.tup s)
    · exact .fTuple s
    · exact .kTuple e c
  | emp e => exact .base (.dK e)
theorem je_isi {T : Str} {Tn : String} {pt : Pos} (hm : X.mg "isinstance" = none) (hmT : X.mg T = none) (hvT : bootBuiltins T = some (.type Tn)) (hk : ∀ d, ∃ k, kitB (tyN d) Tn = some k)
    (h : JE X w ρ b e fun x b1 => ∃ d, x = .d d ∧ ∀ k, kitB (tyN d) Tn = some k → Φ (.bl k) b1) (hg : Gl X "isinstance" := by rfl) (hgT : Gl X T := by rfl) (hnT : T ≠ "__name__" := by decide) (hdT : (T == ("__debug__" : Str)) = false := by decide)
    (he : starEach [e, .Name T pt] X.env = (false, eval e X.env) :: starEach [.Name T pt] X.env := by rfl) (he2 : starEach [.Name T pt] X.env = (false, eval (.Name T pt) X.env) :: starEach [] X.env := by rfl) (hpl : (backTo pos (starEach [.Name T pt] X.env)).any (·.1) = false := by rfl) : JE X w ρ b (.Call (.Name "isinstance" p) [e, .Name T pt] [] pos) Φ :=
  je_callB call_isi hm (by decide +kernel) (ja_cons (h.mono fun x b1 ⟨d, ex, q⟩ => ja_one (je_ty hmT hvT (fun vs H Q o r c => by
    subst ex
    cases r with
    | cons r1 r2 =>
    cases r2 with
    | cons r2 r3 =>
    cases r3
    cases r2
    obtain ⟨k, hk⟩ := hk d
    exact ⟨_, _, _, _, k, rfl, .ty Tn, Rp.ty (HG.rp r1), kit_ty hk, c _ (.bl k) b1 H (Ex2.refl H) o (.bl _) (q k hk)⟩) hgT hnT hdT) he2) he) hg (by decide) (by decide) he hpl
end
end CR

namespace CR
open PySem PySem.Spec PySem.W PySem.SeqAt PyProof.Rows L2 LamX
variable {X : Cx} {w : Wd} {ρ : Rho} {b : Bd} {e e1 e2 : Expr} {es : List Expr} {st : Stmt} {sts : List Stmt} {pos : Pos}

/-! ### statements -/
structure DK where
  nx : Rho → Bd → Prop
  rt : Sl → Bd → Prop
  bk : Rho → Bd → Prop := fun _ _ => False
  ct : Rho → Bd → Prop := fun _ _ => False
structure DK.To (K : PySem.W.Frag) (w : Wd) (D : DK) (H0 : HG) (E : Ends) : Prop where
  nx : ∀ σ ρ b (H : HG), Ex2 H0 H → RS K H.G σ ρ → Ok K w b H → D.nx ρ b → E.nx σ H.H
  rt : ∀ v x b (H : HG), Ex2 H0 H → Ok K w b H → Sl.rel K x v H.G → D.rt x b → E.rt v H.H
  bk : ∀ σ ρ b (H : HG), Ex2 H0 H → RS K H.G σ ρ → Ok K w b H → D.bk ρ b → E.bk σ H.H
  ct : ∀ σ ρ b (H : HG), Ex2 H0 H → RS K H.G σ ρ → Ok K w b H → D.ct ρ b → E.ct σ H.H
theorem DK.To.ext {K : PySem.W.Frag} {w : Wd} {D : DK} {H H' : HG} {E : Ends} (c : D.To K w H E) (h : Ex2 H H') : D.To K w H' E :=
  ⟨fun σ ρ b H1 x => c.nx σ ρ b H1 (h.trans x), fun v y b H1 x => c.rt v y b H1 (h.trans x), fun σ ρ b H1 x => c.bk σ ρ b H1 (h.trans x), fun σ ρ b H1 x => c.ct σ ρ b H1 (h.trans x)⟩
structure JS (X : Cx) (w : Wd) (ρ : Rho) (b : Bd) (st : Stmt) (D : DK) : Prop where
  run : ∀ (σ : L2.St) (H : HG) (E : Ends), RS X.K H.G σ ρ → Ok X.K w b H → D.To X.K w H E → sS X st E σ H.H
instance {X : Cx} {w : Wd} {ρ : Rho} {b : Bd} {st : Stmt} {D : DK} : CoeFun (JS X w ρ b st D) fun _ => ∀ (σ : L2.St) (H : HG) (E : Ends), RS X.K H.G σ ρ → Ok X.K w b H → D.To X.K w H E → sS X st E σ H.H := ⟨JS.run⟩
structure JB (X : Cx) (w : Wd) (ρ : Rho) (b : Bd) (sts : List Stmt) (D : DK) : Prop where
  run : ∀ (σ : L2.St) (H : HG) (E : Ends), RS X.K H.G σ ρ → Ok X.K w b H → D.To X.K w H E → sB X sts E σ H.H
instance {X : Cx} {w : Wd} {ρ : Rho} {b : Bd} {sts : List Stmt} {D : DK} : CoeFun (JB X w ρ b sts D) fun _ => ∀ (σ : L2.St) (H : HG) (E : Ends), RS X.K H.G σ ρ → Ok X.K w b H → D.To X.K w H E → sB X sts E σ H.H := ⟨JB.run⟩
variable {D : DK}
theorem js_of {ts : TS} (h : PS X st ts) (k : ∀ σ (H : HG) E, RS X.K H.G σ ρ → Ok X.K w b H → D.To X.K w H E → ts E σ H.H) : JS X w ρ b st D := ⟨fun σ H E r o c pins s I => h.run pins s σ H.H E I (k σ H E r o c)⟩
theorem jb_of {ts : TS} (h : PSs X sts ts) (k : ∀ σ (H : HG) E, RS X.K H.G σ ρ → Ok X.K w b H → D.To X.K w H E → ts E σ H.H) : JB X w ρ b sts D := ⟨fun σ H E r o c pins s I => h.run pins s σ H.H E I (k σ H E r o c)⟩
theorem jb_nil (h : D.nx ρ b) : JB X w ρ b [] D := jb_of pss_nil fun σ H E r o c => c.nx σ ρ b H (Ex2.refl H) r o h
theorem jb_cons (h : JS X w ρ b st { D with nx := fun ρ' b' => JB X w ρ' b' sts D }) : JB X w ρ b (st :: sts) D :=
  jb_of (pss_cons pS pB) fun σ H E r o c => h σ H _ r o ⟨fun σ ρ b H x r o q => q σ H E r o (c.ext x), c.rt, c.bk, c.ct⟩
theorem jb_one (h : JS X w ρ b st D) : JB X w ρ b [st] D := jb_of (pss_one pS) fun σ H E r o c => h σ H E r o c
theorem js_set {n : Str} {pn : Pos} (i : Nat) (hN : X.N.Nodup) (hi : X.N[i]? = some n) (hx : Loc X.env.scope n) (h : JE X w ρ b e fun x b1 => D.nx (ρ.set i (some x)) b1) (hs : swapsWith e (some (.Name n pn)) pos.line X.env = pure false := by rfl)
    (hf : X.fn n = true ∨ X.env.scope.names.lookup n = some .local := by first | exact .inl rfl | exact .inr rfl | assumption) : JS X w ρ b (.Assign [.Name n pn] e pos) D :=
  js_of (ps_set (i := i) hN hi hx pE hs hf) fun σ H E r o c => h σ H _ r o fun v x b1 H1 a1 a2 a3 q => c.nx _ _ b1 H1 a1 ((r.ext a1.ext).set a3) a2 q
theorem js_par {n m : Str} {pn pm pt pt2 : Pos} {kt k2 : Nat} (i j : Nat) (hc : X.calm = true) (hN : X.N.Nodup) (hi : X.N[i]? = some n) (hj : X.N[j]? = some m) (hij : i ≠ j) (hx : X.env.scope.names.lookup n = some .local) (hy : X.env.scope.names.lookup m = some .local)
    (hw : swappedStores [.Tuple [.Name n pn, .Name m pm] kt pt] (.Tuple [e1, e2] k2 pt2) X.env = pure (some [n, m])) (h : JA X w ρ b [e1, e2] fun xs b1 => ∃ x y, xs = [x, y] ∧ D.nx ((ρ.set i (some x)).set j (some y)) b1)
    (hs : swapsWithSole [.Tuple [.Name n pn, .Name m pm] kt pt] (.Tuple [e1, e2] k2 pt2) pos.line X.env = pure false := by rfl) : JS X w ρ b (.Assign [.Tuple [.Name n pn, .Name m pm] kt pt] (.Tuple [e1, e2] k2 pt2) pos) D :=
  js_of (ps_par (i := i) (j := j) hc hN hi hj hij hx hy pA hw hs) fun σ H E r o c => h σ H _ r o fun vs xs b1 H1 a1 a2 a3 ⟨x, y, e, q⟩ => by
    subst e
    cases a3 with
    | cons r1 r2 =>
    cases r2 with
    | cons r2 r3 =>
    cases r3
    exact ⟨_, _, rfl, c.nx _ _ b1 H1 a1 (((r.ext a1.ext).set r1).set r2) a2 q⟩
theorem js_ret (h : JE X w ρ b e D.rt) : JS X w ρ b (.Return (some e) pos) D := js_of (ps_ret pE) fun σ H E r o c => h σ H _ r o fun v x b1 H1 a1 a2 a3 q => c.rt v x b1 H1 a1 a2 a3 q
theorem js_expr (h : JE X w ρ b e fun _ b1 => D.nx ρ b1) (hs : swapsWith e none pos.line X.env = pure false := by rfl) : JS X w ρ b (.Expr e pos) D := js_of (ps_expr pE hs) fun σ H E r o c => h σ H _ r o fun v x b1 H1 a1 a2 a3 q => c.nx _ _ b1 H1 a1 (r.ext a1.ext) a2 q
theorem js_if {t : Expr} {s1 s2 : List Stmt} (h : JT X w ρ b t fun k b1 => (k = true → JB X w ρ b1 s1 D) ∧ (k = false → JB X w ρ b1 s2 D)) : JS X w ρ b (.If t s1 s2 pos) D :=
  js_of (ps_if pT pB pB) fun σ H E r o c => h σ H _ r o fun k b1 H1 a1 a2 q => by
    cases k with
    | true =>
      rw [if_pos rfl]
      exact q.1 rfl σ H1 E (r.ext a1.ext) a2 (c.ext a1)
    | false =>
      rw [if_neg Bool.false_ne_true]
      exact q.2 rfl σ H1 E (r.ext a1.ext) a2 (c.ext a1)
theorem js_pass (h : D.nx ρ b) : JS X w ρ b (.Pass pos) D := js_of ps_pass fun σ H E r o c => c.nx σ ρ b H (Ex2.refl H) r o h
theorem js_break (h : D.bk ρ b) : JS X w ρ b (.Break pos) D := js_of ps_break fun σ H E r o c => c.bk σ ρ b H (Ex2.refl H) r o h
theorem js_continue (h : D.ct ρ b) : JS X w ρ b (.Continue pos) D := js_of ps_continue fun σ H E r o c => c.ct σ ρ b H (Ex2.refl H) r o h
/-- while: I the invariant with its measure -/
theorem js_while {t : Expr} {body : List Stmt} (hp : PassesOwn (model X.prog X.w) X.A X.env X.xe) (I : Nat → Rho → Bd → Prop) {m0 : Nat} (h0 : I m0 ρ b)
    (h : ∀ m ρ b, I m ρ b → JT X w ρ b t fun k b1 => (k = true → JB X w ρ b1 body { D with nx := fun ρ' b' => ∃ m', m' < m ∧ I m' ρ' b', ct := fun ρ' b' => ∃ m', m' < m ∧ I m' ρ' b', bk := D.nx }) ∧ (k = false → D.nx ρ b1)) : JS X w ρ b (.While t body [] pos) D :=
  js_of (ps_while hp pT pB) fun σ H0 E r o c => by
    refine ⟨fun m σ H => ∃ ρ b A, HG.H A = H ∧ Ex2 H0 A ∧ RS X.K A.G σ ρ ∧ Ok X.K w b A ∧ I m ρ b, ⟨m0, ρ, b, H0, rfl, Ex2.refl H0, r, o, h0⟩, ?_⟩
    rintro m σ _ ⟨ρ, b, H, rfl, x, r, o, i⟩
    refine h m ρ b i σ H _ r o fun k b1 H1 a1 a2 q => ?_
    have c1 := c.ext (x.trans a1)
    cases k with
    | true =>
      rw [if_pos rfl]
      refine ⟨fun σ H => ∃ m', m' < m ∧ ∃ ρ b A, HG.H A = H ∧ Ex2 H0 A ∧ RS X.K A.G σ ρ ∧ Ok X.K w b A ∧ I m' ρ b, fun σ' H' z => z, q.1 rfl σ H1 _ (r.ext a1.ext) a2 ⟨?_, c1.rt, c1.nx, ?_⟩⟩
      · rintro σ ρ b H x2 r o ⟨m', hm, i⟩
        exact ⟨m', hm, ρ, b, H, rfl, (x.trans a1).trans x2, r, o, i⟩
      · rintro σ ρ b H x2 r o ⟨m', hm, i⟩
        exact ⟨m', hm, ρ, b, H, rfl, (x.trans a1).trans x2, r, o, i⟩
    | false =>
      rw [if_neg Bool.false_ne_true]
      exact c1.nx σ ρ b1 H1 (Ex2.refl _) (r.ext a1.ext) a2 (q.2 rfl)
/-- for x in range(e) -/
theorem js_forR {n : Str} {pn p pc : Pos} {body : List Stmt} (k : Nat) (hp : PassesOwn (model X.prog X.w) X.A X.env X.xe) (hc : X.calm = true) (hm : X.mg "range" = none) (hN : X.N.Nodup) (hi : X.N[k]? = some n) (hx : Loc X.env.scope n)
    (h : JE X w ρ b e fun x b1 => ∃ c : Int, x = .int c ∧ -(2 ^ 62) ≤ c ∧ c < 2 ^ 62 ∧ ∃ I : Nat → Rho → Bd → Prop, I 0 ρ b1 ∧
      (∀ (i : Nat) ρ b, (i : Int) < c → I i ρ b → JB X w (ρ.set k (some (.int i))) b body { D with nx := I (i + 1), ct := I (i + 1), bk := D.nx }) ∧ ∀ ρ b, I c.toNat ρ b → D.nx ρ b)
    (hg : Gl X "range" := by rfl) (hf : X.fn n = true ∨ X.env.scope.names.lookup n = some .local := by first | exact .inl rfl | exact .inr rfl | assumption) (hs : starEach [e] X.env = [(false, eval e X.env)] := by rfl) (hst : ∀ x, foldedSetIterable (.Call (.Name "range" p) [e] [] pc) X.env x = pure x := by intro _; rfl) :
    JS X w ρ b (.For (.Name n pn) (.Call (.Name "range" p) [e] [] pc) body [] pos) D :=
  js_of (ps_for hp hc (pi_range1 hg hm (pa_cons pE pa_nil hs) hs) (pg_name (i := k) hN hi hx hf) pB hst) fun σ H0 E r o c => by
    refine h σ H0 _ r o fun v x b1 H1 a1 a2 a3 ⟨n, ex, n1, n2, I, i0, it, ie⟩ => ?_
    subst ex
    cases a3
    refine ⟨n, rfl, n1, n2, ?_⟩
    refine for_range (lo := 0) (n := n.toNat) (fun i σ H => ∃ ρ b A, HG.H A = H ∧ Ex2 H0 A ∧ RS X.K A.G σ ρ ∧ Ok X.K w b A ∧ I i ρ b) ⟨ρ, b1, H1, rfl, a1, r.ext a1.ext, a2, i0⟩ ?_ ?_
    · rintro i σ _ hi ⟨ρ, b, H, rfl, x, r, o, i1⟩
      have c1 := c.ext x
      refine it i ρ b (by omega) i1 _ H _ (r.set (v := .int (0 + i)) (x := .int i) ?_) o ⟨fun σ ρ b H x2 r o q => ⟨ρ, b, H, rfl, x.trans x2, r, o, q⟩, c1.rt, c1.nx, fun σ ρ b H x2 r o q => ⟨ρ, b, H, rfl, x.trans x2, r, o, q⟩⟩
      rw [Int.zero_add]
      exact .int _
    · rintro σ _ ⟨ρ, b, H, rfl, x, r, o, i1⟩
      exact c.nx σ ρ b H x r o (ie ρ b i1)
/-- for x in e, e a list or a tuple of data -/
theorem js_forL {n : Str} {pn : Pos} {body : List Stmt} (k : Nat) (hp : PassesOwn (model X.prog X.w) X.A X.env X.xe) (hc : X.calm = true) (hN : X.N.Nodup) (hi : X.N[k]? = some n) (hx : Loc X.env.scope n)
    (h : JE X w ρ b e fun x b1 => ∃ ds, x = .d (.list ds) ∧ ∃ I : Nat → Rho → Bd → Prop, I 0 ρ b1 ∧
      (∀ (i : Nat) d ρ b, ds[i]? = some d → I i ρ b → JB X w (ρ.set k (some (.d d))) b body { D with nx := I (i + 1), ct := I (i + 1), bk := D.nx }) ∧ ∀ ρ b, I ds.length ρ b → D.nx ρ b)
    (hf : X.fn n = true ∨ X.env.scope.names.lookup n = some .local := by first | exact .inl rfl | exact .inr rfl | assumption) (hst : ∀ x, foldedSetIterable e X.env x = pure x := by intro _; rfl) :
    JS X w ρ b (.For (.Name n pn) e body [] pos) D :=
  js_of (ps_for hp hc (pi_list pE) (pg_name (i := k) hN hi hx hf) pB hst) fun σ H0 E r o c => by
    refine h σ H0 _ r o fun v x b1 H1 a1 a2 a3 ⟨ds, ex, I, i0, it, ie⟩ => ?_
    subst ex
    cases a3 with
    | @lst a xs _ s1 t1 =>
    have st : Stable (.lst xs) := ⟨fun _ z => (by cases z), fun _ z => (by cases z)⟩
    refine ⟨a, rfl, ⟨xs, .of (H1.sub _ _ s1)⟩, ?_⟩
    refine for_list (xs := xs) (fun i σ H => ∃ ρ b A, HG.H A = H ∧ Ex2 H1 A ∧ RS X.K A.G σ ρ ∧ Ok X.K w b A ∧ I i ρ b) ⟨ρ, b1, H1, rfl, Ex2.refl H1, r.ext a1.ext, a2, i0⟩ (fun i σ H _ z => let ⟨_, _, A, e, q, _⟩ := z; .of (by rw [← e]; exact A.sub _ _ (q.ext _ _ s1 st))) ?_ ?_
    · rintro i v σ _ hv ⟨ρ, b, H, rfl, x, r, o, i1⟩
      have hl := t1.length
      obtain ⟨d, hd⟩ : ∃ d, ds[i]? = some d := by
        have := (List.getElem?_eq_some_iff.mp hv).1
        exact ⟨ds[i]'(by omega), List.getElem?_eq_getElem (by omega)⟩
      obtain ⟨v', e1, e2⟩ := t1.get hd
      rw [hv] at e1
      cases e1
      have c1 := c.ext (a1.trans x)
      exact it i d ρ b hd i1 _ H _ (r.set (x := .d d) (Rp.ext x.ext _ _ e2)) o ⟨fun σ ρ b H x2 r o q => ⟨ρ, b, H, rfl, x.trans x2, r, o, q⟩, c1.rt, c1.nx, fun σ ρ b H x2 r o q => ⟨ρ, b, H, rfl, x.trans x2, r, o, q⟩⟩
    · rintro σ _ ⟨ρ, b, H, rfl, x, r, o, i1⟩
      rw [t1.length] at i1
      exact c.nx σ ρ b H (a1.trans x) r o (ie ρ b i1)
theorem js_forT {n : Str} {pn : Pos} {body : List Stmt} (k : Nat) (hp : PassesOwn (model X.prog X.w) X.A X.env X.xe) (hc : X.calm = true) (hN : X.N.Nodup) (hi : X.N[k]? = some n) (hx : Loc X.env.scope n)
    (h : JE X w ρ b e fun x b1 => ∃ ds, x = .d (.tuple ds) ∧ ∃ I : Nat → Rho → Bd → Prop, I 0 ρ b1 ∧
      (∀ (i : Nat) d ρ b, ds[i]? = some d → I i ρ b → JB X w (ρ.set k (some (.d d))) b body { D with nx := I (i + 1), ct := I (i + 1), bk := D.nx }) ∧ ∀ ρ b, I ds.length ρ b → D.nx ρ b)
    (hf : X.fn n = true ∨ X.env.scope.names.lookup n = some .local := by first | exact .inl rfl | exact .inr rfl | assumption) (hst : ∀ x, foldedSetIterable e X.env x = pure x := by intro _; rfl) :
    JS X w ρ b (.For (.Name n pn) e body [] pos) D :=
  js_of (ps_for hp hc (pi_tup pE) (pg_name (i := k) hN hi hx hf) pB hst) fun σ H0 E r o c => by
    refine h σ H0 _ r o fun v x b1 H1 a1 a2 a3 ⟨ds, ex, I, i0, it, ie⟩ => ?_
    subst ex
    cases a3 with
    | @tup a xs _ s1 t1 =>
    refine ⟨a, rfl, ⟨xs, HG.sqt s1⟩, ?_⟩
    refine for_tup (xs := xs) (fun i σ H => ∃ ρ b A, HG.H A = H ∧ Ex2 H1 A ∧ RS X.K A.G σ ρ ∧ Ok X.K w b A ∧ I i ρ b) ⟨ρ, b1, H1, rfl, Ex2.refl H1, r.ext a1.ext, a2, i0⟩ (fun i σ H _ z => let ⟨_, _, A, e, q, _⟩ := z; by rw [← e]; exact HG.sqt (sqT_ext s1 q.ext)) ?_ ?_
    · rintro i v σ _ hv ⟨ρ, b, H, rfl, x, r, o, i1⟩
      have hl := t1.length
      obtain ⟨d, hd⟩ : ∃ d, ds[i]? = some d := by
        have := (List.getElem?_eq_some_iff.mp hv).1
        exact ⟨ds[i]'(by omega), List.getElem?_eq_getElem (by omega)⟩
      obtain ⟨v', e1, e2⟩ := t1.get hd
      rw [hv] at e1
      cases e1
      have c1 := c.ext (a1.trans x)
      exact it i d ρ b hd i1 _ H _ (r.set (x := .d d) (Rp.ext x.ext _ _ e2)) o ⟨fun σ ρ b H x2 r o q => ⟨ρ, b, H, rfl, x.trans x2, r, o, q⟩, c1.rt, c1.nx, fun σ ρ b H x2 r o q => ⟨ρ, b, H, rfl, x.trans x2, r, o, q⟩⟩
    · rintro σ _ ⟨ρ, b, H, rfl, x, r, o, i1⟩
      rw [t1.length] at i1
      exact c.nx σ ρ b H (a1.trans x) r o (ie ρ b i1)

/-! ### defs and calls -/
/-- what a def asks and gives, told of data: the arguments, the drawing dict's state, the wish, the errors it may raise -/
abbrev Con := List Sl → Bd → (Sl → Bd → Prop) → (Value → Option (Str × PyData) → Bd → Prop) → Prop
/-- an exception, told of data -/
def ErR (K : PySem.W.Frag) (H : Hp) (dx : Option Addr) : Option (Str × PyData) → Prop
  | none => True
  | some (fld, d) => ∃ dd v, dx = some dd ∧ H dd = some (.xd [(fld, v)]) ∧ Rp K H v d
def spF (K : PySem.W.Frag) (T : List (Addr × Str)) (con : Con) : Sp := fun vs H Q E => ∃ (A : HG) (xs : List Sl) (b : Bd) (Φ : Sl → Bd → Prop) (Er : Value → Option (Str × PyData) → Bd → Prop),
  A.H = H ∧ AA K T b A.G ∧ Rels K A.G vs xs ∧ con xs b Φ Er ∧
  (∀ v x b' (A' : HG), Fr T (b.map (·.1)) A.G A'.G → Ex2 A A' → AA K T b' A'.G → (∀ m n, b' = some (m, n) → b.map (·.1) = some m ∨ Fresh T A.G m) → Sl.rel K x v A'.G → Φ x b' → Q v A'.H) ∧
  ∀ cls dx ed b' (A' : HG), Fr T (b.map (·.1)) A.G A'.G → Ex2 A A' → AA K T b' A'.G → (∀ m n, b' = some (m, n) → b.map (·.1) = some m ∨ Fresh T A.G m) → ErR K A'.G dx ed → Er cls ed b' → E cls dx A'.H
/-- what is wished of an exception that leaves the code -/
def TkE (X : Cx) (w : Wd) : Prop := ∃ W : WX, Takes X W ∧ ∀ cls dx ed b σ (H : HG), Ok X.K w b H → ErR X.K H.G dx ed → w.Er cls ed b → W cls dx σ H.H
/-- how a call behind the frame w is taken -/
def trB (b b' r : Bd) : Bd := match r with | some q => some q | none => match b' with | none => b | some _ => none
def CallOk (w : Wd) (b : Bd) (con : Con) (xs : List Sl) (Φ : Sl → Bd → Prop) : Prop :=
  ∃ b', (b' = none ∨ b' = b) ∧ con xs b' (fun x r => Φ x (trB b b' r)) fun c d r => w.Er c d (trB b b' r)
section
variable {Φ : Sl → Bd → Prop} {k j : Nat} {f : Addr} {fd : FuncData} {ps : List Str} {n : Str} {p : Pos} {T : List (Addr × Str)} {con : Con}
theorem callP {b : Bd} {xs : List Sl} (h : con xs none (fun x r => Φ x (trB b none r)) fun c d r => w.Er c d (trB b none r)) : CallOk w b con xs Φ := ⟨none, .inl rfl, h⟩
theorem callM {b : Bd} {xs : List Sl} (h : con xs b (fun x r => Φ x (trB b b r)) fun c d r => w.Er c d (trB b b r)) : CallOk w b con xs Φ := ⟨b, .inr rfl, h⟩
theorem spF_call {vs : List V} {xs : List Sl} {b1 : Bd} {σ : L2.St} {H : HG} {Q : VK} {W : WX} (hT : T = [] ∨ T = w.T) (o : Ok X.K w b1 H) (r : Rels X.K H.G vs xs) (h : CallOk w b1 con xs Φ)
    (hQ : ∀ v x b' (H' : HG), Ex2 H H' → Ok X.K w b' H' → Sl.rel X.K x v H'.G → Φ x b' → Q v H'.H) (hW : ∀ cls dx ed b σ (H : HG), Ok X.K w b H → ErR X.K H.G dx ed → w.Er cls ed b → W cls dx σ H.H) : spF X.K T con vs H.H Q fun cls d H' => W cls d σ H' := by
  obtain ⟨b', hb, hc⟩ := h
  have hs : AA X.K T b' H.G := by
    refine ⟨?_, fun m n hm => ?_⟩
    · rcases hT with rfl | rfl
      · intro q hq
        cases hq
      · exact o.2.2.1.1
    · rcases hb with rfl | rfl
      · cases hm
      · exact o.2.2.1.2 m n hm
  exact ⟨H, xs, b', _, _, rfl, hs, r, hc, fun v x r H' f1 x1 aa hn rl q => hQ v x _ H' x1 (o.back f1 x1 aa hn hT hb) rl q, fun cls dx ed r H' f1 x1 aa hn er q => hW cls dx ed _ σ H' (o.back f1 x1 aa hn hT hb) er q⟩
/-- f(e, ..) -/
theorem je_call (F : FnG X.prog X.w X.K X.mg X.base j f fd ps (spF X.K T con)) (hT : T = [] ∨ T = w.T) (hG : X.A.guards = some []) (hr : Room k X.A) (tk : TkE X w) (hm : X.mg n = some (.ref f)) (hk : keepIn X.K (.ref f) = true) (hb : Binds X.K fd ps []) (hj : j ≤ k)
    (h : JA X w ρ b (e :: es) fun xs b1 => CallOk w b1 con xs Φ) (hg : Gl X n := by rfl) (hdb : (n == ("__debug__" : Str)) = false := by decide) (he : starEach (e :: es) X.env = (false, eval e X.env) :: starEach es X.env := by rfl) (hpl : (backTo pos (starEach es X.env)).any (·.1) = false := by rfl) :
    JE X w ρ b (.Call (.Name n p) (e :: es) [] pos) Φ := by
  obtain ⟨W, tk, hW⟩ := tk
  exact je_of (pe_callG (F.mono hj) hG hr tk hm hk hb pA hg hdb he hpl) fun σ H Q r o c => h σ H _ r o fun vs xs b1 H1 a1 a2 a3 a4 => spF_call hT a2 a3 a4 (fun v x b' H' x1 => c v x b' H' (a1.trans x1)) hW
theorem je_call0 (F : FnG X.prog X.w X.K X.mg X.base j f fd ps (spF X.K T con)) (hT : T = [] ∨ T = w.T) (hG : X.A.guards = some []) (hr : Room k X.A) (tk : TkE X w) (hm : X.mg n = some (.ref f)) (hk : keepIn X.K (.ref f) = true) (hb : Binds X.K fd ps []) (hj : j ≤ k)
    (h : CallOk w b con [] Φ) (hg : Gl X n := by rfl) (hdb : (n == ("__debug__" : Str)) = false := by decide) : JE X w ρ b (.Call (.Name n p) [] [] pos) Φ := by
  obtain ⟨W, tk, hW⟩ := tk
  exact je_of (pe_callG0 (F.mono hj) hG hr tk hm hk hb hg hdb) fun σ H Q r o c => spF_call hT o .nil h c hW
end
end CR

namespace CR
open PySem PySem.Spec PySem.W PySem.SeqAt PyProof.Rows L2 LamX
section
variable {P : Program} {w : World} {K : PySem.W.Frag} {mg : Str → Option Value} {base : Heap} {k : Nat} {f : Addr} {fd : FuncData} {N ps : List Str} {x qual : Str} {st : Stmt} {T : List (Addr × Str)} {con : Con}
theorem jb_run {X : Cx} {T : List (Addr × Str)} {xs : List Sl} {b : Bd} {Φ : Sl → Bd → Prop} {Er : Value → Option (Str × PyData) → Bd → Prop} {body : List Stmt} {H : HG} {vs : List V} {Q : VK} {N : List Str}
    (h : JB X ⟨T, b.map (·.1), H, Er⟩ (rho0 N xs) b body { nx := fun _ b => Φ (.d .none) b, rt := Φ }) (aa : AA X.K T b H.G) (r : Rels X.K H.G vs xs)
    (hQ : ∀ v x b' (H' : HG), Fr T (b.map (·.1)) H.G H'.G → Ex2 H H' → AA X.K T b' H'.G → (∀ m n, b' = some (m, n) → b.map (·.1) = some m ∨ Fresh T H.G m) → Sl.rel X.K x v H'.G → Φ x b' → Q v H'.H) :
    sB X body { nx := fun _ H' => Q .non H', rt := Q } (start N vs) H.H :=
  h _ H _ (.start r) ⟨Fr.refl _ _ _, Ex2.refl _, aa, fun m n e => .inl (by rw [e]; rfl)⟩ ⟨fun σ ρ b H' x _ o q => hQ .non (.d .none) b H' o.1 x o.2.2.1 o.2.2.2 .non q, fun v y b H' x o rl q => hQ v y b H' o.1 x o.2.2.1 o.2.2.2 rl q, fun _ _ _ _ _ _ _ z => z.elim, fun _ _ _ _ _ _ _ z => z.elim⟩
/-- a def that may raise -/
theorem okD (F : Fun K x qual st f fd) (S : FnScope N ps (defScope st)) (len : ∀ xs b Φ Er, con xs b Φ Er → xs.length = ps.length)
    (hbody : ∀ (cdv : Value) (A : Around) (outer : List Env) (s : Shared) (H : Hp) (H1 : HG) (E : XK) (xs : List Sl) (b : Bd) (Φ : Sl → Bd → Prop) (Er : Value → Option (Str × PyData) → Bd → Prop),
      Room k (bodyCx P w K mg base N qual st f cdv A outer s H E).A → (bodyCx P w K mg base N qual st f cdv A outer s H E).A.guards = some [] → TkE (bodyCx P w K mg base N qual st f cdv A outer s H E) ⟨T, b.map (·.1), H1, Er⟩ → con xs b Φ Er →
      JB (bodyCx P w K mg base N qual st f cdv A outer s H E) ⟨T, b.map (·.1), H1, Er⟩ (rho0 N xs) b (defBody st) { nx := fun _ b => Φ (.d .none) b, rt := Φ }) : FnG P w K mg base (k + 1) f fd ps (spF K T con) := by
  refine okG F S (fun vs H Q E h => ?_) fun cdv A outer s H vs Q E hcode hr hg tk h => ⟨_, pB, ?_⟩
  · obtain ⟨B, xs, b, Φ, Er, _, _, r, hc, _⟩ := h
    rw [r.length]
    exact len _ _ _ _ hc
  · obtain ⟨B, xs, b, Φ, Er, eB, aa, r, hc, hQ, hE⟩ := h
    subst eB
    exact jb_run (hbody cdv A outer s B.H B E xs b Φ Er hr hg ⟨_, tk, fun cls dx ed b σ H' o er q => hE cls dx ed b H' o.1 o.2.1 o.2.2.1 o.2.2.2 er q⟩ hc) aa r hQ
theorem tk_nox {X : Cx} {T : List (Addr × Str)} {a : Option Addr} {H : HG} : TkE X.nox ⟨T, a, H, fun _ _ _ => False⟩ := ⟨fun _ _ _ _ => False, fun u s' h => by
  obtain ⟨_, _, _, _, _, _, _, _, _, _, _, _, _, _, _, _, z⟩ := h
  exact z, fun _ _ _ _ _ _ _ _ z => z⟩
/-- a def that never raises -/
theorem okD0 (F : Fun K x qual st f fd) (S : FnScope N ps (defScope st)) (len : ∀ xs b Φ Er, con xs b Φ Er → xs.length = ps.length)
    (hbody : ∀ (cdv : Value) (A : Around) (outer : List Env) (s : Shared) (H : Hp) (H1 : HG) (E : XK) (xs : List Sl) (b : Bd) (Φ : Sl → Bd → Prop) (Er : Value → Option (Str × PyData) → Bd → Prop),
      Room k (bodyCx P w K mg base N qual st f cdv A outer s H E).nox.A → (bodyCx P w K mg base N qual st f cdv A outer s H E).nox.A.guards = some [] → TkE (bodyCx P w K mg base N qual st f cdv A outer s H E).nox ⟨T, b.map (·.1), H1, fun _ _ _ => False⟩ → con xs b Φ Er →
      JB (bodyCx P w K mg base N qual st f cdv A outer s H E).nox ⟨T, b.map (·.1), H1, fun _ _ _ => False⟩ (rho0 N xs) b (defBody st) { nx := fun _ b => Φ (.d .none) b, rt := Φ }) : FnG P w K mg base (k + 1) f fd ps (spF K T con) := by
  refine okG F S (fun vs H Q E h => ?_) fun cdv A outer s H vs Q E hcode hr hg tk h => ⟨_, PSs.nox pB, ?_⟩
  · obtain ⟨B, xs, b, Φ, Er, _, _, r, hc, _⟩ := h
    rw [r.length]
    exact len _ _ _ _ hc
  · obtain ⟨B, xs, b, Φ, Er, eB, aa, r, hc, hQ, hE⟩ := h
    subst eB
    exact jb_run (hbody cdv A outer s B.H B E xs b Φ Er hr hg tk_nox hc) aa r hQ
/-- .. its code object known -/
theorem okD0c (F : Fun K x qual st f fd) (S : FnScope N ps (defScope st)) (len : ∀ xs b Φ Er, con xs b Φ Er → xs.length = ps.length)
    (hbody : ∀ (cdv : Value) (A : Around) (outer : List Env) (s : Shared) (H : Hp) (H1 : HG) (E : XK) (xs : List Sl) (b : Bd) (Φ : Sl → Bd → Prop) (Er : Value → Option (Str × PyData) → Bd → Prop), fd.code = cdv →
      Room k (bodyCx P w K mg base N qual st f cdv A outer s H E).nox.A → (bodyCx P w K mg base N qual st f cdv A outer s H E).nox.A.guards = some [] → TkE (bodyCx P w K mg base N qual st f cdv A outer s H E).nox ⟨T, b.map (·.1), H1, fun _ _ _ => False⟩ → con xs b Φ Er →
      JB (bodyCx P w K mg base N qual st f cdv A outer s H E).nox ⟨T, b.map (·.1), H1, fun _ _ _ => False⟩ (rho0 N xs) b (defBody st) { nx := fun _ b => Φ (.d .none) b, rt := Φ }) : FnG P w K mg base (k + 1) f fd ps (spF K T con) := by
  refine okG F S (fun vs H Q E h => ?_) fun cdv A outer s H vs Q E hcode hr hg tk h => ⟨_, PSs.nox pB, ?_⟩
  · obtain ⟨B, xs, b, Φ, Er, _, _, r, hc, _⟩ := h
    rw [r.length]
    exact len _ _ _ _ hc
  · obtain ⟨B, xs, b, Φ, Er, eB, aa, r, hc, hQ, hE⟩ := h
    subst eB
    exact jb_run (hbody cdv A outer s B.H B E xs b Φ Er hcode hr hg tk_nox hc) aa r hQ
end
end CR

namespace CR
open PySem PySem.Spec PySem.W PySem.SeqAt PyProof.Rows L2 LamX
variable {X : Cx} {w : Wd} {ρ : Rho} {b : Bd} {e e1 e2 : Expr} {es : List Expr} {st : Stmt} {sts : List Stmt} {pos : Pos} {D : DK}
/-! ### calls by keywords alone -/
def sK (X : Cx) (kws : List Keyword) : TA := fun σ H Q => ∀ (pos : Pos) pins s, Inv X pins σ H s → wpAny (model X.prog X.w) X.A (evalAll ((backToKw pos (keywordEach kws X.env)).map (·.2))) (AP X pins σ Q) X.xe s
theorem pK {kws : List Keyword} : PK X kws (sK X kws) := ⟨fun pos pins s σ H Q I h => h pos pins s I⟩
structure JK (X : Cx) (w : Wd) (ρ : Rho) (b : Bd) (kws : List Keyword) (Φ : List Sl → Bd → Prop) : Prop where
  run : ∀ (σ : L2.St) (H : HG) (Q : List V → Hp → Prop), RS X.K H.G σ ρ → Ok X.K w b H → (∀ vs xs b' (H' : HG), Ex2 H H' → Ok X.K w b' H' → Rels X.K H'.G vs xs → Φ xs b' → Q vs H'.H) → sK X kws σ H.H Q
instance {X : Cx} {w : Wd} {ρ : Rho} {b : Bd} {kws : List Keyword} {Φ : List Sl → Bd → Prop} : CoeFun (JK X w ρ b kws Φ) fun _ => ∀ (σ : L2.St) (H : HG) (Q : List V → Hp → Prop), RS X.K H.G σ ρ → Ok X.K w b H → (∀ vs xs b' (H' : HG), Ex2 H H' → Ok X.K w b' H' → Rels X.K H'.G vs xs → Φ xs b' → Q vs H'.H) → sK X kws σ H.H Q := ⟨JK.run⟩
theorem jk_nil {Φ : List Sl → Bd → Prop} (h : Φ [] b) : JK X w ρ b [] Φ := ⟨fun σ H Q rs o c pos pins s I => pk_nil.run pos pins s σ H.H Q I (c [] [] b H (Ex2.refl H) o .nil h)⟩
theorem jk_cons {Φ : List Sl → Bd → Prop} {nm : Option Str} {kpos : Pos} {kws : List Keyword} (h : JE X w ρ b e fun x b1 => JK X w ρ b1 kws fun xs b2 => Φ (x :: xs) b2) : JK X w ρ b (⟨nm, e, kpos⟩ :: kws) Φ :=
  ⟨fun σ H Q rs o c pos pins s I => (pk_cons pE pK).run pos pins s σ H.H Q I (h σ H _ rs o fun v x b1 H1 a1 a2 a3 a4 => a4 σ H1 _ (rs.ext a1.ext) a2 fun vs xs b2 H2 c1 c2 c3 c4 =>
    c (v :: vs) (x :: xs) b2 H2 (a1.trans c1) c2 (.cons (Sl.ext c1.ext a3) c3) c4)⟩
section
variable {Φ : Sl → Bd → Prop} {k j : Nat} {f : Addr} {fd : FuncData} {ps : List Str} {n : Str} {p : Pos} {T : List (Addr × Str)} {con : Con} {W : WX} {sp : Sp} {x : Str} {kws : List Keyword} {tk : TA}
/-- every parameter by its name, in the def's order -/
def KB (K : PySem.W.Frag) (fd : FuncData) (ps : List Str) : Prop := ∀ (s : Shared) (ws : List Value), K.In s.heap → ws.length = ps.length → BindsTo s fd ⟨[], ps.zip ws⟩ (ps.zip ws)
theorem pe_callGK0 (F : FnG X.prog X.w X.K X.mg X.base k f fd ps sp) (hG : X.A.guards = some []) (hr : Room k X.A) (tkk : Takes X W) (hm : X.mg x = some (.ref f)) (hk : keepIn X.K (.ref f) = true) (hb : KB X.K fd ps)
    (hkw : PK X kws tk) (hg : Gl X x := by rfl) (hall : (backToKw pos (keywordEach kws X.env)).all (·.1.isSome) = true := by rfl) (hks : (backToKw pos (keywordEach kws X.env)).filterMap (·.1) = ps := by rfl) (hdb : (x == ("__debug__" : Str)) = false := by decide)
    (hpl : ((backTo pos (starEach [] X.env)).any (·.1) || (backToKw pos (keywordEach kws X.env)).any (·.1.isNone)) = false := by rfl) :
    PE X (.Call (.Name x p) [] kws pos) (tCallG sp W tk) := by
  refine ⟨fun pins s σ H Q I h => ?_⟩
  refine wpAny_Call_Name_kw (ld_glob I hg hm ?_ hdb)
  refine callWith_KW0 (h₀ := X.base) I.ok.mod.kin hk hall (thn (hkw.run pos pins s σ H _ I h) fun ws s1 ⟨vs, H1, I1, r, q⟩ => ⟨I1.kIn, ?_⟩) hpl
  rw [hks]
  refine wpAny_call (codeAny_mono (afterG F hG hr tkk I1 r (fun hl => hb s1 ws I1.kIn hl) q) fun r s' hq => ?_)
  cases r with
  | error e => exact hq
  | ok fl => cases fl <;> exact hq
theorem je_callK (F : FnG X.prog X.w X.K X.mg X.base j f fd ps (spF X.K T con)) (hT : T = [] ∨ T = w.T) (hG : X.A.guards = some []) (hr : Room k X.A) (tk : TkE X w) (hm : X.mg n = some (.ref f)) (hk : keepIn X.K (.ref f) = true) (hb : KB X.K fd ps) (hj : j ≤ k)
    (h : JK X w ρ b kws fun xs b1 => CallOk w b1 con xs Φ) (hg : Gl X n := by rfl) (hall : (backToKw pos (keywordEach kws X.env)).all (·.1.isSome) = true := by rfl) (hks : (backToKw pos (keywordEach kws X.env)).filterMap (·.1) = ps := by rfl) (hdb : (n == ("__debug__" : Str)) = false := by decide)
    (hpl : ((backTo pos (starEach [] X.env)).any (·.1) || (backToKw pos (keywordEach kws X.env)).any (·.1.isNone)) = false := by rfl) : JE X w ρ b (.Call (.Name n p) [] kws pos) Φ := by
  obtain ⟨W, tk, hW⟩ := tk
  exact je_of (pe_callGK0 (F.mono hj) hG hr tk hm hk hb pK hg hall hks hdb hpl) fun σ H Q r o c => h σ H _ r o fun vs xs b1 H1 a1 a2 a3 a4 => spF_call hT a2 a3 a4 (fun v x b' H' x1 => c v x b' H' (a1.trans x1)) hW
end
/-! ### raising -/
section
variable {C : Addr} {n fld : Str} {p : Pos} {k : Nat}
theorem js_err (hc : X.calm = true) (T : Err X.prog X.K X.mg n fld C) (hS : ∃ mm, X.base.Ns sysModules mm) (hG : X.A.guards = some []) (hr : Room k X.A) (tk : TkE X w)
    (h : JE X w ρ b e fun x b1 => ∃ k d, x = .d d ∧ Good k d ∧ k ≤ 60 ∧ wt d ≤ 1600 ∧ w.Er (.ref C) (some (fld, d)) b1) (hg : Gl X n := by rfl) (hdb : (n == ("__debug__" : Str)) = false := by decide)
    (he : starEach (e :: []) X.env = (false, eval e X.env) :: starEach [] X.env := by rfl) (hpl : (backTo pos (starEach [] X.env)).any (·.1) = false := by rfl) {pos2 : Pos} :
    JS X w ρ b (.Raise (some (.Call (.Name n p) [e] [] pos)) none pos2) D := by
  obtain ⟨W, tk, hW⟩ := tk
  refine js_of (ps_err hc T hS hG hr tk (pa_cons pE pa_nil he) hg hdb he hpl) fun σ H E r o c => h σ H _ r o fun v x b1 H1 a1 a2 a3 ⟨kd, d, ex, g, hk, hw, q⟩ => ?_
  subst ex
  exact ⟨v, rfl, ⟨kd, d, HG.rp a3, g, hk, hw⟩, fun dx hd => hW (.ref C) (some dx) (some (fld, d)) b1 σ (H1.upd dx _) (a2.upd2 hd) ⟨dx, v, rfl, HG.up, Rp.ext (Ex2.upd hd).ext _ _ a3⟩ q⟩
/-- X(), X an own exception class without __init__ -/
theorem pmk0 {bmB : List Value} {B newId initId : String} (F : ExcBaseFacts B newId initId bmB) (q : PySem.W.excIn X.K C bmB newId = true) (gC : X.mg n = some (.ref C)) (kC : PySem.W.keepIn X.K (.ref C) = true) (r : Raises X (.ref C)) (hg : Gl X n)
    (hdb : (n == ("__debug__" : Str)) = false := by decide) : PMk X (.Call (.Name n p) [] [] pos) (fun _ H Q => Q (.ref C) none H) := by
  intro pins s σ H Q I h
  refine wpAny_Call_Name_kw (ld_glob I hg gC ?_ hdb)
  refine PySem.W.callWith_K0 I.kIn kC ?_
  show wpAny _ _ (call (.ref C) []) _ _ _
  obtain ⟨bm, N, nm, qn, bs, hdct, sn, sub, ab, col, dd, k0, k1, k2, k3, k5, mN, hC, hN, hni, T⟩ := exc_obj I.kIn q
  refine wpAny_call_exc_subT F T hC hN hni (fun h' e hm => ?_) (Nat.zero_le _)
  exact mk_of I hm r h (I.hok.gone hm.new)
/-- all that is known of a class of errors without __init__ -/
structure Err0 (K : PySem.W.Frag) (mg : Str → Option Value) (x : Str) (C : Addr) : Prop where
  gC : mg x = some (.ref C)
  kC : keepIn K (.ref C) = true
  exC : subIn K (.ref C) (.type "BaseException") = some true
  tyC : typeIn K (.ref C) = some (.type "type")
  te : exmOne K (.ref C) (.ref C) = some true
  xi : PySem.W.excIn K C [.type "ValueError", .type "Exception", .type "BaseException", .type "object"] "ValueError.__new__" = true
theorem js_err0 (hc : X.calm = true) (T : Err0 X.K X.mg n C) (tk : TkE X w) (h : w.Er (.ref C) none b) (hg : Gl X n := by rfl) (hdb : (n == ("__debug__" : Str)) = false := by decide) {pos2 : Pos} :
    JS X w ρ b (.Raise (some (.Call (.Name n p) [] [] pos)) none pos2) D := by
  obtain ⟨W, tk, hW⟩ := tk
  exact js_of (ps_raise hc tk (pmk0 PySem.F.excBase_ValueError T.xi T.gC T.kC (raises_own T.exC T.tyC) hg hdb)) fun σ H E r o c => hW (.ref C) none none b σ H o True.intro h
end
end CR

namespace CR
open PySem PySem.Spec PySem.W PySem.SeqAt PyProof.Rows L2 LamX
variable {X : Cx} {w : Wd} {ρ : Rho} {b : Bd} {e e1 e2 : Expr} {es : List Expr} {st : Stmt} {sts : List Stmt} {pos : Pos} {D : DK}
/-- the same world, no error wished -/
abbrev Wd.no (w : Wd) : Wd := ⟨w.T, w.a, w.H0, fun _ _ _ => False⟩
theorem tk_no : TkE X w.no := ⟨fun _ _ _ _ => False, fun u s' h => by
  obtain ⟨_, _, _, _, _, _, _, _, _, _, _, _, _, _, _, _, z⟩ := h
  exact z.elim, fun _ _ _ _ _ _ _ _ z => z⟩
/-! ### what is walked -/
theorem Rels.get {K : PySem.W.Frag} {H : Hp} : ∀ {vs : List V} {xs : List Sl} {i : Nat} {v : V}, Rels K H vs xs → vs[i]? = some v → ∃ x, xs[i]? = some x ∧ Sl.rel K x v H
  | _, _, _, _, .nil, h => by simp at h
  | _, _, 0, d, .cons (x := x) a r, h => ⟨x, rfl, by have e := Option.some.inj h; subst e; exact a⟩
  | _, _, i + 1, d, .cons a r, h => r.get (i := i) h
theorem rels_rps {K : PySem.W.Frag} {H : Hp} : ∀ {vs : List V} {ds : List PyData}, Rps K H vs ds → Rels K H vs (ds.map Sl.d)
  | _, _, .nil => .nil
  | _, _, .cons a r => .cons a (rels_rps r)
theorem rels_al {K : PySem.W.Frag} {H : Hp} : ∀ {vs : List V} {ps : List Stb}, Al H ps vs → Rels K H vs (ps.map Sl.st)
  | _, _, .nil => .nil
  | _, _, .cons a r => .cons a (rels_al r)
def SrcL (K : PySem.W.Frag) (x : Sl) (ys : List Sl) : Prop := ∀ v G, Sl.rel K x v G → ∃ a xs, v = .ref a ∧ SqL K G a xs ∧ Rels K G xs ys
def SrcT (K : PySem.W.Frag) (x : Sl) (ys : List Sl) : Prop := ∀ v G, Sl.rel K x v G → ∃ a xs, v = .ref a ∧ SqT K G a xs ∧ Rels K G xs ys
theorem src_lst {K : PySem.W.Frag} {ds : List PyData} : SrcL K (.d (.list ds)) (ds.map Sl.d) := fun v G r => by
  cases r with
  | lst s t => exact ⟨_, _, rfl, .of s, rels_rps t⟩
theorem src_tup {K : PySem.W.Frag} {ds : List PyData} : SrcT K (.d (.tuple ds)) (ds.map Sl.d) := fun v G r => by
  cases r with
  | tup s t => exact ⟨_, _, rfl, s, rels_rps t⟩
theorem src_sts {K : PySem.W.Frag} {ps : List Stb} : SrcL K (.sts ps) (ps.map Sl.st) := fun v G r => by
  obtain ⟨a, xs, e, s, t⟩ := r
  exact ⟨a, xs, e, .of s, rels_al t⟩
/-- the script -/
def scrStb (K : PySem.W.Frag) (a : Addr) (ns : List Int) : Stb := ⟨fun v H => v = .ref a ∧ SqL K H a (ns.map V.int), fun v H H' h q => ⟨q.1, sqL_ext q.2 h⟩⟩
theorem rps_ints {K : PySem.W.Frag} {H : Hp} : ∀ ns : List Int, Rps K H (ns.map V.int) (ns.map PyData.int)
  | [] => .nil
  | n :: ns => .cons (.int n) (rps_ints ns)
theorem src_scr {K : PySem.W.Frag} {a : Addr} {ns : List Int} : SrcL K (.st (scrStb K a ns)) ((ns.map PyData.int).map Sl.d) := fun v G r => ⟨a, _, r.1, r.2, rels_rps (rps_ints ns)⟩
/-! ### comprehensions -/
theorem RS.wipe {K : PySem.W.Frag} {H : Hp} {σ : L2.St} {ρ : Rho} {i : Nat} (r : RS K H σ ρ) : RS K H (σ.set i Option.none) (ρ.set i Option.none) := by
  refine ⟨by rw [List.length_set, List.length_set]; exact r.1, fun j y e => ?_⟩
  rw [List.getElem?_set] at e ⊢
  split at e
  · split at e <;> cases e
  · rename_i q
    rw [if_neg q]
    exact r.2 j y e
section
variable {Φ : Sl → Bd → Prop} {n : Str} {pn : Pos} {i : Nat} {scope : Scope} {elt iter : Expr}
/-- what stands at a turn of the comprehension -/
def LcP (X : Cx) (w : Wd) (ρ : Rho) (σ : L2.St) (B : HG) (D : Addr) (I : Nat → List PyData → Bd → Prop) (j : Nat) (H : Hp) : Prop :=
  ∃ (A : HG) (acc : List V) (ds : List PyData) (b : Bd), A.H = H ∧ Ex2 B A ∧ acc.length ≤ j ∧ A.H D = some (.lst acc) ∧ A.G D = none ∧ Rps X.K A.G acc ds ∧ RS X.K A.G σ ρ ∧ Ok X.K w b A ∧ I j ds b
theorem LcP.end_ {B : HG} {D : Addr} {σ : L2.St} {I : Nat → List PyData → Bd → Prop} {H : Hp} {Q : VK} {m : Nat} (h : LcP X w ρ σ B D I m H) (hD : B.H D = none) (hk : Ex2 w.H0 B) (hI : ∀ r b, I m r b → Φ (.d (.list r)) b)
    (c : ∀ v x b' (H' : HG), Ex2 B H' → Ok X.K w b' H' → Sl.rel X.K x v H'.G → Φ x b' → Q v H'.H) : Q (.ref D) H := by
  obtain ⟨A, acc, ds, b, rfl, x, hl, hd, g, rp, rs, o, i⟩ := h
  have k : ∀ c u, A.G c = some u → upd A.G D (.lst acc) c = some u := fun c u q => (upd_ne (ne_of_none q g)).trans q
  have sub : ∀ c u, upd A.G D (.lst acc) c = some u → A.H c = some u := fun c u q => by
    by_cases z : c = D
    · subst z
      rw [upd_same] at q
      rw [hd]
      exact q
    · rw [upd_ne z] at q
      exact A.sub _ _ q
  have hid : ∀ c u, A.H c = some u → upd A.G D (.lst acc) c = none → (∃ xs, u = .lst xs) ∨ ∃ kvs, u = .dK kvs := fun c u q q2 => by
    by_cases z : c = D
    · subst z
      rw [upd_same] at q2
      cases q2
    · rw [upd_ne z] at q2
      exact A.hid c u q q2
  refine c (.ref D) (.d (.list ds)) b ⟨A.H, upd A.G D (.lst acc), sub, hid⟩ ⟨x.ext.trans (ExtS.of k), fun c u q q2 => ?_⟩ ⟨o.1.trans (Fr.of k), ⟨o.2.1.ext.trans (ExtS.of k), fun c u q q2 => ?_⟩, o.2.2.1.same k, o.2.2.2⟩ ?_ (hI ds b i)
  · obtain ⟨z1, z2⟩ := x.keep c u q q2
    exact ⟨z1, (upd_ne (ne_of_none q hD)).trans z2⟩
  · obtain ⟨z1, z2⟩ := o.2.1.keep c u q q2
    exact ⟨z1, (upd_ne (ne_of_none (hk.keep c u q q2).1 hD)).trans z2⟩
  · exact .lst upd_same (Rps.ext (ExtS.of k) _ _ rp)
theorem LcP.start {B : HG} {D : Addr} {σ : L2.St} {I : Nat → List PyData → Bd → Prop} (hD : B.H D = none) (rs : RS X.K B.G σ ρ) (o : Ok X.K w b B) (i0 : I 0 [] b) : LcP X w ρ σ B D I 0 (upd B.H D (.lst [])) := by
  have sub : ∀ c u, B.G c = some u → upd B.H D (.lst []) c = some u := fun c u q => (upd_ne (ne_of_none q (HG.none hD))).trans (B.sub _ _ q)
  have hid : ∀ c u, upd B.H D (.lst []) c = some u → B.G c = none → (∃ xs, u = .lst xs) ∨ ∃ kvs, u = .dK kvs := fun c u q q2 => by
    by_cases z : c = D
    · subst z
      rw [upd_same] at q
      exact .inl ⟨_, (Option.some.inj q).symm⟩
    · rw [upd_ne z] at q
      exact B.hid c u q q2
  have kp : Ex2 B ⟨upd B.H D (.lst []), B.G, sub, hid⟩ := ⟨ExtS.refl _, fun c u q q2 => ⟨(upd_ne (ne_of_none q hD)).trans q, q2⟩⟩
  exact ⟨⟨upd B.H D (.lst []), B.G, sub, hid⟩, [], [], b, rfl, kp, Nat.le_refl 0, upd_same, HG.none (A := B) hD, .nil, rs, ⟨o.1, o.2.1.trans kp, o.2.2.1, o.2.2.2⟩, i0⟩
theorem LcP.turn {B A4 : HG} {D : Addr} {σ : L2.St} {I : Nat → List PyData → Bd → Prop} {j : Nat} {acc : List V} {ds : List PyData} {v : V} {d : PyData} (hD : B.H D = none) (hk : Ex2 w.H0 B) (x : Ex2 B A4) (hl : acc.length ≤ j) (hd : A4.H D = some (.lst acc)) (g : A4.G D = none) (rp : Rps X.K A4.G acc ds) (rs : RS X.K A4.G σ ρ) (o : Ok X.K w b A4)
    (rv : Rp X.K A4.G v d) (i : I (j + 1) (ds ++ [d]) b) : LcP X w ρ σ B D I (j + 1) (upd A4.H D (.lst (acc ++ [v]))) := by
  have sub : ∀ c u, A4.G c = some u → upd A4.H D (.lst (acc ++ [v])) c = some u := fun c u q => (upd_ne (ne_of_none q g)).trans (A4.sub _ _ q)
  have hid : ∀ c u, upd A4.H D (.lst (acc ++ [v])) c = some u → A4.G c = none → (∃ xs, u = .lst xs) ∨ ∃ kvs, u = .dK kvs := fun c u q q2 => by
    by_cases z : c = D
    · subst z
      rw [upd_same] at q
      exact .inl ⟨_, (Option.some.inj q).symm⟩
    · rw [upd_ne z] at q
      exact A4.hid c u q q2
  refine ⟨⟨_, A4.G, sub, hid⟩, _, _, b, rfl, ⟨x.ext, fun c u q q2 => ?_⟩, by rw [List.length_append]; exact Nat.succ_le_succ hl, upd_same, g, rp.append (.cons rv .nil), rs, ⟨o.1, ⟨o.2.1.ext, fun c u q q2 => ?_⟩, o.2.2.1, o.2.2.2⟩, i⟩
  · obtain ⟨z1, z2⟩ := x.keep c u q q2
    exact ⟨(upd_ne (ne_of_none q hD)).trans z1, z2⟩
  · obtain ⟨z1, z2⟩ := o.2.1.keep c u q q2
    exact ⟨(upd_ne (ne_of_none (hk.keep c u q q2).1 hD)).trans z1, z2⟩
/-- one turn, in the block's context -/
theorem lc_step {B : HG} {D : Addr} {σ : L2.St} {I : Nat → List PyData → Bd → Prop} {j : Nat} {H : Hp} {v : V} {y : Sl} {tt : TT} {te : TE} (hj : j < sizeLine) (hP : LcP X w ρ σ B D I j H) (hD : B.H D = none) (hk : Ex2 w.H0 B) (hv : ∀ A : HG, Ex2 B A → Sl.rel X.K y v A.G)
    (h : ∀ (A : HG) ds b (Q : Bool → Hp → Prop), RS X.K A.G ((σ.set i none).set i (some v)) ((ρ.set i none).set i (some y)) → Ok X.K w b A → I j ds b →
      (∀ k b' (A' : HG), Ex2 A A' → Ok X.K w b' A' → (k = false → I (j + 1) ds b') → (k = true → ∀ Q2 : VK, (∀ z d b'' (A'' : HG), Ex2 A' A'' → Ok X.K w b'' A'' → Rp X.K A''.G z d → I (j + 1) (ds ++ [d]) b'' → Q2 z A''.H) → te ((σ.set i none).set i (some v)) A'.H Q2) → Q k A'.H) → tt ((σ.set i none).set i (some v)) A.H Q) :
    tt ((σ.set i none).set i (some v)) H fun k H3 => if k = true then te ((σ.set i none).set i (some v)) H3 fun z H4 => ∃ acc, H4 D = some (.lst acc) ∧ acc.length < sizeLine ∧ LcP X w ρ σ B D I (j + 1) (upd H4 D (.lst (acc ++ [z]))) else LcP X w ρ σ B D I (j + 1) H3 := by
  obtain ⟨A, acc, ds, b, rfl, x, hl, hd, g, rp, rs, o, i1⟩ := hP
  refine h A ds b _ (rs.wipe.set (hv A x)) o i1 fun k b' A' x' o' hf ht => ?_
  obtain ⟨hd', g'⟩ := x'.keep _ _ hd g
  cases k with
  | false =>
    rw [if_neg Bool.false_ne_true]
    exact ⟨A', acc, ds, b', rfl, x.trans x', Nat.le_succ_of_le hl, hd', g', Rps.ext x'.ext _ _ rp, rs.ext x'.ext, o', hf rfl⟩
  | true =>
    rw [if_pos rfl]
    refine ht rfl _ fun z d b'' A'' x'' o'' rz i2 => ?_
    obtain ⟨hd2, g2⟩ := x''.keep _ _ hd' g'
    refine ⟨acc, hd2, Nat.lt_of_le_of_lt hl hj, LcP.turn hD hk ((x.trans x').trans x'') hl hd2 g2 (Rps.ext (x'.trans x'').ext _ _ rp) (rs.ext (x'.trans x'').ext) o'' rz i2⟩

/-- what the parts of a comprehension give, in its block -/
def sBlkE (X : Cx) (scope : Scope) (e : Expr) : TE := fun σ H Q => ∀ s0 H0 C cl fp, sE (X.blk s0 H0 scope (compEnvC scope cl C X.env) fp) e σ H Q
def sBlkT (X : Cx) (scope : Scope) (e : Expr) : TT := fun σ H Q => ∀ s0 H0 C cl fp, sT (X.blk s0 H0 scope (compEnvC scope cl C X.env) fp) e σ H Q
/-- within the block -/
def BE (X : Cx) (scope : Scope) (w : Wd) (ρ : Rho) (b : Bd) (e : Expr) (Φ : Sl → Bd → Prop) : Prop := ∀ s0 H0 C cl fp, JE (X.blk s0 H0 scope (compEnvC scope cl C X.env) fp) w.no ρ b e Φ
def BT (X : Cx) (scope : Scope) (w : Wd) (ρ : Rho) (b : Bd) (e : Expr) (Φ : Bool → Bd → Prop) : Prop := ∀ s0 H0 C cl fp, JT (X.blk s0 H0 scope (compEnvC scope cl C X.env) fp) w.no ρ b e Φ
theorem je_lc (hc : X.calm = true) (hN : X.N.Nodup) (ok : BlkOk X.N X.env.scope scope [(n, i)])
    (hg : ∀ (s : Shared) (H : Hp) (C : Addr) (cl : List (Str × Addr)) (fp : List Addr), PG (X.blk s H scope (compEnvC scope cl C X.env) fp) (.Name n pn) (gName i))
    (h : JE X w ρ b iter fun x b1 => ∃ ys : List Sl, SrcL X.K x ys ∧ ys.length ≤ sizeLine ∧ ∃ I : Nat → List PyData → Bd → Prop, I 0 [] b1 ∧
      (∀ j y ds b, ys[j]? = some y → I j ds b → BE X scope w ((ρ.set i none).set i (some y)) b elt fun z b' => ∃ d, z = .d d ∧ I (j + 1) (ds ++ [d]) b') ∧ ∀ r b, I ys.length r b → Φ (.d (.list r)) b)
    (hs : ∀ x, foldedSetIterable iter X.env x = pure x := by intro _; rfl) : JE X w ρ b (.ListComp elt [⟨.Name n pn, iter, [], 0⟩] scope pos) Φ :=
  je_of (pe_lc (te := sBlkE X scope elt) hc hN (pi_list pE) ok hg (fun _ _ _ _ _ => pts_nil) (fun s0 H0 C cl fp => ⟨fun pins s σ H Q I h => h s0 H0 C cl fp pins s I⟩) hs) fun σ H0 Q rs o c => by
    refine h σ H0 _ rs o fun v x b1 B a1 a2 a3 ⟨ys, hsrc, hz, I, i0, it, ie⟩ => ?_
    obtain ⟨a, xs, rfl, sq, rl⟩ := hsrc v B.G a3
    have hl := rl.length
    refine ⟨a, rfl, ⟨xs, HG.sql sq⟩, fun D hD => ?_⟩
    refine lc_list (xs := xs) (LcP X w ρ σ B D I) (LcP.start hD (rs.ext a1.ext) a2 i0) (fun j H _ z => let ⟨A, _, _, _, e, x, _⟩ := z; by rw [← e]; exact HG.sql (sqL_ext sq x.ext)) ?_ ?_
    · intro j v H hv hP
      obtain ⟨y, hy, hr⟩ := rl.get hv
      have hj : j < xs.length := (List.getElem?_eq_some_iff.mp hv).1
      refine ⟨by show ((σ.set i none).set i (some v)).set i none = σ.set i none; rw [List.set_set, List.set_set], ?_⟩
      refine lc_step (tt := tYes) (by omega) hP hD a2.2.1 (fun A x => Sl.ext x.ext hr) fun A ds b Q' r o i1 q => ?_
      refine q true b A (Ex2.refl A) o (fun z => by cases z) fun _ Q2 q2 => fun s0 H0 C cl fp => it j y ds b hy i1 s0 H0 C cl fp _ A Q2 r o fun z x b'' A'' x1 o1 r1 ⟨d, ex, i2⟩ => ?_
      subst ex
      exact q2 z d b'' A'' x1 o1 r1 i2
    · intro H hP
      rw [hl] at hP
      exact LcP.end_ hP hD a2.2.1 ie fun v x b' H' x1 => c v x b' H' (a1.trans x1)
theorem je_lcT (hc : X.calm = true) (hN : X.N.Nodup) (ok : BlkOk X.N X.env.scope scope [(n, i)])
    (hg : ∀ (s : Shared) (H : Hp) (C : Addr) (cl : List (Str × Addr)) (fp : List Addr), PG (X.blk s H scope (compEnvC scope cl C X.env) fp) (.Name n pn) (gName i))
    (h : JE X w ρ b iter fun x b1 => ∃ ys : List Sl, SrcT X.K x ys ∧ ys.length ≤ sizeLine ∧ ∃ I : Nat → List PyData → Bd → Prop, I 0 [] b1 ∧
      (∀ j y ds b, ys[j]? = some y → I j ds b → BE X scope w ((ρ.set i none).set i (some y)) b elt fun z b' => ∃ d, z = .d d ∧ I (j + 1) (ds ++ [d]) b') ∧ ∀ r b, I ys.length r b → Φ (.d (.list r)) b)
    (hs : ∀ x, foldedSetIterable iter X.env x = pure x := by intro _; rfl) : JE X w ρ b (.ListComp elt [⟨.Name n pn, iter, [], 0⟩] scope pos) Φ :=
  je_of (pe_lc (te := sBlkE X scope elt) hc hN (pi_tup pE) ok hg (fun _ _ _ _ _ => pts_nil) (fun s0 H0 C cl fp => ⟨fun pins s σ H Q I h => h s0 H0 C cl fp pins s I⟩) hs) fun σ H0 Q rs o c => by
    refine h σ H0 _ rs o fun v x b1 B a1 a2 a3 ⟨ys, hsrc, hz, I, i0, it, ie⟩ => ?_
    obtain ⟨a, xs, rfl, sq, rl⟩ := hsrc v B.G a3
    have hl := rl.length
    refine ⟨a, rfl, ⟨xs, HG.sqt sq⟩, fun D hD => ?_⟩
    refine lc_tup (xs := xs) (LcP X w ρ σ B D I) (LcP.start hD (rs.ext a1.ext) a2 i0) (fun j H _ z => let ⟨A, _, _, _, e, x, _⟩ := z; by rw [← e]; exact HG.sqt (sqT_ext sq x.ext)) ?_ ?_
    · intro j v H hv hP
      obtain ⟨y, hy, hr⟩ := rl.get hv
      have hj : j < xs.length := (List.getElem?_eq_some_iff.mp hv).1
      refine ⟨by show ((σ.set i none).set i (some v)).set i none = σ.set i none; rw [List.set_set, List.set_set], ?_⟩
      refine lc_step (tt := tYes) (by omega) hP hD a2.2.1 (fun A x => Sl.ext x.ext hr) fun A ds b Q' r o i1 q => ?_
      refine q true b A (Ex2.refl A) o (fun z => by cases z) fun _ Q2 q2 => fun s0 H0 C cl fp => it j y ds b hy i1 s0 H0 C cl fp _ A Q2 r o fun z x b'' A'' x1 o1 r1 ⟨d, ex, i2⟩ => ?_
      subst ex
      exact q2 z d b'' A'' x1 o1 r1 i2
    · intro H hP
      rw [hl] at hP
      exact LcP.end_ hP hD a2.2.1 ie fun v x b' H' x1 => c v x b' H' (a1.trans x1)
/-- with a test -/
theorem lcI_read {tst : Expr} {σ : L2.St} {H0 : HG} {Q : VK} (rs : RS X.K H0.G σ ρ) (o : Ok X.K w b H0) (c : ∀ v x b' (H' : HG), Ex2 H0 H' → Ok X.K w b' H' → Sl.rel X.K x v H'.G → Φ x b' → Q v H'.H)
    (h : JE X w ρ b iter fun x b1 => ∃ ys : List Sl, SrcL X.K x ys ∧ ys.length ≤ sizeLine ∧ ∃ I : Nat → List PyData → Bd → Prop, I 0 [] b1 ∧
      (∀ j y ds b, ys[j]? = some y → I j ds b → BT X scope w ((ρ.set i none).set i (some y)) b tst fun k b' => (k = false → I (j + 1) ds b') ∧ (k = true → BE X scope w ((ρ.set i none).set i (some y)) b' elt fun z b' => ∃ d, z = .d d ∧ I (j + 1) (ds ++ [d]) b')) ∧ ∀ r b, I ys.length r b → Φ (.d (.list r)) b) :
    tLc (iList X.K (sE X iter)) (gName i) (sBlkT X scope tst) (sBlkE X scope elt) [i] σ H0.H Q := by
  refine h σ H0 _ rs o fun v x b1 B a1 a2 a3 ⟨ys, hsrc, hz, I, i0, it, ie⟩ => ?_
  obtain ⟨a, xs, rfl, sq, rl⟩ := hsrc v B.G a3
  have hl := rl.length
  refine ⟨a, rfl, ⟨xs, HG.sql sq⟩, fun D hD => ?_⟩
  refine lc_list (xs := xs) (LcP X w ρ σ B D I) (LcP.start hD (rs.ext a1.ext) a2 i0) (fun j H _ z => let ⟨A, _, _, _, e, x, _⟩ := z; by rw [← e]; exact HG.sql (sqL_ext sq x.ext)) ?_ ?_
  · intro j v H hv hP
    obtain ⟨y, hy, hr⟩ := rl.get hv
    have hj : j < xs.length := (List.getElem?_eq_some_iff.mp hv).1
    refine ⟨by show ((σ.set i none).set i (some v)).set i none = σ.set i none; rw [List.set_set, List.set_set], ?_⟩
    refine lc_step (tt := sBlkT X scope tst) (by omega) hP hD a2.2.1 (fun A x => Sl.ext x.ext hr) fun A ds b Q' r o i1 q => ?_
    intro s0 H0 C cl fp
    refine it j y ds b hy i1 s0 H0 C cl fp _ A Q' r o fun k b' A' x' o' ⟨q1, q2⟩ => q k b' A' x' o' q1 fun hk Q2 q3 => ?_
    intro s0 H0 C cl fp
    refine q2 hk s0 H0 C cl fp _ A' Q2 (r.ext x'.ext) o' fun z x b'' A'' x1 o1 r1 ⟨d, ex, i2⟩ => ?_
    subst ex
    exact q3 z d b'' A'' x1 o1 r1 i2
  · intro H hP
    rw [hl] at hP
    exact LcP.end_ hP hD a2.2.1 ie fun v x b' H' x1 => c v x b' H' (a1.trans x1)
theorem je_lcI {tst : Expr} (hc : X.calm = true) (hN : X.N.Nodup) (ok : BlkOk X.N X.env.scope scope [(n, i)])
    (hg : ∀ (s : Shared) (H : Hp) (C : Addr) (cl : List (Str × Addr)) (fp : List Addr), PG (X.blk s H scope (compEnvC scope cl C X.env) fp) (.Name n pn) (gName i))
    (h : JE X w ρ b iter fun x b1 => ∃ ys : List Sl, SrcL X.K x ys ∧ ys.length ≤ sizeLine ∧ ∃ I : Nat → List PyData → Bd → Prop, I 0 [] b1 ∧
      (∀ j y ds b, ys[j]? = some y → I j ds b → BT X scope w ((ρ.set i none).set i (some y)) b tst fun k b' => (k = false → I (j + 1) ds b') ∧ (k = true → BE X scope w ((ρ.set i none).set i (some y)) b' elt fun z b' => ∃ d, z = .d d ∧ I (j + 1) (ds ++ [d]) b')) ∧ ∀ r b, I ys.length r b → Φ (.d (.list r)) b)
    (hs : ∀ x, foldedSetIterable iter X.env x = pure x := by intro _; rfl) : JE X w ρ b (.ListComp elt [⟨.Name n pn, iter, [tst], 0⟩] scope pos) Φ :=
  je_of (pe_lc (te := sBlkE X scope elt) (tt := sBlkT X scope tst) hc hN (pi_list pE) ok hg (fun s0 H0 C cl fp => pts_one ⟨fun pins s σ H Q I h => h s0 H0 C cl fp pins s I⟩) (fun s0 H0 C cl fp => ⟨fun pins s σ H Q I h => h s0 H0 C cl fp pins s I⟩) hs) fun σ H0 Q rs o c => lcI_read rs o c h
/-- a statement of its own -/
theorem js_setLcI {tst : Expr} {y : Str} {py : Pos} {spos : Pos} (k : Nat) (hc : X.calm = true) (hN : X.N.Nodup) (hy : X.N[k]? = some y) (hyl : X.env.scope.names.lookup y = some .local) (ok : BlkOk X.N X.env.scope scope [(n, i)])
    (hg : ∀ (s : Shared) (H : Hp) (C : Addr) (cl : List (Str × Addr)) (fp : List Addr), PG (X.blk s H scope (compEnvC scope cl C X.env) fp) (.Name n pn) (gName i))
    (hsw : swapsWith (.ListComp elt [⟨.Name n pn, iter, [tst], 0⟩] scope pos) (some (.Name y py)) spos.line X.env = pure true)
    (h : JE X w ρ b iter fun x b1 => ∃ ys : List Sl, SrcL X.K x ys ∧ ys.length ≤ sizeLine ∧ ∃ I : Nat → List PyData → Bd → Prop, I 0 [] b1 ∧
      (∀ j y ds b, ys[j]? = some y → I j ds b → BT X scope w ((ρ.set i none).set i (some y)) b tst fun k b' => (k = false → I (j + 1) ds b') ∧ (k = true → BE X scope w ((ρ.set i none).set i (some y)) b' elt fun z b' => ∃ d, z = .d d ∧ I (j + 1) (ds ++ [d]) b')) ∧ ∀ r b, I ys.length r b → D.nx (ρ.set k (some (.d (.list r)))) b)
    (hs : ∀ x, foldedSetIterable iter X.env x = pure x := by intro _; rfl) : JS X w ρ b (.Assign [.Name y py] (.ListComp elt [⟨.Name n pn, iter, [tst], 0⟩] scope pos) spos) D :=
  js_of (ps_setLc (i := k) (te := sBlkE X scope elt) (tt := sBlkT X scope tst) hc hN hy hyl hsw (pi_list pE) ok hg (fun s0 H0 C cl fp => pts_one ⟨fun pins s σ H Q I h => h s0 H0 C cl fp pins s I⟩) (fun s0 H0 C cl fp => ⟨fun pins s σ H Q I h => h s0 H0 C cl fp pins s I⟩) hs) fun σ H0 E rs o c =>
    lcI_read (Φ := fun x b => D.nx (ρ.set k (some x)) b) (Q := fun v H1 => gName k v σ H1 E.nx) rs o (fun v x b' H' x1 o1 r1 q => c.nx _ _ b' H' x1 ((rs.ext x1.ext).set r1) o1 q) h
end
end CR

namespace CR
open PySem PySem.Spec PySem.W PySem.SeqAt PyProof.Rows L2 LamX
/-! ### except clauses in a row, with names or without -/
/-- the clauses hds do W's work with an exception that lies in the air -/
def Catch (X : Cx) (hds : List ExceptHandler) (W : Ends → WX) : Prop :=
  ∀ (pn : List (Addr × Obj)) (τ : L2.St) (G : Hp) (x : Addr) (C : Value) (dd : Option Addr) (B : Heap) (t₀ t : Shared) (D : Ends), X.Ok → Inv X pn τ G t₀ → (∀ b o, t₀.heap.get? b = some o → b ∉ frs X.stack → B.get? b = some o) →
    HandSPX.FlyingZ B (X.env :: X.outer) x (Zc C dd) t.heap → t₀.heap.UpToSlots t.heap → G x = none → t.os = t₀.os → AllBare t.gens → W D C dd τ G →
    wpAny (model X.prog X.w) X.A (handleBy (.ref x) X.env hds) (SP X pn D) X.xe t
theorem catch_nil {X : Cx} : Catch X [] fun _ _ _ _ _ => False := fun _ _ _ _ _ _ _ _ _ _ _ _ _ _ _ _ _ _ h => h.elim
/-- behind «as n», n in slot i -/
def Ends.gone (D : Ends) : Option Nat → Ends
  | none => D
  | some i => { nx := fun τ G => D.nx (τ.set i none) G, rt := D.rt, bk := fun τ G => D.bk (τ.set i none) G, ct := fun τ G => D.ct (τ.set i none) G }
def held (x : Addr) (τ : L2.St) : Option Nat → L2.St
  | none => τ
  | some i => τ.set i (some (.ref x))
def wCatch (K : PySem.W.Frag) (c : Value) (i : Option Nat) (ts : Addr → Value → Option Addr → TS) (W : Ends → WX) : Ends → WX := fun D C dd τ G =>
  ∃ b, exmOne K C c = some b ∧ (b = true → ∀ x, G x = none → ts x C dd (Ends.gone D i) (held x τ i) G) ∧ (b = false → W D C dd τ G)
section
variable {X : Cx} {y : Str} {c : Value} {sb : List Stmt} {s0 : Stmt} {p1 p2 : Pos} {hds : List ExceptHandler} {W : Ends → WX} {ts : Addr → Value → Option Addr → TS}
/-- the error that flies is no frame of the callers -/
theorem fly_out {B : Heap} {l : List Env} {x : Addr} {Z : Obj → Prop} {h : Heap} (f : HandSPX.FlyingZ B l x Z h) : ∃ o vs, h.get? x = some o ∧ Z o ∧ o.data = .fields vs ∧ x ∉ frs l := by
  obtain ⟨o, vs, e, z, d⟩ := f.there
  refine ⟨o, vs, e, z, d, fun hm => ?_⟩
  obtain ⟨_, o', e', nf⟩ := f.2.2.1.mem hm
  rw [e] at e'
  cases e'
  exact nf _ d
theorem catch_cons {nm : Option Str} {i : Option Nat} (hf : X.env.frame = some X.env.locals) (hstk : X.stack = X.env :: X.outer) (hn : ∀ n, nm = some n → ∃ j, i = some j ∧ X.N.Nodup ∧ X.N[j]? = some n ∧ X.env.kindOf n = some .local) (hn0 : nm = none → i = none) (hc : Names X y c)
    (hsu : ∀ (x : Addr) (ox : Obj) (C : Value) (dd : Option Addr) (pn : List (Addr × Obj)), Zc C dd ox → (∃ vs, ox.data = .fields vs) → PSs (X.suite x ((x, ox) :: pn)) (s0 :: sb) (ts x C dd)) (r : Catch X hds W) :
    Catch X (.ExceptHandler (some (.Name y p1)) nm (s0 :: sb) p2 :: hds) (wCatch X.K c i ts W) := by
  intro pn τ G x C dd B t₀ t D ok I nb fly up na os ag hw
  obtain ⟨b, hb, hy, hno⟩ := hw
  have frame : ∀ {h : Heap}, HandSPX.FlyingZ B (X.env :: X.outer) x (Zc C dd) h → ∃ o vs, h.get? x = some o ∧ Zc C dd o ∧ o.data = .fields vs ∧ x ≠ X.env.locals ∧ x ∉ X.fs := fun {h} f => by
    obtain ⟨o, vs, e, z, d, nf⟩ := fly_out f
    refine ⟨o, vs, e, z, d, fun q => nf (List.mem_filterMap.mpr ⟨X.env, List.mem_cons_self, by rw [hf, q]⟩), fun q => ?_⟩
    obtain ⟨e1, m1, m2⟩ := List.mem_filterMap.mp q
    exact nf (List.mem_filterMap.mpr ⟨e1, List.mem_cons_of_mem _ m1, m2⟩)
  obtain ⟨ox, vx, ex, zx, dx, n1, n2⟩ := frame fly
  have J := I.landed nb fly.1 up os ag
  have SU := J.suite ex dx na n1 n2
  have mt := exm_one (M := model X.prog X.w) J.kIn (fun A Q E s k q => wpAny_typeOf_ref (k _ _ ex) (by rw [zx.1]; exact q)) hb
  refine wpAny_handleBy_cons (codeAny_handlers_test ?_) (fun z => by cases z)
  have nameIs : ∀ {Q E : Value → Shared → Prop}, Q c t → wpAny (model X.prog X.w) (X.A.mark (some (.ref x))) (eval (.Name y p1) X.env) Q E t := fun {Q E} q => by
    obtain ⟨g1, g2, g3 | ⟨g3, g4, g5⟩⟩ := hc
    · exact ld_glob (X := X.suite x ((x, ox) :: (X.pn ++ pn))) SU g1 g3 q g2
    · exact ld_blt (X := X.suite x ((x, ox) :: (X.pn ++ pn))) SU g1 g3 g4 q g5 g2
  refine nameIs (mt.here ?_)
  cases b with
  | false => exact r pn τ G x C dd B t₀ t D ok I nb fly up na os ag (hno rfl)
  | true =>
    have key : ∀ {h : Heap}, HandSPX.FlyingZ B (X.env :: X.outer) x (Zc C dd) h → t.heap.UpToSlots h → ∃ o, Inv (X.suite x ((x, o) :: (X.pn ++ pn))) [] τ G { t with heap := h } ∧ Zc C dd o ∧ ∃ vs, o.data = .fields vs := fun {h} f u => by
      obtain ⟨o, vs, e, z, d, m1, m2⟩ := frame f
      exact ⟨o, (I.landed (s' := { t with heap := h }) nb f.1 (up.trans u) os ag).suite e d na m1 m2, z, vs, d⟩
    cases nm with
    | none =>
      obtain rfl := hn0 rfl
      refine codeAny_handlers_suite (HandSPX.lands_againZ fly fun h f u => ?_)
      obtain ⟨o, S, z, hd⟩ := key f u
      refine wpAny_mono ((hsu x o C dd (X.pn ++ pn) z hd).run [] _ _ G _ S (hy rfl x na)) (fun fl s6 hsp => ?_) (fun _ _ z => z.elim)
      cases fl with
      | next => exact let ⟨τ6, G6, S6, q6⟩ := hsp; ⟨τ6, G6, S6.unsuite ok, q6⟩
      | brk => exact let ⟨τ6, G6, S6, q6⟩ := hsp; ⟨τ6, G6, S6.unsuite ok, q6⟩
      | cont => exact let ⟨τ6, G6, S6, q6⟩ := hsp; ⟨τ6, G6, S6.unsuite ok, q6⟩
      | ret u => exact let ⟨v6, τ6, G6, S6, r6, q6⟩ := hsp; ⟨v6, τ6, G6, S6.unsuite ok, r6, q6⟩
    | some n =>
      obtain ⟨j, rfl, hN, hj, hl⟩ := hn n rfl
      refine codeAny_handlers_suite_as (HandSPX.lands_againZ fly fun h f u => ?_)
      obtain ⟨o, S, z, hd⟩ := key f u
      refine store_ok (X := X.suite x ((x, o) :: (X.pn ++ pn))) (v := .ref x) S hN hj (.inl hl) rfl (fun s5 S5 => ?_) (.inr hl)
      refine wpAny_mono ((hsu x o C dd (X.pn ++ pn) z hd).run [] s5 _ G _ S5 (hy rfl x na)) (fun fl s6 hsp => ?_) (fun _ _ z => z.elim)
      have away : ∀ {τ6 : L2.St} {G6 : Hp} {Q : Shared → Prop}, Inv (X.suite x ((x, o) :: (X.pn ++ pn))) [] τ6 G6 s6 → (∀ s7, Inv X pn (τ6.set j none) G6 s7 → Q s7) →
          wpAny (model X.prog X.w) X.A (do bindName X.env n .none; unbindBehindTheSuite X.env n p2) (fun _ s7 => Q s7) X.xe s6 := fun {_ _ _} S6 k => gone_ok (S6.unsuite ok) hN hj hl k
      cases fl with
      | next => exact let ⟨τ6, G6, S6, q6⟩ := hsp; away S6 fun s7 J7 => ⟨_, _, J7, q6⟩
      | brk => exact let ⟨τ6, G6, S6, q6⟩ := hsp; away S6 fun s7 J7 => ⟨_, _, J7, q6⟩
      | cont => exact let ⟨τ6, G6, S6, q6⟩ := hsp; away S6 fun s7 J7 => ⟨_, _, J7, q6⟩
      | ret u => exact let ⟨v6, τ6, G6, S6, r6, q6⟩ := hsp; away S6 fun s7 J7 => ⟨_, _, _, J7, r6, q6⟩
theorem ps_try_row {h0 : ExceptHandler} {body : List Stmt} {pos : Pos} {tb : WX → TS} (hf : X.env.frame = some X.env.locals) (hstk : X.stack = X.env :: X.outer)
    (hb : ∀ (V : WX) (pn : List (Addr × Obj)) (xe : Value → Shared → Prop), Takes (X.tr pn xe) V → PassesOwn (model X.prog X.w) X.A X.env xe → PSs (X.tr pn xe) body (tb V)) (hh : Catch X (h0 :: hds) W) :
    PS X (.Try body (h0 :: hds) [] [] pos) (fun D σ H => tb (W D) D σ H) := by
  refine ⟨fun pn s σ H D I h => ?_⟩
  have ok := I.ok
  refine wpAny_Try_except (wpAny_mono ((hb (W D) (X.pn ++ pn) _ (fun u s' hx => ?_) PassesOwn.looking).run [] s σ H D (I.toTry _) h) (fun fl s1 hsp => ?_) fun _ _ z => z)
  · obtain ⟨x, B, t₀, pn', τ, G, C, dd, rfl, J, nb, up, sky, na, os, ag, hw⟩ := hx
    have sky' : Sky B (X.env :: X.outer) x (Zc C dd) X.env.locals s'.heap := by
      rw [← hstk]
      exact sky
    exact Sky.land Zc.steady (by rw [ok.frames, hstk]) hf sky' fun h f u => hh pn τ G x C dd B t₀ { s' with heap := h } D ok (J.ofTry ok) nb f (up.trans u) na os ag hw
  · cases fl with
    | next => exact let ⟨τ, G, J, q⟩ := hsp; wpAny_execs_nil ⟨τ, G, J.ofTry ok, q⟩
    | brk => exact let ⟨τ, G, J, q⟩ := hsp; ⟨τ, G, J.ofTry ok, q⟩
    | cont => exact let ⟨τ, G, J, q⟩ := hsp; ⟨τ, G, J.ofTry ok, q⟩
    | ret u => exact let ⟨v, τ, G, J, r, q⟩ := hsp; ⟨v, τ, G, J.ofTry ok, r, q⟩
end
end CR

namespace CR
open PySem PySem.Spec PySem.W PySem.SeqAt PyProof.Rows L2 LamX
variable {X : Cx} {w : Wd} {ρ : Rho} {b : Bd} {e e1 e2 : Expr} {es : List Expr} {st : Stmt} {sts : List Stmt} {pos : Pos} {D : DK} {Φ : Sl → Bd → Prop}
/-! ### closures -/
theorem isClo_ext {q : Str} {params : Arguments} {body : Expr} {scope : Scope} {cl : List (Str × Addr)} {H H' : Hp} {f : Addr} (x : IsClo q params body scope cl H f) (e : ExtS H H') : IsClo q params body scope cl H' f := by
  obtain ⟨dV, pm, c', ctv, a, b, d⟩ := x
  refine ⟨dV, pm, c', ctv, e _ _ a ⟨fun ps => clo_ne ps, fun kvs z => by unfold Clo at z; cases z⟩, e _ _ b codeO_stable, ?_⟩
  cases d with
  | zero e1 h => exact .zero e1 h
  | one td v k e1 ht hl h => exact .one td v k e1 (e _ _ ht ⟨fun _ z => (by cases z), fun _ z => (by cases z)⟩) hl h
def cloStb (q : Str) (params : Arguments) (body : Expr) (scope : Scope) (cl : List (Str × Addr)) : Stb := ⟨fun v H => ∃ f, v = .ref f ∧ IsClo q params body scope cl H f, fun v H H' h ⟨f, e, x⟩ => ⟨f, e, isClo_ext x h⟩⟩
/-- a closure made in the frame of X -/
abbrev cloOf (X : Cx) (params : Arguments) (body : Expr) (scope : Scope) : Stb := cloStb (X.env.qual ++ "<lambda>") params body scope (cloFrom X.env.cells scope.names [])
theorem je_lam {params : Arguments} {body : Expr} {scope : Scope} (hT : w.T ≠ []) (hp : PE X (.Lambda params body scope pos) (tLam w.T (X.env.qual ++ "<lambda>") params body scope (cloFrom X.env.cells scope.names [])))
    (h : Φ (.st (cloOf X params body scope)) b) : JE X w ρ b (.Lambda params body scope pos) Φ :=
  je_of hp fun σ H Q rs o c => by
    have tabs : Tabs w.T H.H := o.2.2.1.1.ext H.sub
    refine ⟨tabs, fun H1 f e1 t1 nf ic => ?_⟩
    classical
    -- what was hidden stays so
    let G1 : Hp := fun a => if (H.H a ≠ none ∧ H.G a = none) then none else H1 a
    have g1 : ∀ a, H.G a ≠ none → G1 a = H1 a := fun a h => if_neg fun z => h z.2
    have g2 : ∀ a, H.H a = none → G1 a = H1 a := fun a h => if_neg fun z => z.1 h
    have sub : ∀ a o, G1 a = some o → H1 a = some o := fun a o h => by
      by_cases z : H.H a ≠ none ∧ H.G a = none
      · have : G1 a = none := if_pos z
        rw [this] at h
        cases h
      · have : G1 a = H1 a := if_neg z
        rw [← this]
        exact h
    have old : ∀ a o, H.H a = some o → H.G a = none → H1 a = some o := fun a o h g => e1 a o h fun ps z => by
      rcases H.hid a o h g with ⟨xs, k⟩ | ⟨kvs, k⟩ <;> rw [k] at z <;> cases z
    have good : ∀ a o, H1 a = some o → (∀ xs, o ≠ .lst xs) → (∀ kvs, o ≠ .dK kvs) → G1 a = some o := fun a o h n1 n2 => by
      by_cases z : H.H a ≠ none ∧ H.G a = none
      · exfalso
        cases q : H.H a with
        | none => exact z.1 q
        | some u =>
          have k := old a u q z.2
          rw [h] at k
          cases k
          rcases H.hid a _ q z.2 with ⟨xs, k⟩ | ⟨kvs, k⟩
          · exact n1 xs k
          · exact n2 kvs k
      · exact (if_neg z : G1 a = H1 a).trans h
    have hid : ∀ a o, H1 a = some o → G1 a = none → (∃ xs, o = .lst xs) ∨ ∃ kvs, o = .dK kvs := fun a o h g => by
      by_cases z : H.H a ≠ none ∧ H.G a = none
      · cases q : H.H a with
        | none => exact absurd q z.1
        | some u =>
          have k := old a u q z.2
          rw [h] at k
          cases k
          exact H.hid a _ q z.2
      · have k : G1 a = H1 a := if_neg z
        rw [k, h] at g
        cases g
    have x2 : Ex2 H ⟨H1, G1, sub, hid⟩ := ⟨fun a o h s => by
      rw [show (⟨H1, G1, sub, hid⟩ : HG).G a = H1 a from g1 a (by rw [h]; simp)]
      exact e1 a o (H.sub _ _ h) s.1, fun a o h g => ⟨old a o h g, if_pos ⟨by rw [h]; simp, g⟩⟩⟩
    have fr : Fr w.T w.a H.G G1 := fun a o h nt na => by
      rw [g1 a (by rw [h]; simp)]
      exact e1 a o (H.sub _ _ h) (nt hT)
    have tb : Tabs w.T G1 := fun p hp => by
      obtain ⟨ps, h1, h2, h3⟩ := t1 p hp
      refine ⟨ps, good _ _ h1 (fun _ z => by cases z) (fun _ z => by cases z), h2, fun pos cv hc => ?_⟩
      obtain ⟨c, a1, a2⟩ := h3 pos cv hc
      exact ⟨c, a1, good _ _ a2 (fun _ z => by unfold CodeO at z; cases z) (fun _ z => by unfold CodeO at z; cases z)⟩
    refine c (.ref f) (.st (cloOf X params body scope)) b ⟨H1, G1, sub, hid⟩ x2 ⟨o.1.trans fr, o.2.1.trans x2, ⟨tb, fun m n hm => ?_⟩, o.2.2.2⟩ ⟨f, rfl, ?_⟩ h
    · refine (o.2.2.1.2 m n hm).of x2.ext fun u q => ?_
      obtain ⟨_, _, _, _, _, z, _⟩ := o.2.2.1.2 m n hm
      show G1 m = some u
      rw [g1 m (by rw [q]; simp)]
      refine e1 m u (H.sub _ _ q) fun ps k => ?_
      rw [z] at q
      rw [k] at q
      cases q
    · obtain ⟨dV, pm, c', ctv, a1, a2, a3⟩ := ic
      refine ⟨dV, pm, c', ctv, good _ _ a1 (fun _ z => by unfold Clo at z; cases z) (fun _ z => by unfold Clo at z; cases z), good _ _ a2 (fun _ z => by unfold CodeO at z; cases z) (fun _ z => by unfold CodeO at z; cases z), ?_⟩
      cases a3 with
      | zero e1 h => exact .zero e1 h
      | one td v k e1 ht hl h => exact .one td v k e1 (good _ _ ht (fun _ z => by cases z) (fun _ z => by cases z)) hl h

/-! ### what a closure sees; _law_heard -/
def maskR (N : List Str) (sc : Scope) (ρ : Rho) : Rho := List.zipWith (fun x o => if sc.names.lookup x = some .free then o else Option.none) N ρ
theorem RS.mask {K : PySem.W.Frag} {H : Hp} {σ : L2.St} {ρ : Rho} {N : List Str} {sc : Scope} (r : RS K H σ ρ) : RS K H (maskS N sc σ) (maskR N sc ρ) := by
  refine ⟨by unfold maskS maskR; rw [List.length_zipWith, List.length_zipWith, r.1], fun i x e => ?_⟩
  unfold maskR at e
  unfold maskS
  rw [List.getElem?_zipWith] at e ⊢
  cases hn : N[i]? with
  | none => rw [hn] at e; simp at e
  | some n =>
    cases hr : ρ[i]? with
    | none => rw [hn, hr] at e; simp at e
    | some o =>
      rw [hn, hr] at e
      have e : (if sc.names.lookup n = some .free then o else Option.none) = some x := by simpa using e
      split at e
      · rename_i hf
        subst e
        obtain ⟨v, h1, h2⟩ := r.2 i x hr
        refine ⟨v, ?_, h2⟩
        rw [h1]
        simp [hf]
      · cases e
/-- the errors that a row of clauses knows: the class, the word that is told, the field that is told (or nought) -/
structure Hd where
  C : Addr
  tag : Str
  fld : Option Str
def suiteT (h : Hd) (i : Nat) : Addr → Value → Option Addr → TS := match h.fld with
  | none => fun _ _ _ => tRet (tTup (tCons (tC (.str h.tag)) (tCons (tC (.int 0)) tNil)))
  | some f => fun x C dd => tRet (tTup (tCons (tC (.str h.tag)) (tCons (tOfErr h.C f x C dd (tVar i)) tNil)))
def wRow (K : PySem.W.Frag) (i : Nat) : List Hd → Ends → WX
  | [] => fun _ _ _ _ _ => False
  | h :: r => wCatch K (.ref h.C) (h.fld.map fun _ => i) (suiteT h i) (wRow K i r)
def heardE (K : PySem.W.Frag) (hs : List Hd) (Q : VK) : XK := fun cls dx H => ∀ τ : L2.St, τ.length = 2 → wRow K 1 hs { nx := fun _ H' => Q .non H', rt := Q } cls dx τ H
def heardT (K : PySem.W.Frag) (hs : List Hd) : (XK → Hp → VK → Prop) → Hp → VK → Prop := fun tl H Q => tl (heardE K hs Q) H fun v H' => ∀ p, H' p = none → Q (.ref p) (upd H' p (.lst [v]))
/-- the same, told of data -/
def heardR (hs : List Hd) (Φ : Sl → Bd → Prop) : Value → Option (Str × PyData) → Bd → Prop := fun cls ed b => ∃ h ∈ hs, cls = .ref h.C ∧ match h.fld with
  | none => Φ (.d (.tuple [.str h.tag, .int 0])) b
  | some f => ∃ d, ed = some (f, d) ∧ Φ (.d (.tuple [.str h.tag, d])) b
/-- the classes of the row are told apart -/
def HdsX (K : PySem.W.Frag) (hs : List Hd) : Prop := hs.Pairwise (fun a b => a.C ≠ b.C) ∧ ∀ h ∈ hs, ∀ g ∈ hs, exmOne K (.ref h.C) (.ref g.C) = some (decide (h.C = g.C))
theorem heardE_of {K : PySem.W.Frag} {hs : List Hd} {Q : VK} {H0 H : HG} {cls : Value} {dx : Option Addr} {ed : Option (Str × PyData)} (hx : HdsX K hs) (o : Ok K w b H) (er : ErR K H.G dx ed) (q : heardR hs Φ cls ed b) (x : Ex2 H0 H)
    (c : ∀ v x b' (H' : HG), Ex2 H0 H' → Ok K w b' H' → Sl.rel K x v H'.G → Φ x b' → Q v H'.H) : heardE K hs Q cls dx H.H := by
  obtain ⟨h, hm, ec, q⟩ := q
  subst ec
  intro τ hτ
  have two : (2 : Nat) ≤ sizeLine := by decide
  have done : ∀ y, H.H y = none → suiteT h 1 y (.ref h.C) dx (Ends.gone { nx := fun _ H' => Q .non H', rt := Q } (h.fld.map fun _ => 1)) (held y τ (h.fld.map fun _ => 1)) H.H := fun y _ => by
    unfold suiteT
    cases hf : h.fld with
    | none =>
      rw [hf] at q
      exact ⟨two, fun p hp => c _ (.d (.tuple [.str h.tag, .int 0])) b (H.upd p _) (x.trans (Ex2.upd hp)) (o.upd2 hp) (.tup (.of upd_same) (.cons (.str _) (.cons (.int _) .nil))) q⟩
    | some f =>
      rw [hf] at q
      obtain ⟨d, ed', q⟩ := q
      subst ed'
      obtain ⟨dd, v, e1, e2, e3⟩ := er
      refine ⟨.ref y, ?_, rfl, rfl, dd, v, e1, H.sub _ _ e2, two, fun p hp => ?_⟩
      · show (τ.set 1 (some (.ref y)))[1]? = _
        rw [List.getElem?_set_self (by omega)]
      · exact c _ (.d (.tuple [.str h.tag, d])) b (H.upd p _) (x.trans (Ex2.upd hp)) (o.upd2 hp) (.tup (.of upd_same) (.cons (.str _) (.cons (Rp.ext (Ex2.upd hp).ext _ _ e3) .nil))) q
  obtain ⟨hd, hx0⟩ := hx
  have hx : ∀ g ∈ hs, exmOne K (.ref h.C) (.ref g.C) = some (decide (h.C = g.C)) := hx0 h hm
  clear q er hx0
  induction hs with
  | nil => cases hm
  | cons g r ih =>
    obtain ⟨d1, d2⟩ := List.pairwise_cons.mp hd
    refine ⟨_, hx g List.mem_cons_self, fun hb y hy => ?_, fun hb => ?_⟩
    · have e : h.C = g.C := of_decide_eq_true hb
      rcases List.mem_cons.mp hm with z | z
      · subst z
        exact done y hy
      · exact absurd e.symm (d1 h z)
    · have e : h.C ≠ g.C := of_decide_eq_false hb
      rcases List.mem_cons.mp hm with z | z
      · subst z
        exact absurd rfl e
      · exact ih z d2 fun g hg => hx g (List.mem_cons_of_mem _ hg)
/-- a closure's body, wherever it is run, under the errors Er -/
def LamD (X : Cx) (T : List (Addr × Str)) (ρ : Rho) (b : Bd) (k : Nat) (body : Expr) (scope : Scope) (Er : Value → Option (Str × PyData) → Bd → Prop) (Φ : Sl → Bd → Prop) : Prop :=
  ∀ (A : Around) (outer : List Env) (s : Shared) (H : Hp) (H1 : HG) (E : XK) (f c' : Addr), Room k (A.deeper (lamEnv X scope s.heap.objs.size f c')) → A.guards = some [] → TkE (lamCx X A outer s H E scope f c') ⟨T, b.map (·.1), H1, Er⟩ →
    JE (lamCx X A outer s H E scope f c') ⟨T, b.map (·.1), H1, Er⟩ (maskR X.N scope ρ) b body Φ
def lamTb (X : Cx) (k : Nat) (body : Expr) (scope : Scope) : XK → TE := fun E σ H Q => ∀ (A : Around) (outer : List Env) (s : Shared) (H0 : Hp) (f c' : Addr), Room k (A.deeper (lamEnv X scope s.heap.objs.size f c')) → A.guards = some [] → sE (lamCx X A outer s H0 E scope f c') body σ H Q
theorem cloB_tb {k : Nat} {body : Expr} {scope : Scope} (L : CloS X.env.scope scope) : CloB X k body scope (lamTb X k body scope) := ⟨L, fun A outer s H E f c' hr hg => ⟨fun pins s' σ H' Q I h => h A outer s H f c' hr hg pins s' I⟩⟩
theorem Ok.now {K : PySem.W.Frag} {H : HG} {Er : Value → Option (Str × PyData) → Bd → Prop} (o : Ok K w b H) : Ok K ⟨w.T, b.map (·.1), H, Er⟩ b H := ⟨Fr.refl _ _ _, Ex2.refl _, o.2.2.1, fun m n e => .inl (by rw [e]; rfl)⟩
theorem Ok.then {K : PySem.W.Frag} {H H' : HG} {r : Bd} {Er : Value → Option (Str × PyData) → Bd → Prop} (o : Ok K w b H) (o' : Ok K ⟨w.T, b.map (·.1), H, Er⟩ r H') : Ok K w (trB b b r) H' := o.back o'.1 o'.2.1 o'.2.2.1 o'.2.2.2 (.inr rfl) (.inr rfl)
theorem heard_run {k : Nat} {body : Expr} {scope : Scope} {hs : List Hd} {σ : L2.St} {B H : HG} {Q : VK} (hx : HdsX X.K hs) (h : LamD X w.T ρ b k body scope (fun c d r => heardR hs Φ c d (trB b b r)) fun y r => ∃ d, y = .d d ∧ Φ (.d (.list [d])) (trB b b r)) (rs : RS X.K H.G σ ρ) (o : Ok X.K w b H) (x0 : Ex2 B H)
    (c : ∀ v x b' (H' : HG), Ex2 B H' → Ok X.K w b' H' → Sl.rel X.K x v H'.G → Φ x b' → Q v H'.H) : heardT X.K hs (fun E H' Q' => lamTb X k body scope E (maskS X.N scope σ) H' Q') H.H Q := by
  intro A outer s H0 f c' hr hg
  refine h A outer s H0 H (heardE X.K hs Q) f c' hr hg ⟨fun cls d _ H => heardE X.K hs Q cls d H, takes_of rfl rfl rfl rfl, fun cls dx ed r σ' H' o' er q => ?_⟩ (maskS X.N scope σ) H _ rs.mask (Ok.now (K := X.K) o) fun v x r H' a1 a2 a3 ⟨d, ex, q⟩ => ?_
  · exact heardE_of hx (Ok.then (K := X.K) o o') er q (x0.trans o'.2.1) c
  · subst ex
    intro p hp
    exact c (.ref p) (.d (.list [d])) _ (H'.upd p _) (x0.trans (a1.trans (Ex2.upd hp))) (Ok.upd2 (Ok.then (K := X.K) o a2) hp) (.lst upd_same (.cons (Rp.ext (Ex2.upd hp).ext _ _ a3) .nil)) q
/-- _law_heard(e), e a closure made in this very frame -/
theorem je_heard {n a : Str} {st : Stmt} {g : Addr} {fd : FuncData} {Ng : List Str} {k : Nat} {hs : List Hd} {p : Pos} (hm : X.mg n = some (.ref g)) (F : Fun X.K n n st g fd) (S : FnScope Ng [a] (defScope st)) (hb : Binds X.K fd [a] []) (hN : Ng[0]? = some a) (hv : Vis (defScope st) a) (hG : X.A.guards = some []) (hr : Room (k + 2) X.A)
    (G : GivesG X Ng n st g a (heardT X.K hs)) (hx : HdsX X.K hs)
    (h : JE X w ρ b e fun x b1 => ∃ params body scope, x = .st (cloOf X params body scope) ∧ CloS X.env.scope scope ∧ LamD X w.T ρ b1 k body scope (fun c d r => heardR hs Φ c d (trB b1 b1 r)) fun y r => ∃ d, y = .d d ∧ Φ (.d (.list [d])) (trB b1 b1 r))
    (hg : Gl X n := by rfl) (hdb : (n == ("__debug__" : Str)) = false := by decide) (hd : (a == ("__debug__" : Str)) = false := by decide) (hcd : (a == ("__classdict__" : Str)) = false := by decide)
    (hes : starEach (e :: []) X.env = (false, eval e X.env) :: starEach [] X.env := by rfl) (hpl : (backTo pos (starEach [] X.env)).any (·.1) = false := by rfl) : JE X w ρ b (.Call (.Name n p) [e] [] pos) Φ :=
  je_of (pe_heard hm F S hb hN hv hG hr G pE hg hdb hd hcd hes hpl) fun σ H Q rs o c => h σ H _ rs o fun v x b1 H1 a1 a2 a3 ⟨params, body, scope, ex, L, q⟩ => by
    subst ex
    obtain ⟨f, ev, ic⟩ := a3
    exact ⟨f, params, body, scope, lamTb X k body scope, ev, cloB_tb L, isClo_ext ic (ExtS.of H1.sub), heard_run hx q (rs.ext a1.ext) a2 a1 c⟩

/-! ### the def itself -/
theorem takes_len {X : Cx} {V : WX} (t : Takes X V) : Takes X fun cls d σ H => σ.length = X.N.length → V cls d σ H := fun u s' h => by
  obtain ⟨a, B, sI, pins, σ, H, cls, d, e1, I, e2, e3, e4, e5, e6, e7, q⟩ := h
  exact t u s' ⟨a, B, sI, pins, σ, H, cls, d, e1, I, e2, e3, e4, e5, e6, e7, q I.len⟩
/-- try: return [a()], and a row of clauses -/
theorem gives_heard {X : Cx} {Ng : List Str} {x : Str} {st : Stmt} {g : Addr} {a : Str} {hs : List Hd} {h0 : ExceptHandler} {hds : List ExceptHandler} {p1 p2 p3 p4 p5 : Pos}
    (hb : defBody st = [.Try [.Return (some (.List [.Call (.Name a p1) [] [] p2] p3)) p4] (h0 :: hds) [] [] p5]) (hl : Ng.length = 2)
    (hC : ∀ (cdg : Value) (s : Shared) (H : Hp), Catch (cxOf (L2.CX X.prog X.w) X.prog X.w X.K X.mg X.base Ng x (defScope st) g cdg X.A X.stack s H XN) (h0 :: hds) (wRow X.K 1 hs)) : GivesG X Ng x st g a (heardT X.K hs) := by
  intro cdg f s H Q tl clo hcall hc0 hT
  rw [hb]
  refine ⟨_, pss_one (ps_try_row (W := wRow X.K 1 hs) (tb := fun V => tRet (tLst (tCons (fun σZ HZ Q => σZ[0]? = some (some (.ref f)) ∧ clo HZ ∧ tl (fun cls d H' => ∀ τ : L2.St, τ.length = 2 → V cls d τ H') HZ Q) tNil))) rfl rfl (fun V pn xe tk _ => pss_one (ps_ret (pe_lst (pa_cons (hcall _ pn xe _ p1 p2 (takes_len tk) fun cls d σ' H' h hn => h σ' (hn.trans hl)) pa_nil)))) (hC cdg s H)), ?_⟩
  refine ⟨?_, hc0, ?_⟩
  · show (start Ng [.ref f])[0]? = _
    rfl
  · have e : (fun cls d H' => ∀ τ : L2.St, τ.length = 2 → wRow X.K 1 hs { nx := fun _ H' => Q .non H', rt := Q } cls d τ H') = heardE X.K hs Q := rfl
    show tl (fun cls d H' => ∀ τ : L2.St, τ.length = 2 → wRow X.K 1 hs { nx := fun _ H' => Q .non H', rt := Q } cls d τ H') H fun x H1 => [x].length ≤ sizeLine ∧ ∀ p, H1 p = none → Q (.ref p) (upd H1 p (.lst [x]))
    rw [e]
    have k : (fun (v : V) (H' : Hp) => ∀ p, H' p = none → Q (.ref p) (upd H' p (.lst [v]))) = fun x H1 => [x].length ≤ sizeLine ∧ ∀ p, H1 p = none → Q (.ref p) (upd H1 p (.lst [x])) := by
      funext v H'
      exact propext ⟨fun h => ⟨by show 1 ≤ sizeLine; decide, h⟩, fun h => h.2⟩
    rw [← k]
    exact hT
/-- a clause «except N as n: return (tag, n.fld)» -/
theorem catch_as {X : Cx} {y n fld tag : Str} {C : Addr} {hds : List ExceptHandler} {r : List Hd} {p1 p2 p3 p4 p5 p6 p7 : Pos} {k j : Nat} (hf : X.env.frame = some X.env.locals) (hstk : X.stack = X.env :: X.outer) (hN : X.N.Nodup) (hi : X.N[1]? = some n) (hl : X.env.kindOf n = some .local) (hc : Names X y (.ref C))
    (T : Err X.prog X.K X.mg y fld C) (h : Catch X hds (wRow X.K 1 r)) (hd : (n == ("__debug__" : Str)) = false := by decide) (hcd : (n == ("__classdict__" : Str)) = false := by decide)
    (hat : ∀ a oe pn, attributeBase (.Name n p4) fld (X.suite a ((a, oe) :: pn)).env (eval (.Name n p4) (X.suite a ((a, oe) :: pn)).env) = eval (.Name n p4) (X.suite a ((a, oe) :: pn)).env := by intros; rfl)
    (he1 : ∀ a oe pn, starEach [.Constant (.str tag) k p3, .Attribute (.Name n p4) fld p5] (X.suite a ((a, oe) :: pn)).env = (false, eval (.Constant (.str tag) k p3) (X.suite a ((a, oe) :: pn)).env) :: starEach [.Attribute (.Name n p4) fld p5] (X.suite a ((a, oe) :: pn)).env := by intros; rfl)
    (he2 : ∀ a oe pn, starEach [.Attribute (.Name n p4) fld p5] (X.suite a ((a, oe) :: pn)).env = (false, eval (.Attribute (.Name n p4) fld p5) (X.suite a ((a, oe) :: pn)).env) :: starEach [] (X.suite a ((a, oe) :: pn)).env := by intros; rfl) :
    Catch X (.ExceptHandler (some (.Name y p1)) (some n) [.Return (some (.Tuple [.Constant (.str tag) k p3, .Attribute (.Name n p4) fld p5] j p6)) p7] p2 :: hds) (wRow X.K 1 (⟨C, tag, some fld⟩ :: r)) :=
  catch_cons (i := some 1) hf hstk (fun m hm => by cases hm; exact ⟨1, rfl, hN, hi, hl⟩) (fun z => by cases z) hc
    (fun a oe cls d pn hz hvs => pss_one (ps_ret (pe_tup (pa_cons pe_str (pa_cons (pe_ofErr T hz hvs (pe_var (i := 1) hi (.inl hl) hd hcd) (hat a oe pn)) pa_nil (he2 a oe pn)) (he1 a oe pn))))) h
/-- a clause «except N: return (tag, 0)» -/
theorem catch_no {X : Cx} {y tag : Str} {C : Addr} {hds : List ExceptHandler} {r : List Hd} {p1 p2 p3 p4 p6 p7 : Pos} {k k2 j : Nat} (hf : X.env.frame = some X.env.locals) (hstk : X.stack = X.env :: X.outer) (hc : Names X y (.ref C)) (h : Catch X hds (wRow X.K 1 r))
    (he1 : ∀ a oe pn, starEach [.Constant (.str tag) k p3, .Constant (.int 0) k2 p4] (X.suite a ((a, oe) :: pn)).env = (false, eval (.Constant (.str tag) k p3) (X.suite a ((a, oe) :: pn)).env) :: starEach [.Constant (.int 0) k2 p4] (X.suite a ((a, oe) :: pn)).env := by intros; rfl)
    (he2 : ∀ a oe pn, starEach [.Constant (.int 0) k2 p4] (X.suite a ((a, oe) :: pn)).env = (false, eval (.Constant (.int 0) k2 p4) (X.suite a ((a, oe) :: pn)).env) :: starEach [] (X.suite a ((a, oe) :: pn)).env := by intros; rfl) :
    Catch X (.ExceptHandler (some (.Name y p1)) none [.Return (some (.Tuple [.Constant (.str tag) k p3, .Constant (.int 0) k2 p4] j p6)) p7] p2 :: hds) (wRow X.K 1 (⟨C, tag, none⟩ :: r)) :=
  catch_cons (i := none) hf hstk (fun m hm => by cases hm) (fun _ => rfl) hc
    (fun a oe cls d pn hz hvs => pss_one (ps_ret (pe_tup (pa_cons pe_str (pa_cons pe_int pa_nil (he2 a oe pn)) (he1 a oe pn))))) h
end CR

namespace CR
open PySem PySem.Spec PySem.W PySem.SeqAt PyProof.Rows L2 LamX
variable {X : Cx} {w : Wd} {ρ : Rho} {b : Bd} {e e1 e2 e3 e4 : Expr} {es : List Expr} {st : Stmt} {sts : List Stmt} {pos : Pos} {D : DK} {Φ : Sl → Bd → Prop} {p : Pos}
/-! ### the drawing dict -/
abbrev mKvs (L S spot : Int) (c : Addr) : List (Key × V) := [(.inr "left", .int L), (.inr "seed", .int S), (.inr "cells", .ref c), (.inr "spot", .int spot)]
theorem je_mget {key : Str} {j : Nat} {pk : Pos} (yf : Int → Int → Int → Addr → List Int → Sl) (vf : Int → Int → Int → Addr → V) (hu : X.A.units + 1 < cLine) (hv : ∀ L S spot c, valV (mKvs L S spot c) (.inr key) = some (vf L S spot c))
    (hr : ∀ L S spot c cs G, SqL X.K G c (cs.map V.int) → (yf L S spot c cs).rel X.K (vf L S spot c) G)
    (h : JE X w ρ b e fun x b1 => ∃ m n, x = .is (.ref m) ∧ b1 = some (m, n) ∧ ∀ (L S spot : Int) (c : Addr) (cs : List Int), cs ≠ [] → 0 ≤ L → 0 ≤ S → S < 2 ^ 31 → 0 ≤ spot → spot ≤ (n : Int) → Φ (yf L S spot c cs) b1) (hs : NoSl (.Constant (.str key) j pk)) : JE X w ρ b (.Subscript e (.Constant (.str key) j pk) pos) Φ :=
  je_of (pe_dget hu pE pe_str hs) fun σ H Q rs o c => h σ H _ rs o fun v x b1 H1 a1 a2 a3 ⟨m, n, ex, eb, q⟩ => by
    subst ex
    subst eb
    cases a3
    obtain ⟨L, S, spot, cc, cs, h1, h2, h3, h4, h5, h6, h7, h8⟩ := a2.2.2.1.2 m n rfl
    have g := DGet.k (k := Sum.inr key) (H1.sub _ _ h1)
    rw [hv] at g
    exact ⟨m, _, rfl, g, c _ (yf L S spot cc cs) _ H1 a1 a2 (hr L S spot cc cs _ h2) (q L S spot cc cs h3 h4 h5 h6 h7 h8)⟩
section
variable {j : Nat} {pk : Pos}
theorem je_left (hu : X.A.units + 1 < cLine) (h : JE X w ρ b e fun x b1 => ∃ m n, x = .is (.ref m) ∧ b1 = some (m, n) ∧ ∀ L : Int, 0 ≤ L → Φ (.int L) b1) (hs : NoSl (.Constant (.str "left") j pk)) : JE X w ρ b (.Subscript e (.Constant (.str "left") j pk) pos) Φ :=
  je_mget (fun L _ _ _ _ => .int L) (fun L _ _ _ => .int L) hu (fun _ _ _ _ => rfl) (fun L _ _ _ _ _ _ => .int L) (h.mono fun x b1 ⟨m, n, e1, e2, q⟩ => ⟨m, n, e1, e2, fun L S spot c cs _ h1 _ _ _ _ => q L h1⟩) hs
theorem je_seed (hu : X.A.units + 1 < cLine) (h : JE X w ρ b e fun x b1 => ∃ m n, x = .is (.ref m) ∧ b1 = some (m, n) ∧ ∀ S : Int, 0 ≤ S → S < 2 ^ 31 → Φ (.int S) b1) (hs : NoSl (.Constant (.str "seed") j pk)) : JE X w ρ b (.Subscript e (.Constant (.str "seed") j pk) pos) Φ :=
  je_mget (fun _ L _ _ _ => .int L) (fun _ L _ _ => .int L) hu (fun _ _ _ _ => rfl) (fun _ L _ _ _ _ _ => .int L) (h.mono fun x b1 ⟨m, n, e1, e2, q⟩ => ⟨m, n, e1, e2, fun L S spot c cs _ _ h1 h2 _ _ => q S h1 h2⟩) hs
theorem je_spot (hu : X.A.units + 1 < cLine) (h : JE X w ρ b e fun x b1 => ∃ m n, x = .is (.ref m) ∧ b1 = some (m, n) ∧ ∀ S : Int, 0 ≤ S → S ≤ (n : Int) → Φ (.int S) b1) (hs : NoSl (.Constant (.str "spot") j pk)) : JE X w ρ b (.Subscript e (.Constant (.str "spot") j pk) pos) Φ :=
  je_mget (fun _ _ L _ _ => .int L) (fun _ _ L _ => .int L) hu (fun _ _ _ _ => rfl) (fun _ _ L _ _ _ _ => .int L) (h.mono fun x b1 ⟨m, n, e1, e2, q⟩ => ⟨m, n, e1, e2, fun L S spot c cs _ _ _ _ h1 h2 => q spot h1 h2⟩) hs
theorem je_cells (hu : X.A.units + 1 < cLine) (h : JE X w ρ b e fun x b1 => ∃ m n, x = .is (.ref m) ∧ b1 = some (m, n) ∧ ∀ c cs, cs ≠ [] → Φ (.st (scrStb X.K c cs)) b1) (hs : NoSl (.Constant (.str "cells") j pk)) : JE X w ρ b (.Subscript e (.Constant (.str "cells") j pk) pos) Φ :=
  je_mget (fun _ _ _ c cs => .st (scrStb X.K c cs)) (fun _ _ _ c => .ref c) hu (fun _ _ _ _ => rfl) (fun _ _ _ c cs G hh => ⟨rfl, hh⟩) (h.mono fun x b1 ⟨m, n, e1, e2, q⟩ => ⟨m, n, e1, e2, fun L S spot c cs h1 _ _ _ _ _ => q c cs h1⟩) hs
end
/-- the dict is written -/
theorem Ok.put {K : PySem.W.Frag} {H : HG} {m : Addr} {n n' : Nat} {kvs : List (Key × V)} (o : Ok K w (some (m, n)) H) (h : ∀ G, (∀ c cs, SqL K H.G c cs → SqL K G c cs) → G m = some (.dK kvs) → Ms K m n' G) :
    ∃ H' : HG, H'.H = upd H.H m (.dK kvs) ∧ Ex2 H H' ∧ Ok K w (some (m, n')) H' ∧ (∀ x v, Sl.rel K x v H.G → Sl.rel K x v H'.G) := by
  obtain ⟨o1, o2, o3, o4⟩ := o
  obtain ⟨L, S, spot, c, cs, h1, h2, h3, _⟩ := id (o3.2 m n rfl)
  have at1 : H.H m = some (.dK (mKvs L S spot c)) := H.sub _ _ h1
  have sub : ∀ a u, upd H.G m (.dK kvs) a = some u → upd H.H m (.dK kvs) a = some u := fun a u q => by
    by_cases z : a = m
    · subst z
      rw [upd_same] at q ⊢
      exact q
    · rw [upd_ne z] at q ⊢
      exact H.sub _ _ q
  have hid : ∀ a u, upd H.H m (.dK kvs) a = some u → upd H.G m (.dK kvs) a = none → (∃ xs, u = .lst xs) ∨ ∃ kvs, u = .dK kvs := fun a u q g => by
    by_cases z : a = m
    · subst z
      rw [upd_same] at g
      cases g
    · rw [upd_ne z] at q g
      exact H.hid _ _ q g
  have nm : ∀ a u, H.G a = some u → Stable u → a ≠ m := fun a u q s z => by
    subst z
    rw [h1] at q
    have := s.2 _ (Option.some.inj q).symm
    cases this
  have ex : ExtS H.G (upd H.G m (.dK kvs)) := fun a u q s => (upd_ne (nm a u q s)).trans q
  have x2 : Ex2 H ⟨upd H.H m (.dK kvs), upd H.G m (.dK kvs), sub, hid⟩ := ⟨ex, fun a u q g => by
    have z : a ≠ m := fun z => by
      subst z
      rw [h1] at g
      cases g
    exact ⟨(upd_ne z).trans q, (upd_ne z).trans g⟩⟩
  refine ⟨⟨upd H.H m (.dK kvs), upd H.G m (.dK kvs), sub, hid⟩, rfl, x2, ⟨fun a u q t na => ?_, o2.trans x2, ⟨fun q hq => ?_, fun m' k hm => ?_⟩, fun m' k hm => ?_⟩, fun x v => Sl.ext ex⟩
  · have q2 := o1 a u q t na
    refine (upd_ne fun z => ?_).trans q2
    subst z
    rcases o4 _ _ rfl with k | k
    · exact na k
    · obtain ⟨k1, ps, k2⟩ := k u q
      exact t k1 ps k2
  · obtain ⟨ps, g1, g2, g3⟩ := o3.1 q hq
    refine ⟨ps, (upd_ne fun z => ?_).trans g1, g2, fun pos cv hc => let ⟨c, e1, e2⟩ := g3 pos cv hc; ⟨c, e1, ex _ _ e2 codeO_stable⟩⟩
    rw [z, h1] at g1
    cases g1
  · cases hm
    exact h _ (fun c cs s => sqL_ext s ex) upd_same
  · cases hm
    exact o4 _ _ rfl
theorem js_mput {key : Str} {j : Nat} {pk p2 : Pos} (pf : Int → Int → Int → Addr → V → List (Key × V)) (hu : X.A.units + 1 < cLine) (hp : ∀ L S spot c v, putK (mKvs L S spot c) (.inr key) v = pf L S spot c v)
    (h : JE X w ρ b e2 fun y b1 => JE X w ρ b1 e1 fun x b2 => ∃ m n n', x = .is (.ref m) ∧ b2 = some (m, n) ∧ (∀ v G, y.rel X.K v G → ∀ (L S spot : Int) (c : Addr) (cs : List Int) (G' : Hp), SqL X.K G' c (cs.map V.int) → cs ≠ [] → 0 ≤ L → 0 ≤ S → S < 2 ^ 31 → 0 ≤ spot → spot ≤ (n : Int) → G' m = some (.dK (pf L S spot c v)) → Ms X.K m n' G') ∧ D.nx ρ (some (m, n')))
    (hs : swapsWith e2 (some (.Subscript e1 (.Constant (.str key) j pk) p2)) pos.line X.env = pure false) : JS X w ρ b (.Assign [.Subscript e1 (.Constant (.str key) j pk) p2] e2 pos) D :=
  js_of (ps_dput hu pE pe_str pE hs) fun σ H E r o c => h σ H _ r o fun v y b1 H1 a1 a2 a3 q => q σ H1 _ (r.ext a1.ext) a2 fun u x b2 H2 c1 c2 c3 ⟨m, n, n', ex, eb, hm, q⟩ => by
    subst ex
    subst eb
    cases c3
    obtain ⟨L, S, spot, cc, cs, h1, h2, h3, h4, h5, h6, h7, h8⟩ := id (c2.2.2.1.2 m n rfl)
    have a4 := Sl.ext c1.ext a3
    obtain ⟨H3, e3, x3, o3, r3⟩ := c2.put (n' := n') (kvs := pf L S spot cc v) fun G hG hg => hm v H2.G a4 L S spot cc cs G (hG _ _ h2) h3 h4 h5 h6 h7 h8 hg
    refine ⟨m, upd H2.H m (.dK (pf L S spot cc v)), rfl, .inl ⟨_, .inr key, H2.sub _ _ h1, rfl, ?_, by rw [hp]⟩, ?_⟩
    · exact (by decide : 4 < sizeLine)
    · rw [← e3]
      exact c.nx σ ρ _ H3 ((a1.trans c1).trans x3) ((r.ext (a1.trans c1).ext).ext x3.ext) o3 q
theorem js_putLeft {j : Nat} {pk p2 : Pos} (hu : X.A.units + 1 < cLine) (h : JE X w ρ b e2 fun y b1 => ∃ L : Int, 0 ≤ L ∧ y = .int L ∧ JE X w ρ b1 e1 fun x b2 => ∃ m n n', x = .is (.ref m) ∧ b2 = some (m, n) ∧ (n : Nat) ≤ n' ∧ D.nx ρ (some (m, n')))
    (hs : swapsWith e2 (some (.Subscript e1 (.Constant (.str "left") j pk) p2)) pos.line X.env = pure false := by rfl) : JS X w ρ b (.Assign [.Subscript e1 (.Constant (.str "left") j pk) p2] e2 pos) D :=
  js_mput (fun L S spot c v => [(.inr "left", v), (.inr "seed", .int S), (.inr "cells", .ref c), (.inr "spot", .int spot)]) hu (fun _ _ _ _ _ => rfl)
    (h.mono fun y b1 ⟨L', hL, ey, q⟩ => q.mono fun x b2 ⟨m, n, n', ex, eb, hn, q⟩ => ⟨m, n, n', ex, eb, fun v G rv L S spot c cs G' h1 h2 h3 h4 h5 h6 h7 h8 => by
      subst ey
      cases rv
      exact ⟨L', S, spot, c, cs, h8, h1, h2, hL, h4, h5, h6, by omega⟩, q⟩) hs
theorem js_putSpot {j : Nat} {pk p2 : Pos} (hu : X.A.units + 1 < cLine) (h : JE X w ρ b e2 fun y b1 => ∃ L : Int, 0 ≤ L ∧ y = .int L ∧ JE X w ρ b1 e1 fun x b2 => ∃ m n n', x = .is (.ref m) ∧ b2 = some (m, n) ∧ L ≤ (n' : Nat) ∧ D.nx ρ (some (m, n')))
    (hs : swapsWith e2 (some (.Subscript e1 (.Constant (.str "spot") j pk) p2)) pos.line X.env = pure false := by rfl) : JS X w ρ b (.Assign [.Subscript e1 (.Constant (.str "spot") j pk) p2] e2 pos) D :=
  js_mput (fun L S spot c v => [(.inr "left", .int L), (.inr "seed", .int S), (.inr "cells", .ref c), (.inr "spot", v)]) hu (fun _ _ _ _ _ => rfl)
    (h.mono fun y b1 ⟨L', hL, ey, q⟩ => q.mono fun x b2 ⟨m, n, n', ex, eb, hn, q⟩ => ⟨m, n, n', ex, eb, fun v G rv L S spot c cs G' h1 h2 h3 h4 h5 h6 h7 h8 => by
      subst ey
      cases rv
      exact ⟨L, S, L', c, cs, h8, h1, h2, h3, h4, h5, hL, hn⟩, q⟩) hs
end CR

namespace CR
open PySem PySem.Spec PySem.W PySem.SeqAt PyProof.Rows L2 LamX
variable {X : Cx} {w : Wd} {ρ : Rho} {b : Bd} {e e1 e2 e3 e4 : Expr} {es : List Expr} {st : Stmt} {sts : List Stmt} {pos : Pos} {D : DK} {Φ : Sl → Bd → Prop} {p : Pos}
theorem Ok.fresh {K : PySem.W.Frag} {H : HG} {m : Addr} (o : Ok K w b H) (h : H.H m = none) : w.a = some m ∨ Fresh w.T w.H0.G m := by
  by_cases z : w.a = some m
  · exact .inl z
  · refine .inr fun u e => Classical.byContradiction fun hn => ?_
    have k := o.1 m u e (fun h1 ps h2 => hn ⟨h1, ps, h2⟩) z
    rw [HG.none h] at k
    cases k
theorem rps_ints_inv {K : PySem.W.Frag} {H : Hp} : ∀ {cs : List Int} {vs : List V}, Rps K H vs (cs.map PyData.int) → vs = cs.map V.int
  | [], _, .nil => rfl
  | c :: cs, _, .cons a r => by
    cases a
    rw [rps_ints_inv r]
    rfl
/-- {'left': .., 'seed': .., 'cells': .., 'spot': ..} -/
theorem je_disp {j1 j2 j3 j4 : Nat} {q1 q2 q3 q4 : Pos} (h : JE X w ρ b e1 fun x1 b1 => ∃ L : Int, 0 ≤ L ∧ x1 = .int L ∧ JE X w ρ b1 e2 fun x2 b2 => ∃ S : Int, 0 ≤ S ∧ S < 2 ^ 31 ∧ x2 = .int S ∧ JE X w ρ b2 e3 fun x3 b3 => ∃ cs : List Int, cs ≠ [] ∧ x3 = .d (.list (cs.map .int)) ∧
      JE X w ρ b3 e4 fun x4 b4 => x4 = .int 0 ∧ ∀ m, Φ (.is (.ref m)) (some (m, 0))) :
    JE X w ρ b (.Dict [some (.Constant (.str "left") j1 q1), some (.Constant (.str "seed") j2 q2), some (.Constant (.str "cells") j3 q3), some (.Constant (.str "spot") j4 q4)] [e1, e2, e3, e4] pos) Φ :=
  je_of (pe_disp (pps_cons pe_str pE (pps_cons pe_str pE (pps_cons pe_str pE (pps_cons pe_str pE pps_nil)))) (by rfl) (by rfl) (fun z => by cases z) (Nat.le_of_ble_eq_true rfl)) fun σ H Q rs o c => by
    intro m hm
    -- the dict's place is hidden while its parts are asked
    have sub : ∀ a u, H.G a = some u → upd H.H m (.dK []) a = some u := fun a u q => (upd_ne (ne_of_none q (HG.none hm))).trans (H.sub _ _ q)
    have hid : ∀ a u, upd H.H m (.dK []) a = some u → H.G a = none → (∃ xs, u = .lst xs) ∨ ∃ kvs, u = .dK kvs := fun a u q g => by
      by_cases z : a = m
      · subst z
        rw [upd_same] at q
        exact .inr ⟨_, (Option.some.inj q).symm⟩
      · rw [upd_ne z] at q
        exact H.hid _ _ q g
    have x0 : Ex2 H ⟨upd H.H m (.dK []), H.G, sub, hid⟩ := ⟨ExtS.refl _, fun a u q g => ⟨(upd_ne (ne_of_none q hm)).trans q, g⟩⟩
    have o0 : Ok X.K w b ⟨upd H.H m (.dK []), H.G, sub, hid⟩ := ⟨o.1, o.2.1.trans x0, o.2.2.1, o.2.2.2⟩
    refine h σ ⟨upd H.H m (.dK []), H.G, sub, hid⟩ _ rs o0 fun v1 x1 b1 A1 a1 c1 r1 ⟨L, hL, e1, k1⟩ => ?_
    refine k1 σ A1 _ (rs.ext a1.ext) c1 fun v2 x2 b2 A2 a2 c2 r2 ⟨S, hS, hS2, e2, k2⟩ => ?_
    refine k2 σ A2 _ (rs.ext (a1.trans a2).ext) c2 fun v3 x3 b3 A3 a3 c3 r3 ⟨cs, hcs, e3, k3⟩ => ?_
    refine k3 σ A3 _ (rs.ext ((a1.trans a2).trans a3).ext) c3 fun v4 x4 b4 A4 a4 c4 r4 ⟨e4, q⟩ => ?_
    subst e1
    subst e2
    subst e3
    subst e4
    cases r1
    cases r2
    cases r4
    obtain ⟨hm4, gm4⟩ := (((a1.trans a2).trans a3).trans a4).keep m _ (show upd H.H m (.dK []) m = some (.dK []) from upd_same) (HG.none (A := H) hm)
    have r3 := Sl.ext a4.ext r3
    cases r3 with
    | @lst cc vs _ s3 t3 =>
    have ev : vs = cs.map V.int := rps_ints_inv t3
    subst ev
    refine ⟨hm4, [(.inr "left", .int L), (.inr "seed", .int S), (.inr "cells", .ref cc), (.inr "spot", .int 0)], rfl, Nat.le_of_ble_eq_true rfl, ?_⟩
    have sub4 : ∀ a u, upd A4.G m (.dK (mKvs L S 0 cc)) a = some u → upd A4.H m (.dK (mKvs L S 0 cc)) a = some u := fun a u q => by
      by_cases z : a = m
      · subst z
        rw [upd_same] at q ⊢
        exact q
      · rw [upd_ne z] at q ⊢
        exact A4.sub _ _ q
    have hid4 : ∀ a u, upd A4.H m (.dK (mKvs L S 0 cc)) a = some u → upd A4.G m (.dK (mKvs L S 0 cc)) a = none → (∃ xs, u = .lst xs) ∨ ∃ kvs, u = .dK kvs := fun a u q g => by
      by_cases z : a = m
      · subst z
        rw [upd_same] at g
        cases g
      · rw [upd_ne z] at q g
        exact A4.hid _ _ q g
    have k : ∀ a u, A4.G a = some u → upd A4.G m (.dK (mKvs L S 0 cc)) a = some u := fun a u q => (upd_ne (ne_of_none q gm4)).trans q
    have xx := (((x0.trans a1).trans a2).trans a3).trans a4
    have x4 : Ex2 H ⟨upd A4.H m (.dK (mKvs L S 0 cc)), upd A4.G m (.dK (mKvs L S 0 cc)), sub4, hid4⟩ := ⟨xx.ext.trans (ExtS.of k), fun a u q g => by
      have z : a ≠ m := ne_of_none q hm
      obtain ⟨z1, z2⟩ := xx.keep a u q g
      exact ⟨(upd_ne z).trans z1, (upd_ne z).trans z2⟩⟩
    refine c (.ref m) (.is (.ref m)) (some (m, 0)) ⟨_, _, sub4, hid4⟩ x4 ⟨c4.1.trans (Fr.of k), o.2.1.trans x4, ⟨c4.2.2.1.1.ext k, fun m' n hm' => ?_⟩, fun m' n hm' => ?_⟩ rfl (q m)
    · cases hm'
      exact ⟨L, S, 0, cc, cs, upd_same, sqL_ext (.of s3) (ExtS.of k), hcs, hL, hS, hS2, Int.le_refl 0, Int.le_refl 0⟩
    · cases hm'
      exact o.fresh hm
/-! ### the script, sliced and asked -/
theorem cut_ints (ns : List Int) (lo hi : Option Int) : ∃ cs : List Int, cutV (ns.map V.int) lo hi = cs.map V.int ∧ cs.length ≤ ns.length := by
  refine ⟨(ns.drop (HT.sIx (ns.map V.int).length 0 lo)).take (HT.sIx (ns.map V.int).length (ns.map V.int).length hi - HT.sIx (ns.map V.int).length 0 lo), ?_, ?_⟩
  · unfold cutV
    rw [List.map_take, List.map_drop]
  · rw [List.length_take, List.length_drop]
    omega
theorem je_sliceLo {a : Addr} {ns : List Int} {p2 : Pos} (h : JE X w ρ b e fun x b1 => x = .st (scrStb X.K a ns) ∧ JE X w ρ b1 e1 fun y b2 => ∃ i : Int, y = .int i ∧ ∀ cs : List Int, cs.length ≤ ns.length → Φ (.d (.list (cs.map .int))) b2) : JE X w ρ b (.Subscript e (.Slice (some e1) none none p2) pos) Φ :=
  je_of (pe_slice sl_list pE (po_some pE) po_none) fun σ H Q rs o c => h σ H _ rs o fun v x b1 H1 a1 a2 a3 ⟨ex, q⟩ => q σ H1 _ (rs.ext a1.ext) a2 fun u y b2 H2 c1 c2 c3 ⟨i, ey, q⟩ => by
    subst ex
    subst ey
    cases c3
    obtain ⟨rfl, sq⟩ := Sl.ext (K := X.K) (x := .st (scrStb X.K a ns)) c1.ext a3
    obtain ⟨cs, h1, h2⟩ := cut_ints ns (some i) none
    refine ⟨i, rfl, a, ns.map V.int, rfl, HG.sql sq, fun p hp => ?_⟩
    rw [h1]
    exact c _ (.d (.list (cs.map .int))) b2 (H2.upd p _) (a1.trans (c1.trans (Ex2.upd hp))) (c2.upd2 hp) (.lst upd_same (rps_ints cs)) (q cs h2)
theorem je_sliceHi {a : Addr} {ns : List Int} {p2 : Pos} (h : JE X w ρ b e fun x b1 => x = .st (scrStb X.K a ns) ∧ JE X w ρ b1 e1 fun y b2 => ∃ i : Int, y = .int i ∧ ∀ cs : List Int, cs.length ≤ ns.length → Φ (.d (.list (cs.map .int))) b2) : JE X w ρ b (.Subscript e (.Slice none (some e1) none p2) pos) Φ :=
  je_of (pe_slice sl_list pE po_none (po_some pE)) fun σ H Q rs o c => h σ H _ rs o fun v x b1 H1 a1 a2 a3 ⟨ex, q⟩ => q σ H1 _ (rs.ext a1.ext) a2 fun u y b2 H2 c1 c2 c3 ⟨i, ey, q⟩ => by
    subst ex
    subst ey
    cases c3
    obtain ⟨rfl, sq⟩ := Sl.ext (K := X.K) (x := .st (scrStb X.K a ns)) c1.ext a3
    obtain ⟨cs, h1, h2⟩ := cut_ints ns none (some i)
    refine ⟨i, rfl, a, ns.map V.int, rfl, HG.sql sq, fun p hp => ?_⟩
    rw [h1]
    exact c _ (.d (.list (cs.map .int))) b2 (H2.upd p _) (a1.trans (c1.trans (Ex2.upd hp))) (c2.upd2 hp) (.lst upd_same (rps_ints cs)) (q cs h2)
theorem je_lenS {a : Addr} {ns : List Int} (hm : X.mg "len" = none) (h : JE X w ρ b e fun x b1 => x = .st (scrStb X.K a ns) ∧ Φ (.int ns.length) b1) (hg : Gl X "len" := by rfl) (he : starEach [e] X.env = (false, eval e X.env) :: starEach [] X.env := by rfl) (hpl : (backTo pos (starEach [] X.env)).any (·.1) = false := by rfl) : JE X w ρ b (.Call (.Name "len" p) [e] [] pos) Φ :=
  je_callB call_len_seq hm (by decide +kernel) (ja_one (h.mono fun x b1 ⟨ex, q⟩ vs H Q o r c => by
    subst ex
    cases r with
    | cons r1 r2 =>
    cases r2
    obtain ⟨rfl, sq⟩ := r1
    exact ⟨_, _, rfl, .inl (HG.sql sq), by rw [List.length_map]; exact c _ (.int _) b1 H (Ex2.refl H) o (.int _) q⟩) he) hg (by decide) (by decide) he hpl
theorem je_ixS {a : Addr} {ns : List Int} (h : JE X w ρ b e fun x b1 => ∃ a ns, x = .st (scrStb X.K a ns) ∧ JE X w ρ b1 e2 fun y b2 => ∃ (k : Int), y = .int k ∧ 0 ≤ k ∧ k < ns.length ∧ ∀ d : Int, Φ (.int d) b2) (hs : PlainIx e2) : JE X w ρ b (.Subscript e e2 pos) Φ :=
  je_bin (pe_ix ix_list pE pE hs) (h.mono fun x b1 ⟨a, ns, ex, q⟩ => q.mono fun y b2 ⟨k, ey, hk, hl, q⟩ => by
    subst ex
    subst ey
    intro v u H Q o r1 r2 c
    cases r2
    obtain ⟨rfl, sq⟩ := r1
    have hl' : k.toNat < ns.length := by omega
    have z : atI (ns.map V.int) ((k.toNat : Nat) : Int) = some (.int ns[k.toNat]) := atI_nat (by rw [List.getElem?_map, List.getElem?_eq_getElem hl']; rfl)
    rw [Int.toNat_of_nonneg hk] at z
    exact ⟨_, _, _, _, rfl, rfl, HG.sql sq, z, c _ (.int ns[k.toNat]) b2 H (Ex2.refl H) o (.int _) (q _)⟩)
/-! ### {}, all(..), min(..) -/
theorem je_dict0 (h : Φ (.d (.dict [])) b) : JE X w ρ b (.Dict [] [] pos) Φ :=
  je_of pe_dnewK fun σ H Q rs o c => fun p hp => c (.ref p) (.d (.dict [])) b (H.upd p _) (Ex2.upd hp) (o.upd2 hp) (.emp upd_same) h
theorem rps_bls {K : PySem.W.Frag} {H : Hp} : ∀ {bs : List Bool} {vs : List V}, Rps K H vs (bs.map PyData.bool) → vs = bs.map V.bl
  | [], _, .nil => rfl
  | b :: bs, _, .cons a r => by
    cases a
    rw [rps_bls r]
    rfl
theorem je_all (hc : X.calm = true) (hm : X.mg "all" = none) (h : JE X w ρ b e fun x b1 => ∃ bs : List Bool, x = .d (.list (bs.map .bool)) ∧ Φ (.bl (bs.all id)) b1) (hg : Gl X "all" := by rfl) (he : starEach [e] X.env = (false, eval e X.env) :: starEach [] X.env := by rfl) (hpl : (backTo pos (starEach [] X.env)).any (·.1) = false := by rfl) : JE X w ρ b (.Call (.Name "all" p) [e] [] pos) Φ :=
  je_callB (cr_all hc) hm (by decide +kernel) (ja_one (h.mono fun x b1 ⟨bs, ex, q⟩ vs H Q o r c => by
    subst ex
    cases r with
    | cons r1 r2 =>
    cases r2
    cases r1 with
    | lst s t =>
    have ev := rps_bls t
    subst ev
    exact ⟨_, bs, rfl, .of (H.sub _ _ s), c _ (.bl _) b1 H (Ex2.refl H) o (.bl _) q⟩) he) hg (by decide) (by decide) he hpl
theorem je_min (hc : X.calm = true) (hm : X.mg "min" = none) (h : II X w ρ b e1 e2 fun i j b2 => Φ (.int (if j < i then j else i)) b2) (hg : Gl X "min" := by rfl) (he : starEach [e1, e2] X.env = (false, eval e1 X.env) :: starEach [e2] X.env := by rfl) (he2 : starEach [e2] X.env = (false, eval e2 X.env) :: starEach [] X.env := by rfl) (hpl : (backTo pos (starEach [e2] X.env)).any (·.1) = false := by rfl) : JE X w ρ b (.Call (.Name "min" p) [e1, e2] [] pos) Φ :=
  je_callB (call_min2 hc) hm (by decide +kernel) (ja_cons (h.mono fun x b1 ⟨i, ex, q⟩ => ja_one (q.mono fun y b2 ⟨j, ey, q⟩ vs H Q o r c => by
    subst ex
    subst ey
    cases r with
    | cons r1 r2 =>
    cases r2 with
    | cons r2 r3 =>
    cases r3
    cases r1
    cases r2
    exact ⟨i, j, rfl, c _ (.int (if j < i then j else i)) b2 H (Ex2.refl H) o (.int _) q⟩) he2) he) hg (by decide) (by decide) he hpl
/-! ### targets in tuples -/
theorem js_two {n m : Str} {pn pm pt : Pos} {kt : Nat} (i j : Nat) (hc : X.calm = true) (hN : X.N.Nodup) (hi : X.N[i]? = some n) (hj : X.N[j]? = some m) (hx : Loc X.env.scope n) (hy : Loc X.env.scope m)
    (h : JE X w ρ b e fun x b1 => ∃ d1 d2, x = .d (.tuple [d1, d2]) ∧ D.nx ((ρ.set i (some (.d d1))).set j (some (.d d2))) b1)
    (hs : swapsWithSole [.Tuple [.Name n pn, .Name m pm] kt pt] e pos.line X.env = pure false := by rfl) (hw : swappedStores [.Tuple [.Name n pn, .Name m pm] kt pt] e X.env = pure none := by rfl)
    (h1 : (assignEach [.Tuple [.Name n pn, .Name m pm] kt pt] X.env).map (·.2) = [assign (.Tuple [.Name n pn, .Name m pm] kt pt) X.env] := by rfl)
    (hf : X.fn n = true ∨ X.env.scope.names.lookup n = some .local := by first | exact .inl rfl | exact .inr rfl | assumption) (hf2 : X.fn m = true ∨ X.env.scope.names.lookup m = some .local := by first | exact .inl rfl | exact .inr rfl | assumption)
    (h2 : (assignEach [.Name n pn, .Name m pm] X.env).length = 2 := by rfl) (h3 : (assignEach [.Name n pn, .Name m pm] X.env).findIdx? (·.1) = none := by rfl)
    (h4 : (assignEach [.Name n pn, .Name m pm] X.env).map (·.2) = assign (.Name n pn) X.env :: (assignEach [.Name m pm] X.env).map (·.2) := by rfl) (h5 : (assignEach [.Name m pm] X.env).map (·.2) = assign (.Name m pm) X.env :: (assignEach [] X.env).map (·.2) := by rfl) :
    JS X w ρ b (.Assign [.Tuple [.Name n pn, .Name m pm] kt pt] e pos) D :=
  js_of (ps_asg pE (pg_tup hc (pgs_cons (pg_name (i := i) hN hi hx hf) (pgs_cons (pg_name (i := j) hN hj hy hf2) pgs_nil h5) h4) h2 h3) hs hw h1) fun σ H E r o c => h σ H _ r o fun v x b1 H1 a1 a2 a3 ⟨d1, d2, ex, q⟩ => by
    subst ex
    cases a3 with
    | tup s t =>
    cases t with
    | cons t1 t2 =>
    cases t2 with
    | cons t2 t3 =>
    cases t3
    exact ⟨_, _, rfl, HG.sqt s, rfl, _, _, rfl, _, _, rfl, rfl, c.nx _ _ b1 H1 a1 (((r.ext a1.ext).set (x := .d d1) t1).set (x := .d d2) t2) a2 q⟩
/-- (a, b), (c, d) = e1, e2 -/
theorem js_four {n1 n2 n3 n4 : Str} {q1 q2 q3 q4 t1 t2 t3 t4 : Pos} {k1 k2 k3 k4 : Nat} (i1 i2 i3 i4 : Nat) (hc : X.calm = true) (hN : X.N.Nodup) (h1 : X.N[i1]? = some n1) (h2 : X.N[i2]? = some n2) (h3 : X.N[i3]? = some n3) (h4 : X.N[i4]? = some n4)
    (l1 : Loc X.env.scope n1) (l2 : Loc X.env.scope n2) (l3 : Loc X.env.scope n3) (l4 : Loc X.env.scope n4)
    (h : JA X w ρ b [e1, e2] fun xs b1 => ∃ d1 d2 d3 d4, xs = [.d (.tuple [d1, d2]), .d (.tuple [d3, d4])] ∧ D.nx ((((ρ.set i1 (some (.d d1))).set i2 (some (.d d2))).set i3 (some (.d d3))).set i4 (some (.d d4))) b1)
    (f1 : X.fn n1 = true ∨ X.env.scope.names.lookup n1 = some .local := by first | exact .inl rfl | exact .inr rfl | assumption) (f2 : X.fn n2 = true ∨ X.env.scope.names.lookup n2 = some .local := by first | exact .inl rfl | exact .inr rfl | assumption)
    (f3 : X.fn n3 = true ∨ X.env.scope.names.lookup n3 = some .local := by first | exact .inl rfl | exact .inr rfl | assumption) (f4 : X.fn n4 = true ∨ X.env.scope.names.lookup n4 = some .local := by first | exact .inl rfl | exact .inr rfl | assumption)
    (hs : swapsWithSole [.Tuple [.Tuple [.Name n1 q1, .Name n2 q2] k1 t1, .Tuple [.Name n3 q3, .Name n4 q4] k2 t2] k3 t3] (.Tuple [e1, e2] k4 t4) pos.line X.env = pure false := by rfl) (hw : swappedStores [.Tuple [.Tuple [.Name n1 q1, .Name n2 q2] k1 t1, .Tuple [.Name n3 q3, .Name n4 q4] k2 t2] k3 t3] (.Tuple [e1, e2] k4 t4) X.env = pure none := by rfl)
    (g1 : (assignEach [.Tuple [.Tuple [.Name n1 q1, .Name n2 q2] k1 t1, .Tuple [.Name n3 q3, .Name n4 q4] k2 t2] k3 t3] X.env).map (·.2) = [assign (.Tuple [.Tuple [.Name n1 q1, .Name n2 q2] k1 t1, .Tuple [.Name n3 q3, .Name n4 q4] k2 t2] k3 t3) X.env] := by rfl)
    (a1 : (assignEach [.Tuple [.Name n1 q1, .Name n2 q2] k1 t1, .Tuple [.Name n3 q3, .Name n4 q4] k2 t2] X.env).length = 2 := by rfl) (a2 : (assignEach [.Tuple [.Name n1 q1, .Name n2 q2] k1 t1, .Tuple [.Name n3 q3, .Name n4 q4] k2 t2] X.env).findIdx? (·.1) = none := by rfl)
    (a3 : (assignEach [.Tuple [.Name n1 q1, .Name n2 q2] k1 t1, .Tuple [.Name n3 q3, .Name n4 q4] k2 t2] X.env).map (·.2) = assign (.Tuple [.Name n1 q1, .Name n2 q2] k1 t1) X.env :: (assignEach [.Tuple [.Name n3 q3, .Name n4 q4] k2 t2] X.env).map (·.2) := by rfl)
    (a4 : (assignEach [.Tuple [.Name n3 q3, .Name n4 q4] k2 t2] X.env).map (·.2) = assign (.Tuple [.Name n3 q3, .Name n4 q4] k2 t2) X.env :: (assignEach [] X.env).map (·.2) := by rfl)
    (b1 : (assignEach [.Name n1 q1, .Name n2 q2] X.env).length = 2 := by rfl) (b2 : (assignEach [.Name n1 q1, .Name n2 q2] X.env).findIdx? (·.1) = none := by rfl)
    (b3 : (assignEach [.Name n1 q1, .Name n2 q2] X.env).map (·.2) = assign (.Name n1 q1) X.env :: (assignEach [.Name n2 q2] X.env).map (·.2) := by rfl) (b4 : (assignEach [.Name n2 q2] X.env).map (·.2) = assign (.Name n2 q2) X.env :: (assignEach [] X.env).map (·.2) := by rfl)
    (c1 : (assignEach [.Name n3 q3, .Name n4 q4] X.env).length = 2 := by rfl) (c2 : (assignEach [.Name n3 q3, .Name n4 q4] X.env).findIdx? (·.1) = none := by rfl)
    (c3 : (assignEach [.Name n3 q3, .Name n4 q4] X.env).map (·.2) = assign (.Name n3 q3) X.env :: (assignEach [.Name n4 q4] X.env).map (·.2) := by rfl) (c4 : (assignEach [.Name n4 q4] X.env).map (·.2) = assign (.Name n4 q4) X.env :: (assignEach [] X.env).map (·.2) := by rfl) :
    JS X w ρ b (.Assign [.Tuple [.Tuple [.Name n1 q1, .Name n2 q2] k1 t1, .Tuple [.Name n3 q3, .Name n4 q4] k2 t2] k3 t3] (.Tuple [e1, e2] k4 t4) pos) D :=
  js_of (ps_asg (pe_tup pA) (pg_tup hc (pgs_cons (pg_tup hc (pgs_cons (pg_name (i := i1) hN h1 l1 f1) (pgs_cons (pg_name (i := i2) hN h2 l2 f2) pgs_nil b4) b3) b1 b2) (pgs_cons (pg_tup hc (pgs_cons (pg_name (i := i3) hN h3 l3 f3) (pgs_cons (pg_name (i := i4) hN h4 l4 f4) pgs_nil c4) c3) c1 c2) pgs_nil a4) a3) a1 a2) hs hw g1)
    fun σ H E r o c => h σ H _ r o fun vs xs bb H1 x1 o1 r1 ⟨d1, d2, d3, d4, ex, q⟩ => by
      subst ex
      cases r1 with
      | cons ra rb =>
      cases rb with
      | cons rb rc =>
      cases rc
      refine ⟨(by decide : 2 ≤ sizeLine), fun p hp => ?_⟩
      cases ra with
      | tup s t =>
      cases t with
      | cons u1 t =>
      cases t with
      | cons u2 t =>
      cases t
      cases rb with
      | tup s' t' =>
      cases t' with
      | cons u3 t' =>
      cases t' with
      | cons u4 t' =>
      cases t'
      refine ⟨p, _, rfl, .of upd_same, rfl, _, _, rfl, ⟨_, _, rfl, HG.sqt (A := H1.upd p _) (sqT_ext s (Ex2.upd hp).ext), rfl, _, _, rfl, _, _, rfl, rfl, ?_⟩⟩
      refine ⟨_, _, rfl, ⟨_, _, rfl, HG.sqt (A := H1.upd p _) (sqT_ext s' (Ex2.upd hp).ext), rfl, _, _, rfl, _, _, rfl, rfl, rfl, ?_⟩⟩
      exact c.nx _ _ bb (H1.upd p _) (x1.trans (Ex2.upd hp)) ((((((r.ext x1.ext).ext (Ex2.upd hp).ext).set (x := .d d1) (Rp.ext (Ex2.upd hp).ext _ _ u1)).set (x := .d d2) (Rp.ext (Ex2.upd hp).ext _ _ u2)).set (x := .d d3) (Rp.ext (Ex2.upd hp).ext _ _ u3)).set (x := .d d4) (Rp.ext (Ex2.upd hp).ext _ _ u4)) (o1.upd2 hp) q
theorem je_nm {X : Cx} {w : Wd} {ρ : Rho} {b : Bd} {n : Str} {pos : Pos} {Φ : Sl → Bd → Prop} (h : JE X w ρ b (.Name n pos) Φ) : JE X w ρ b (.Name n pos) Φ := h
theorem je_sb {X : Cx} {w : Wd} {ρ : Rho} {b : Bd} {e : Expr} {i : Int} {k : Nat} {p pos : Pos} {Φ : Sl → Bd → Prop} (h : JE X w ρ b (.Subscript e (.Constant (.int i) k p) pos) Φ) : JE X w ρ b (.Subscript e (.Constant (.int i) k p) pos) Φ := h
end CR

namespace CR
open PySem PySem.Spec PySem.W PySem.SeqAt PyProof.Rows L2 LamX
/-! ### closures of the frame, called within a comprehension -/
/-- every state of the block is one of the frame, too -/
def Back (X Y : Cx) (pn : List (Addr × Obj)) (τ : L2.St) : Prop := ∀ pnY τY G t, Inv Y pnY τY G t → Inv X pn τ G t
section
variable {X : Cx}
/-- [elt for tg in iter], its element asked with the frame's state at hand -/
theorem pe_lcB {elt tg iter : Expr} {scope : Scope} {own : List (Str × Nat)} {pos : Pos} {wi : TI} {g : TG} {te : L2.St → TE} (hc : X.calm = true) (hN : X.N.Nodup) (hi : PI X tg iter wi) (ok : BlkOk X.N X.env.scope scope own)
    (hg : ∀ (s : Shared) (H : Hp) (C : Addr) (cl : List (Str × Addr)) (fp : List Addr), PG (X.blk s H scope (compEnvC scope cl C X.env) fp) tg g)
    (he : ∀ (t0 : Shared) (G0 : Hp) (C : Addr) (cl : List (Str × Addr)) (fp : List Addr) (pn : List (Addr × Obj)) (τ : L2.St), Back X (X.blk t0 G0 scope (compEnvC scope cl C X.env) fp) pn τ → PE (X.blk t0 G0 scope (compEnvC scope cl C X.env) fp) elt (te τ))
    (hs : ∀ x, foldedSetIterable iter X.env x = pure x := by intro _; rfl) : PE X (.ListComp elt [⟨tg, iter, [], 0⟩] scope pos) (fun σ H Q => tLc wi g tYes (te σ) (own.map (·.2)) σ H Q) := by
  refine ⟨fun pn t τ G Q I h => ?_⟩
  rw [eval_ListComp]
  have caps : ∀ y ∈ scope.names, y.2 = .free → ∃ c, X.env.cells.lookup y.1 = some c := fun y hy e => (ok.free y hy e).elim (fun k => I.ok.has _ (.inl k)) fun k => I.ok.has _ (.inr k)
  refine wpAny_comprehension_free (use := none) rfl hs (closure_ok caps) ok.kind (fun y hy e => (ok.uniq y hy).trans (by rw [e])) ?_
  refine thn (hi.run pn t τ G _ I h) fun w1 t1 h1 => thn h1 fun w2 t2 ⟨it, fp, tn, J, G2, ew, I2, TU, s2, fk2, tl⟩ => ?_
  subst ew
  refine wpAny_newObj_type (newEnv_comp ?_) (Nat.zero_le _)
  have fr : G2 t2.heap.objs.size = none := I2.hok.fresh (Nat.le_refl _)
  obtain ⟨V, ⟨m0, v0⟩, turn⟩ := tl _ fr
  have I3 : Inv X pn τ (upd G2 t2.heap.objs.size (.lst [])) { t2 with heap := t2.heap.push { cls := .type "list", data := .seq ([] : List Value).toArray } } :=
    I2.laid (t' := t2.toks) (fun _ _ e => Heap.get?_push_of_some _ e) (Nat.le_refl _) ⟨Nat.zero_le _, [], 0, .nil, Heap.get?_push_size _ rfl⟩
  have old : ∀ b ∈ fp, b < t2.heap.objs.size := fun b hb => let ⟨_, e, _⟩ := TU.obj _ _ s2 b hb; Heap.lt_size e
  have fk3 : ∀ b ∈ fp, FpOk X pn (upd G2 t2.heap.objs.size (.lst [])) b ∧ b < (t2.heap.push { cls := .type "list", data := .seq ([] : List Value).toArray }).objs.size := fun b hb =>
    ⟨⟨(upd_ne (Nat.ne_of_lt (old b hb))).trans (fk2 b hb).1, (fk2 b hb).2⟩, by rw [Heap.size_push]; exact Nat.lt_succ_of_lt (old b hb)⟩
  have s3 : tn 0 (t2.heap.push { cls := .type "list", data := .seq ([] : List Value).toArray }) := TU.keep _ _ _ s2 fun b _ o e => Heap.get?_push_of_some _ e
  generalize eT : ({ t2 with heap := t2.heap.push { cls := .type "list", data := .seq ([] : List Value).toArray } } : Shared) = t3 at I3
  have hT : t2.heap.push { cls := .type "list", data := .seq ([] : List Value).toArray } = t3.heap := by rw [← eT]
  rw [hT] at fk3 s3
  generalize eD : t2.heap.objs.size = D at fr v0 turn I3 fk3
  generalize eG : upd G2 D (.lst []) = G3 at v0 I3 fk3
  have I4 := block_start I3 ok hN fk3
  obtain ⟨ce, ec⟩ : ∃ ce, ce = compEnvC scope (cellsFrom (t3.heap.objs.size + 1) scope.names (cloFrom X.env.cells scope.names [])) t3.heap.objs.size X.env := ⟨_, rfl⟩
  have back : Back X (X.blk t3 G3 scope ce fp) pn τ := fun pnY τY G' t' IY => I3.call' (ch := fp) IY.os IY.base IY.hok IY.bare fun b hb =>
    let k := (fk3 b hb).1
    ⟨k.2.2.2.1, k.2.1, k.2.2.2.2.1, k.2.2.2.2.2⟩
  rw [← ec] at I4
  have pg := hg t3 G3 t3.heap.objs.size (cellsFrom (t3.heap.objs.size + 1) scope.names (cloFrom X.env.cells scope.names [])) fp
  have pe := he t3 G3 t3.heap.objs.size (cellsFrom (t3.heap.objs.size + 1) scope.names (cloFrom X.env.cells scope.names [])) fp pn τ (by rw [← ec]; exact back)
  rw [← ec] at pg pe
  have here : ce.locals = t3.heap.objs.size := by
    rw [ec]
    rfl
  have stay : ∀ {τ' : L2.St} {G' : Hp} {t' : Shared}, Inv (X.blk t3 G3 scope ce fp) [] τ' G' t' → (∀ b ∈ fp, G' b = none) → ∀ b ∈ fp, FpOk (X.blk t3 G3 scope ce fp) [] G' b := fun {τ' G' t'} IY hn b hb =>
    ⟨hn b hb, (IY.ok.exf b hb).1, IY.ok.exfs b hb, .inl hb, fun x c e => (IY.ok.exf b hb).2 x c e, fun p hp => absurd (show p ∈ ([] : List (Addr × Obj)) ++ [] from hp) (by simp)⟩
  have s4 : tn 0 (pushCells (t3.heap.push { cls := .type "dict", data := .dict #[] }) scope.names) := TU.keep _ _ _ s3 fun b _ o e => pushCells_keeps _ _ _ _ (Heap.get?_push_of_some _ e)
  have run : codeAny (model X.prog X.w) X.A (.compLoop (.ListComp elt [⟨tg, iter, [], 0⟩] scope pos) 0 (.ref it) (.ref D) ce) (compPost (model X.prog X.w) X.A X.xe none (EP X pn τ Q) (.ref D) t3.heap.objs.size) { t3 with heap := pushCells (t3.heap.push { cls := .type "dict", data := .dict #[] }) scope.names } := by
    refine compLoop_any (fun n t' => ∃ i G', Inv (X.blk t3 G3 scope ce fp) [] (wipe τ (own.map (·.2))) G' t' ∧ tn i t'.heap ∧ (∀ b ∈ fp, G' b = none) ∧ V i n G') ?_ m0 ⟨0, G3, I4, s4, fun b hb => (fk3 b hb).1.1, v0⟩
    rintro n t5 ⟨i, G5, I5, s5, n5, v5⟩
    rcases turn i n G5 v5 with ⟨halt, fin⟩ | ⟨go, Nx, dn, step⟩
    · refine thnF (TU.done (X.blk t3 G3 scope ce fp) rfl rfl rfl hc i [] t5 _ G5 (fun _ _ => False) I5 (stay I5 n5) s5 halt) fun r t6 ⟨er, I6⟩ => ?_
      subst er
      have I7 := back _ _ _ _ I6
      have free : G5 t3.heap.objs.size = none := by
        rw [← here]
        exact I6.free
      obtain ⟨mm, ns, _⟩ := I6.loc
      refine ⟨mm, by rw [← here]; exact ns, fun h3 sb => ?_⟩
      obtain ⟨k0, k1, k2, k3, k4, k5⟩ := I3.fpOk (Nat.le_refl _) free
      exact ⟨.ref D, G5, I7.turned (t' := t6.toks) (fun b o hb e => (sb.2 b hb).trans e) k0 k1 k3 k4 k5, rfl, fin⟩
    · refine thnF (TU.item (X.blk t3 G3 scope ce fp) rfl rfl rfl hc i [] t5 _ G5 (fun _ _ => False) I5 (stay I5 n5) s5 go) fun r t6 ⟨u, er, k6⟩ => ?_
      subst er
      refine thnF k6 fun _ t7 ⟨x, G7, I7, r7, y7, s7, n7⟩ => ?_
      refine thnF (pg.run _ t7 _ G7 x u _ (I7.pinned (stay I7 n7) (TU.obj _ _ s7)) r7 (step x G7 y7)) fun _ t8 ⟨τ8, G8, I8, w8, q8⟩ => ?_
      refine wpAny_tests_nil ?_
      have q8 : te τ τ8 G8 (fun y H4 => ∃ acc, H4 D = some (.lst acc) ∧ acc.length < sizeLine ∧ Nx (upd H4 D (.lst (acc ++ [y])))) := q8
      rw [if_pos rfl]
      refine thnF (pe.run _ t8 τ8 G8 _ I8 q8) fun z t9 ⟨yv, G9, I9, r9, acc, d9, z9, nx⟩ => ?_
      refine app_ok (X := X.blk t3 G3 scope ce fp) I9 d9 z9 r9 fun t10 I10 => ?_
      obtain ⟨m', hm, v'⟩ := dn _ nx
      have pin' : ∀ b ∈ fp, ∀ o, t7.heap.get? b = some o → t10.heap.get? b = some o ∧ upd G9 D (.lst (acc ++ [yv])) b = none := fun b hb o e =>
        let z := I10.pin (b, o) (List.mem_append_right _ (List.mem_append_right _ (mem_pinsAt hb e)))
        ⟨z.1, z.2.1⟩
      refine ⟨m', hm, i + 1, _, (I10.unpinned (pins := [])).weak (by rw [← w8, wipe_length]) (fun j v e => ?_), TU.keep _ _ _ s7 fun b hb o e => (pin' b hb o e).1, fun b hb => ?_, v'⟩
      · rw [← w8] at e
        exact (wipe_some e).1
      · obtain ⟨o, e, _⟩ := TU.obj _ _ s7 b hb
        exact (pin' b hb o e).2
  have fin := codeAny_compStart_list run (TU.self X.A 0 _ _ _ s4 run)
  rw [ec] at fin
  exact fin

def tHeardB (X : Cx) (τ : L2.St) (k : Nat) (TT : (XK → Hp → VK → Prop) → Hp → VK → Prop) (te : TE) : TE := fun σ H Q => te σ H fun v H1 =>
  ∃ (f : Addr) (params : Arguments) (body : Expr) (scope : Scope) (tb : XK → TE), v = .ref f ∧ CloB X k body scope tb ∧ IsClo (X.env.qual ++ "<lambda>") params body scope (cloFrom X.env.cells scope.names []) H1 f ∧ TT (fun E H' Q' => tb E (maskS X.N scope τ) H' Q') H1 Q
theorem pe_heardB {t0 : Shared} {G0 : Hp} {sc : Scope} {ce : Env} {fp : List Addr} {pn : List (Addr × Obj)} {τ : L2.St} {x a : Str} {st : Stmt} {g : Addr} {fd : FuncData} {Ng : List Str} {k : Nat} {TT : (XK → Hp → VK → Prop) → Hp → VK → Prop} {e : Expr} {te : TE} {p pos : Pos}
    (bk : Back X (X.blk t0 G0 sc ce fp) pn τ) (hm : X.mg x = some (.ref g)) (F : Fun X.K x x st g fd) (S : FnScope Ng [a] (defScope st)) (hb : Binds X.K fd [a] []) (hN : Ng[0]? = some a) (hv : Vis (defScope st) a) (hG : X.A.guards = some []) (hr : Room (k + 2) X.A)
    (G : GivesG X Ng x st g a TT) (he : PE (X.blk t0 G0 sc ce fp) e te) (hg : Gl (X.blk t0 G0 sc ce fp) x) (hdb : (x == ("__debug__" : Str)) = false := by decide) (hd : (a == ("__debug__" : Str)) = false := by decide) (hcd : (a == ("__classdict__" : Str)) = false := by decide)
    (hes : starEach (e :: []) (X.blk t0 G0 sc ce fp).env = (false, eval e (X.blk t0 G0 sc ce fp).env) :: starEach [] (X.blk t0 G0 sc ce fp).env := by rfl) (hpl : (backTo pos (starEach [] (X.blk t0 G0 sc ce fp).env)).any (·.1) = false := by rfl) :
    PE (X.blk t0 G0 sc ce fp) (.Call (.Name x p) [e] [] pos) (tHeardB X τ k TT te) := by
  refine ⟨fun pins s σ H Q I h => ?_⟩
  refine wpAny_Call_Name_kw (ld_glob I hg hm ?_ hdb)
  refine callWith_K (h₀ := X.base) I.ok.mod.kin F.kp (thn ((pa_cons he pa_nil hes).run pos pins s σ H (fun vs H1 => match vs with
    | [v] => ∃ (f : Addr) (params : Arguments) (body : Expr) (scope : Scope) (tb : XK → TE), v = .ref f ∧ CloB X k body scope tb ∧ IsClo (X.env.qual ++ "<lambda>") params body scope (cloFrom X.env.cells scope.names []) H1 f ∧
        TT (fun E H' Q' => tb E (maskS X.N scope τ) H' Q') H1 Q
    | _ => False) I h) fun us s1 hh => ?_) hes hpl
  obtain ⟨vs, H1, I1, r1, q1⟩ := hh
  match vs, r1, q1 with
  | [], _, q1 => exact q1.elim
  | _ :: _ :: _, _, q1 => exact q1.elim
  | [v], r1, q1 =>
  obtain ⟨f, params, body, scope, tb, rfl, B, ic, q⟩ := q1
  have J1 := bk _ _ _ _ I1
  refine ⟨I1.kIn, ?_⟩
  refine wpAny_call (codeAny_mono (run_body (X := X) (E := XN) (Q := Q) F S hb hr J1 r1 rfl fun cdv hr' => ?_) fun r s2 hq => ?_)
  · exact G cdv f s1 H1 Q _ _ (fun W pn xe E p1 p2 tk hW => pe_clo J1 B hG tk hW hr' hN hv hd hcd) ic q
  · cases r with
    | error e =>
      obtain ⟨_, _, _, _, _, _, _, _, _, _, _, _, z⟩ := (show L2.CX X.prog X.w X.stack H1 s1 XN e s2 from hq)
      exact z.elim
    | ok fl =>
      cases fl with
      | ret u => exact I1.after hq
      | next => exact False.elim hq
      | brk => exact False.elim hq
      | cont => exact False.elim hq
end
section
variable {X : Cx} {w : Wd} {ρ : Rho} {b : Bd} {Φ : Sl → Bd → Prop} {n : Str} {pn' : Pos} {i : Nat} {scope : Scope} {elt iter : Expr} {pos : Pos}
/-- an element, the frame's own slots at hand -/
def BB (X : Cx) (scope : Scope) (w : Wd) (ρ ρY : Rho) (b : Bd) (e : Expr) (Φ : Sl → Bd → Prop) : Prop := ∀ (t0 : Shared) (G0 : Hp) (C : Addr) (cl : List (Str × Addr)) (fp : List Addr) (pn : List (Addr × Obj)) (τ : L2.St), Back X (X.blk t0 G0 scope (compEnvC scope cl C X.env) fp) pn τ →
  ∀ (σY : L2.St) (A : HG) (Q : VK), RS X.K A.G τ ρ → RS X.K A.G σY ρY → Ok X.K w b A → (∀ v x b' (A' : HG), Ex2 A A' → Ok X.K w b' A' → Sl.rel X.K x v A'.G → Φ x b' → Q v A'.H) → sE (X.blk t0 G0 scope (compEnvC scope cl C X.env) fp) e σY A.H Q
theorem je_lcB (hc : X.calm = true) (hN : X.N.Nodup) (ok : BlkOk X.N X.env.scope scope [(n, i)])
    (hg : ∀ (s : Shared) (H : Hp) (C : Addr) (cl : List (Str × Addr)) (fp : List Addr), PG (X.blk s H scope (compEnvC scope cl C X.env) fp) (.Name n pn') (gName i))
    (h : JE X w ρ b iter fun x b1 => ∃ ys : List Sl, SrcL X.K x ys ∧ ys.length ≤ sizeLine ∧ ∃ I : Nat → List PyData → Bd → Prop, I 0 [] b1 ∧
      (∀ j y ds b, ys[j]? = some y → I j ds b → BB X scope w ρ ((ρ.set i none).set i (some y)) b elt fun z b' => ∃ d, z = .d d ∧ I (j + 1) (ds ++ [d]) b') ∧ ∀ r b, I ys.length r b → Φ (.d (.list r)) b)
    (hs : ∀ x, foldedSetIterable iter X.env x = pure x := by intro _; rfl) : JE X w ρ b (.ListComp elt [⟨.Name n pn', iter, [], 0⟩] scope pos) Φ :=
  je_of (pe_lcB (te := fun τ σ H Q => ∀ t0 G0 C cl fp pn, Back X (X.blk t0 G0 scope (compEnvC scope cl C X.env) fp) pn τ → sE (X.blk t0 G0 scope (compEnvC scope cl C X.env) fp) elt σ H Q) hc hN (pi_list pE) ok hg
    (fun t0 G0 C cl fp pn τ bk => ⟨fun pins s σ H Q I h => h t0 G0 C cl fp pn bk pins s I⟩) hs) fun σ H0 Q rs o c => by
    refine h σ H0 _ rs o fun v x b1 B a1 a2 a3 ⟨ys, hsrc, hz, I, i0, it, ie⟩ => ?_
    obtain ⟨a, xs, rfl, sq, rl⟩ := hsrc v B.G a3
    have hl := rl.length
    refine ⟨a, rfl, ⟨xs, HG.sql sq⟩, fun D hD => ?_⟩
    refine lc_list (xs := xs) (g := gName i) (tt := tYes) (te := fun σ1 H Q => ∀ t0 G0 C cl fp pn, Back X (X.blk t0 G0 scope (compEnvC scope cl C X.env) fp) pn σ → sE (X.blk t0 G0 scope (compEnvC scope cl C X.env) fp) elt σ1 H Q) (vs := [i]) (σ := σ) (LcP X w ρ σ B D I) (LcP.start hD (rs.ext a1.ext) a2 i0) (fun j H _ z => let ⟨A, _, _, _, e, x, _⟩ := z; by rw [← e]; exact HG.sql (sqL_ext sq x.ext)) ?_ ?_
    · intro j v H hv hP
      obtain ⟨y, hy, hr⟩ := rl.get hv
      have hj : j < xs.length := (List.getElem?_eq_some_iff.mp hv).1
      refine ⟨by show ((σ.set i none).set i (some v)).set i none = σ.set i none; rw [List.set_set, List.set_set], ?_⟩
      obtain ⟨A, acc, ds, b, rfl, x, hl', hd, gd, rp, rs', o', i1⟩ := hP
      refine Eq.mpr (if_pos (e := LcP X w ρ σ B D I (j + 1) A.H) (rfl : true = true)) ?_
      intro t0 G0 C cl fp pn bk
      refine it j y ds b hy i1 t0 G0 C cl fp pn σ bk _ A _ rs' (rs'.wipe.set (Sl.ext x.ext hr)) o' fun z y' b'' A'' x'' o'' rz ⟨d, ed, i2⟩ => ?_
      subst ed
      obtain ⟨hd2, g2⟩ := x''.keep _ _ hd gd
      exact ⟨acc, hd2, by omega, LcP.turn hD a2.2.1 (x.trans x'') hl' hd2 g2 (Rps.ext x''.ext _ _ rp) (rs'.ext x''.ext) o'' rz i2⟩
    · intro H hP
      rw [hl] at hP
      exact LcP.end_ hP hD a2.2.1 ie fun v x b' H' x1 => c v x b' H' (a1.trans x1)
/-- _law_heard(e) as such an element -/
theorem bb_heard {nh a : Str} {st : Stmt} {g : Addr} {fd : FuncData} {Ng : List Str} {k : Nat} {hs : List Hd} {p : Pos} {e : Expr} {ρY : Rho} (hm : X.mg nh = some (.ref g)) (F : Fun X.K nh nh st g fd) (S : FnScope Ng [a] (defScope st)) (hb : Binds X.K fd [a] []) (hN : Ng[0]? = some a) (hv : Vis (defScope st) a) (hG : X.A.guards = some []) (hr : Room (k + 2) X.A)
    (G : GivesG X Ng nh st g a (heardT X.K hs)) (hx : HdsX X.K hs)
    (h : BE X scope w ρY b e fun x b1 => ∃ params body sc', x = .st (cloOf X params body sc') ∧ CloS X.env.scope sc' ∧ LamD X w.T ρ b1 k body sc' (fun c d r => heardR hs Φ c d (trB b1 b1 r)) fun y r => ∃ d, y = .d d ∧ Φ (.d (.list [d])) (trB b1 b1 r))
    (hg : ∀ t0 G0 C cl fp, Gl (X.blk t0 G0 scope (compEnvC scope cl C X.env) fp) nh) (hdb : (nh == ("__debug__" : Str)) = false := by decide) (hd : (a == ("__debug__" : Str)) = false := by decide) (hcd : (a == ("__classdict__" : Str)) = false := by decide)
    (hes : ∀ t0 G0 C cl fp, starEach (e :: []) (X.blk t0 G0 scope (compEnvC scope cl C X.env) fp).env = (false, eval e (X.blk t0 G0 scope (compEnvC scope cl C X.env) fp).env) :: starEach [] (X.blk t0 G0 scope (compEnvC scope cl C X.env) fp).env := by intros; rfl)
    (hpl : ∀ t0 G0 C cl fp, (backTo pos (starEach [] (X.blk t0 G0 scope (compEnvC scope cl C X.env) fp).env)).any (·.1) = false := by intros; rfl) : BB X scope w ρ ρY b (.Call (.Name nh p) [e] [] pos) Φ := by
  intro t0 G0 C cl fp pn τ bk σY A Q rt rY o c pins s I
  refine (pe_heardB (k := k) bk hm F S hb hN hv hG hr G pE (hg t0 G0 C cl fp) hdb hd hcd (hes t0 G0 C cl fp) (hpl t0 G0 C cl fp)).run pins s σY A.H Q I ?_
  refine h t0 G0 C cl fp σY A _ rY o fun v x b1 H1 a1 a2 a3 ⟨params, body, sc', ex, L, q⟩ => ?_
  subst ex
  obtain ⟨f, ev, ic⟩ := a3
  exact ⟨f, params, body, sc', lamTb X k body sc', ev, cloB_tb L, isClo_ext ic (ExtS.of H1.sub), heard_run hx q (rt.ext a1.ext) (show Ok X.K w b1 H1 from a2) a1 c⟩
end
end CR

namespace K01
open PySem PySem.Spec PySem.W PySem.SeqAt PyProof.Rows L2 LamX CR
/-! ### the text -/
def topS (i : Nat) : Stmt := PySem.Challenge.pw_cutrooms_k01_whole_fractions.main.body.getD i (.Pass ⟨0, 0, 0, 0⟩)
/-- a def of the text, as it stands -/
structure Df (K : PySem.W.Frag) (mg : Str → Option Value) (x : Str) (i : Nat) (ps : List Str) where
  f : Addr
  fd : FuncData
  F : Fun K x x (topS i) f fd
  g : mg x = some (.ref f)
  b : Binds K fd ps []
  kb : KB K fd ps
theorem Df.k {K : PySem.W.Frag} {mg : Str → Option Value} {x : Str} {i : Nat} {ps : List Str} (D : Df K mg x i ps) : keepIn K (.ref D.f) = true := D.F.kp
structure Txt (P : Program) (K : PySem.W.Frag) (mg : Str → Option Value) where
  CN : Addr
  CF : Addr
  CE : Addr
  eN : Err P K mg "BadNumber" "value" CN
  eF : Err P K mg "BadFraction" "value" CF
  eE : Err0 K mg "Empty" CE
  hx : HdsX K [⟨CF, "fraction", some "value"⟩, ⟨CN, "number", some "value"⟩, ⟨CE, "empty", none⟩]
  most : ∃ t, mg "MOST_SIZE" = some (.int (10 ^ 40) t)
  times : ∃ t, mg "MOST_TIMES" = some (.int 60 t)
  one : ∃ a, mg "ONE" = some (.ref a) ∧ ∀ H, Rp K H (.ref a) (.tuple [.int 1, .int 1])
  babs : mg "abs" = none
  blen : mg "len" = none
  bisi : mg "isinstance" = none
  bint : mg "int" = none
  bbool : mg "bool" = none
  btup : mg "tuple" = none
  ball : mg "all" = none
  brng : mg "range" = none
  bmin : mg "min" = none
  brep : mg "repr" = none
  d7 : Df K mg "is_integer" 7 ["value"]
  d8 : Df K mg "is_from" 8 ["value", "least", "most"]
  d9 : Df K mg "is_number" 9 ["value"]
  d10 : Df K mg "need_number" 10 ["number"]
  d11 : Df K mg "need_from" 11 ["value", "least", "most"]
  d12 : Df K mg "common_in" 12 ["number", "far_number"]
  d16 : Df K mg "is_cut" 16 ["value"]
  d17 : Df K mg "is_fraction" 17 ["value"]
  d18 : Df K mg "need_fraction" 18 ["fraction"]
  d19 : Df K mg "need_fractions" 19 ["fraction", "far_fraction"]
  d20 : Df K mg "fraction_in" 20 ["top", "bottom"]
  d21 : Df K mg "fraction_of" 21 ["number", "far_number"]
  d22 : Df K mg "plus_in" 22 ["one", "two"]
  d23 : Df K mg "less_in" 23 ["one", "two"]
  d24 : Df K mg "times_in" 24 ["one", "two"]
  d25 : Df K mg "over_in" 25 ["one", "two"]
  d26 : Df K mg "power_in" 26 ["one", "times"]
  d27 : Df K mg "fraction_plus" 27 ["fraction", "far_fraction"]
  d28 : Df K mg "fraction_less" 28 ["fraction", "far_fraction"]
  d29 : Df K mg "fraction_times" 29 ["fraction", "far_fraction"]
  d30 : Df K mg "fraction_over" 30 ["fraction", "far_fraction"]
  d31 : Df K mg "fraction_power" 31 ["fraction", "times"]
  d32 : Df K mg "compare_in" 32 ["one", "two"]
  d33 : Df K mg "compare" 33 ["fraction", "far_fraction"]
  d34 : Df K mg "floor_in" 34 ["one"]
  d35 : Df K mg "floor_of" 35 ["fraction"]
  d37 : Df K mg "_law_begun" 37 ["script", "turn"]
  d38 : Df K mg "_law_draw" 38 ["m", "span"]
  d39 : Df K mg "_law_of" 39 ["m", "some"]
  d40 : Df K mg "_law_like" 40 ["told", "due"]
  d41 : Df K mg "_law_common" 41 ["near_so", "far_so"]
  d42 : Df K mg "_law_heard" 42 ["call"]
  d43 : Df K mg "_law_cut" 43 ["top", "bottom"]
  d44 : Df K mg "_law_some" 44 ["m"]
  d45 : Df K mg "_law_high" 45 ["base", "often"]
  d46 : Df K mg "_law_two_right" 46 ["m", "near", "far"]
  d47 : Df K mg "_law_made_right" 47 ["m"]
  d48 : Df K mg "_law_refused_right" 48 ["good"]
/-! ### what the defs give -/
def isI : PyData → Bool | .int _ => true | _ => false
def isFrom (d : PyData) (lo hi : Int) : Bool := match d with | .int i => decide (lo ≤ i) && decide (i ≤ hi) | _ => false
def isN : PyData → Bool | .int i => decide ((i.natAbs : Int) ≤ 10 ^ 40) | _ => false
def TellD (d : PyData) : Prop := ∃ k, Good k d ∧ k ≤ 60 ∧ wt d ≤ 1600
def c7 : Con := fun xs b Φ _ => ∃ d, xs = [.d d] ∧ Φ (.bl (isI d)) b
def c8 : Con := fun xs b Φ _ => ∃ d lo hi, xs = [.d d, .int lo, .int hi] ∧ Φ (.bl (isFrom d lo hi)) b
def c9 : Con := fun xs b Φ _ => ∃ d, xs = [.d d] ∧ Φ (.bl (isN d)) b
def c10 (CN : Addr) : Con := fun xs b Φ Er => ∃ d, xs = [.d d] ∧ TellD d ∧ (isN d = true → Φ (.d d) b) ∧ (isN d = false → Er (.ref CN) (some ("value", d)) b)
def c11 (CN : Addr) : Con := fun xs b Φ Er => ∃ d lo hi, xs = [.d d, .int lo, .int hi] ∧ TellD d ∧ (isFrom d lo hi = true → Φ (.d d) b) ∧ (isFrom d lo hi = false → Er (.ref CN) (some ("value", d)) b)
def c12 : Con := fun xs b Φ _ => ∃ i j : Int, xs = [.int i, .int j] ∧ Φ (.int (Int.gcd i j)) b
local macro_rules | `(tactic| ac_rfl) => `(tactic| repeat first
  | refine jb_cons ?_
  | refine jb_nil ?_
  | refine js_ret ?_
  | refine js_if ?_
  | refine js_expr ?_
  | refine ja_cons ?_
  | refine ja_nil ?_
  | refine jk_cons ?_
  | refine jk_nil ?_
  | refine je_int ?_
  | refine je_bl ?_
  | refine je_str ?_
  | refine je_non ?_
  | ((refine je_nm ?_); first
      | refine je_var 0 rfl (.inl rfl) rfl ?_
      | refine je_var 1 rfl (.inl rfl) rfl ?_
      | refine je_var 2 rfl (.inl rfl) rfl ?_
      | refine je_var 3 rfl (.inl rfl) rfl ?_
      | refine je_var 4 rfl (.inl rfl) rfl ?_
      | refine je_var 5 rfl (.inl rfl) rfl ?_
      | refine je_var 6 rfl (.inl rfl) rfl ?_
      | refine je_var 7 rfl (.inl rfl) rfl ?_
      | refine je_var 8 rfl (.inl rfl) rfl ?_
      | refine je_var 0 rfl (.inr (.inl rfl)) rfl ?_
      | refine je_var 1 rfl (.inr (.inl rfl)) rfl ?_
      | refine je_var 2 rfl (.inr (.inl rfl)) rfl ?_
      | refine je_var 3 rfl (.inr (.inl rfl)) rfl ?_
      | refine je_var 4 rfl (.inr (.inl rfl)) rfl ?_
      | refine je_var 5 rfl (.inr (.inl rfl)) rfl ?_
      | refine je_var 6 rfl (.inr (.inl rfl)) rfl ?_
      | refine je_var 0 rfl (.inr (.inr rfl)) rfl ?_
      | refine je_var 1 rfl (.inr (.inr rfl)) rfl ?_
      | refine je_var 2 rfl (.inr (.inr rfl)) rfl ?_
      | refine je_var 3 rfl (.inr (.inr rfl)) rfl ?_
      | refine je_var 4 rfl (.inr (.inr rfl)) rfl ?_
      | refine je_var 5 rfl (.inr (.inr rfl)) rfl ?_
      | refine je_var 6 rfl (.inr (.inr rfl)) rfl ?_)
  | refine je_sub ?_
  | refine je_lt ?_
  | refine je_le ?_
  | refine je_gt ?_
  | refine je_ge ?_
  | refine je_eq ?_
  | refine je_ne ?_
  | refine jt_lt ?_
  | refine jt_le ?_
  | refine jt_gt ?_
  | refine jt_ge ?_
  | refine jt_eq ?_
  | refine jt_ne ?_
  | refine jt_not ?_
  | refine jt_w (jw_and ?_)
  | refine jt_w (jw_or ?_)
  | refine jw_and ?_
  | refine jw_or ?_
  | refine jw_and1 ?_
  | refine jw_or1 ?_
  | refine je_and ?_
  | refine je_or ?_
  | refine je_one ?_
  | refine je_not ?_
  | refine je_neg ?_
  | refine je_tup ?_
  | refine je_lst ?_
  | refine je_ifExp ?_
  | refine je_ixT (i := 0) ?_
  | refine je_ixT (i := 1) ?_
  | refine ⟨_, _, rfl, rfl, ?_⟩
  | refine ⟨[_], rfl, Nat.le_of_ble_eq_true rfl, ?_⟩
  | refine ⟨[_, _], rfl, Nat.le_of_ble_eq_true rfl, ?_⟩
  | refine ⟨_, rfl, ?_⟩)
section
variable {P : Program} {w : World} {K : PySem.W.Frag} {mg : Str → Option Value} {base : Heap} (T : Txt P K mg)
theorem sc7 : FnScope ["value"] ["value"] (defScope (topS 7)) := ⟨rfl, rfl, rfl, by decide +kernel, rfl, by decide +kernel, by decide +kernel⟩
theorem kitI : ∀ d, kitB (tyN d) "int" = some (match d with | .int _ => true | .bool _ => true | _ => false)
  | .none => by decide +kernel
  | .bool _ => by show kitB "bool" "int" = some true; decide +kernel
  | .int _ => by show kitB "int" "int" = some true; decide +kernel
  | .str _ => by show kitB "str" "int" = some false; decide +kernel
  | .list _ => by show kitB "list" "int" = some false; decide +kernel
  | .tuple _ => by show kitB "tuple" "int" = some false; decide +kernel
  | .dict _ => by show kitB "dict" "int" = some false; decide +kernel
theorem kitBo : ∀ d, kitB (tyN d) "bool" = some (match d with | .bool _ => true | _ => false)
  | .none => by decide +kernel
  | .bool _ => by show kitB "bool" "bool" = some true; decide +kernel
  | .int _ => by show kitB "int" "bool" = some false; decide +kernel
  | .str _ => by show kitB "str" "bool" = some false; decide +kernel
  | .list _ => by show kitB "list" "bool" = some false; decide +kernel
  | .tuple _ => by show kitB "tuple" "bool" = some false; decide +kernel
  | .dict _ => by show kitB "dict" "bool" = some false; decide +kernel
theorem kitT : ∀ d, kitB (tyN d) "tuple" = some (match d with | .tuple _ => true | _ => false)
  | .none => by decide +kernel
  | .bool _ => by show kitB "bool" "tuple" = some false; decide +kernel
  | .int _ => by show kitB "int" "tuple" = some false; decide +kernel
  | .str _ => by show kitB "str" "tuple" = some false; decide +kernel
  | .list _ => by show kitB "list" "tuple" = some false; decide +kernel
  | .tuple _ => by show kitB "tuple" "tuple" = some true; decide +kernel
  | .dict _ => by show kitB "dict" "tuple" = some false; decide +kernel
theorem g7 : FnG P w K mg base 1 T.d7.f T.d7.fd ["value"] (spF K [] c7) := by
  refine okD0 T.d7.F sc7 (fun xs b Φ Er h => ?_) (fun cdv A outer s H H1 E xs b Φ Er hr hg tk h => ?_)
  · obtain ⟨d, rfl, _⟩ := h
    rfl
  · obtain ⟨d, rfl, q⟩ := h
    refine jb_cons ?_
    ac_rfl
    refine je_isi T.bisi T.bint (by decide +kernel) (fun d => ⟨_, kitI d⟩) ?_
    ac_rfl
    intro k hk
    rw [kitI d] at hk
    cases hk
    ac_rfl
    refine ⟨fun h => ?_, fun h => ?_⟩
    · ac_rfl
      refine je_isi T.bisi T.bbool (by decide +kernel) (fun d => ⟨_, kitBo d⟩) ?_
      ac_rfl
      intro k hk
      rw [kitBo d] at hk
      cases hk
      ac_rfl
      cases d <;> first | exact q | cases h
    · cases d <;> first | exact q | cases h
theorem sc8 : FnScope ["value", "least", "most"] ["value", "least", "most"] (defScope (topS 8)) := ⟨rfl, rfl, rfl, by decide +kernel, rfl, by decide +kernel, by decide +kernel⟩
theorem g8 : FnG P w K mg base 2 T.d8.f T.d8.fd ["value", "least", "most"] (spF K [] c8) := by
  refine okD0 T.d8.F sc8 (fun xs b Φ Er h => ?_) (fun cdv A outer s H H1 E xs b Φ Er hr hg tk h => ?_)
  · obtain ⟨d, lo, hi, rfl, _⟩ := h
    rfl
  · obtain ⟨d, lo, hi, rfl, q⟩ := h
    refine jb_cons ?_
    ac_rfl
    refine je_call (g7 T) (.inl rfl) hg hr tk T.d7.g T.d7.k T.d7.b (by decide) ?_
    ac_rfl
    refine callP ⟨d, rfl, ?_⟩
    ac_rfl
    refine ⟨fun h => ?_, fun h => ?_⟩
    · cases d with
      | int i =>
        refine je_one (je_chain op_le op_le ?_)
        ac_rfl
        refine ⟨fun h => ?_, fun h => ?_⟩
        · ac_rfl
          have e : isFrom (.int i) lo hi = decide (i ≤ hi) := by simp only [isFrom, h, Bool.true_and]
          rw [e] at q
          exact q
        · have e : isFrom (.int i) lo hi = false := by simp only [isFrom, h, Bool.false_and]
          rw [e] at q
          exact q
      | _ => cases h
    · cases d <;> first | exact q | cases h
theorem sc9 : FnScope ["value"] ["value"] (defScope (topS 9)) := ⟨rfl, rfl, rfl, by decide +kernel, rfl, by decide +kernel, by decide +kernel⟩
theorem g9 : FnG P w K mg base 2 T.d9.f T.d9.fd ["value"] (spF K [] c9) := by
  refine okD0 T.d9.F sc9 (fun xs b Φ Er h => ?_) (fun cdv A outer s H H1 E xs b Φ Er hr hg tk h => ?_)
  · obtain ⟨d, rfl, _⟩ := h
    rfl
  · obtain ⟨d, rfl, q⟩ := h
    obtain ⟨tm, hm⟩ := T.most
    ac_rfl
    refine je_call (g7 T) (.inl rfl) hg hr tk T.d7.g T.d7.k T.d7.b (by decide) ?_
    ac_rfl
    refine callP ⟨d, rfl, ?_⟩
    ac_rfl
    refine ⟨fun h => ?_, fun h => ?_⟩
    · cases d with
      | int i =>
        ac_rfl
        refine je_abs T.babs ?_
        ac_rfl
        refine je_glob (x := .int (10 ^ 40)) (v := .int (10 ^ 40)) hm ⟨_, rfl⟩ (fun _ => .int _) ?_
        ac_rfl
        exact q
      | _ => cases h
    · cases d <;> first | exact q | cases h
theorem sc10 : FnScope ["number"] ["number"] (defScope (topS 10)) := ⟨rfl, rfl, rfl, by decide +kernel, rfl, by decide +kernel, by decide +kernel⟩
theorem g10 (hS : ∃ mm, base.Ns sysModules mm) : FnG P w K mg base 3 T.d10.f T.d10.fd ["number"] (spF K [] (c10 T.CN)) := by
  refine okD T.d10.F sc10 (fun xs b Φ Er h => ?_) (fun cdv A outer s H H1 E xs b Φ Er hr hg tk h => ?_)
  · obtain ⟨d, rfl, _⟩ := h
    rfl
  · obtain ⟨d, rfl, hd, q1, q2⟩ := h
    ac_rfl
    refine jt_val ?_
    refine je_call (g9 T) (.inl rfl) hg hr tk T.d9.g T.d9.k T.d9.b (by decide) ?_
    ac_rfl
    refine callP ⟨d, rfl, ?_⟩
    ac_rfl
    refine ⟨fun h => ?_, fun h => ?_⟩
    · refine jb_one (js_err rfl T.eN hS hg hr tk ?_)
      ac_rfl
      obtain ⟨k, z1, z2, z3⟩ := hd
      exact ⟨k, d, rfl, z1, z2, z3, q2 (by simpa using h)⟩
    · ac_rfl
      exact q1 (by simpa using h)
end
end K01

namespace K01
open PySem PySem.Spec PySem.W PySem.SeqAt PyProof.Rows L2 LamX CR
local macro_rules | `(tactic| ac_rfl) => `(tactic| repeat first
  | refine jb_cons ?_
  | refine jb_nil ?_
  | refine js_ret ?_
  | refine js_if ?_
  | refine js_expr ?_
  | refine ja_cons ?_
  | refine ja_nil ?_
  | refine jk_cons ?_
  | refine jk_nil ?_
  | refine je_int ?_
  | refine je_bl ?_
  | refine je_str ?_
  | refine je_non ?_
  | ((refine je_nm ?_); first
      | refine je_var 0 rfl (.inl rfl) rfl ?_
      | refine je_var 1 rfl (.inl rfl) rfl ?_
      | refine je_var 2 rfl (.inl rfl) rfl ?_
      | refine je_var 3 rfl (.inl rfl) rfl ?_
      | refine je_var 4 rfl (.inl rfl) rfl ?_
      | refine je_var 5 rfl (.inl rfl) rfl ?_
      | refine je_var 6 rfl (.inl rfl) rfl ?_
      | refine je_var 7 rfl (.inl rfl) rfl ?_
      | refine je_var 8 rfl (.inl rfl) rfl ?_
      | refine je_var 0 rfl (.inr (.inl rfl)) rfl ?_
      | refine je_var 1 rfl (.inr (.inl rfl)) rfl ?_
      | refine je_var 2 rfl (.inr (.inl rfl)) rfl ?_
      | refine je_var 3 rfl (.inr (.inl rfl)) rfl ?_
      | refine je_var 4 rfl (.inr (.inl rfl)) rfl ?_
      | refine je_var 5 rfl (.inr (.inl rfl)) rfl ?_
      | refine je_var 6 rfl (.inr (.inl rfl)) rfl ?_
      | refine je_var 0 rfl (.inr (.inr rfl)) rfl ?_
      | refine je_var 1 rfl (.inr (.inr rfl)) rfl ?_
      | refine je_var 2 rfl (.inr (.inr rfl)) rfl ?_
      | refine je_var 3 rfl (.inr (.inr rfl)) rfl ?_
      | refine je_var 4 rfl (.inr (.inr rfl)) rfl ?_
      | refine je_var 5 rfl (.inr (.inr rfl)) rfl ?_
      | refine je_var 6 rfl (.inr (.inr rfl)) rfl ?_)
  | refine je_sub ?_
  | refine je_lt ?_
  | refine je_le ?_
  | refine je_gt ?_
  | refine je_ge ?_
  | refine je_eq ?_
  | refine je_ne ?_
  | refine jt_lt ?_
  | refine jt_le ?_
  | refine jt_gt ?_
  | refine jt_ge ?_
  | refine jt_eq ?_
  | refine jt_ne ?_
  | refine jt_not ?_
  | refine jt_w (jw_and ?_)
  | refine jt_w (jw_or ?_)
  | refine jw_and ?_
  | refine jw_or ?_
  | refine jw_and1 ?_
  | refine jw_or1 ?_
  | refine je_and ?_
  | refine je_or ?_
  | refine je_one ?_
  | refine je_not ?_
  | refine je_neg ?_
  | refine je_tup ?_
  | refine je_lst ?_
  | refine je_ifExp ?_
  | refine je_ixT (i := 0) ?_
  | refine je_ixT (i := 1) ?_
  | refine ⟨_, _, rfl, rfl, ?_⟩
  | refine ⟨[_], rfl, Nat.le_of_ble_eq_true rfl, ?_⟩
  | refine ⟨[_, _], rfl, Nat.le_of_ble_eq_true rfl, ?_⟩
  | refine ⟨_, rfl, ?_⟩)

/-! ### fractions in lowest terms -/
def fr (p : Int × Int) : PyData := .tuple [.int p.1, .int p.2]
def cut (t u : Int) : Int × Int := let c : Int := if 0 < u then (Int.gcd t u : Int) else 0 - (Int.gcd t u : Int); (t.fdiv c, u.fdiv c)
def Sz (p : Int × Int) : Prop := p.1.natAbs < 2 ^ 3000 ∧ p.2.natAbs < 2 ^ 3000
theorem cut_one {a b : Int} (h : Int.gcd a b = 1) (hb : 0 < b) : cut a b = (a, b) := by
  unfold cut
  rw [if_pos hb, h]
  show (a.fdiv 1, b.fdiv 1) = (a, b)
  rw [Int.fdiv_one, Int.fdiv_one]
theorem cut_neg {a b : Int} (h : Int.gcd a b = 1) (hb : b < 0) : cut a b = (-a, -b) := by
  unfold cut
  rw [if_neg (by omega), h]
  show (a.fdiv (0 - 1), b.fdiv (0 - 1)) = (-a, -b)
  have e : (0 - 1 : Int) = -1 := rfl
  have f : ∀ z : Int, z.fdiv (-1) = -z := fun z => by
    have := Int.mul_fdiv_cancel (-z) (b := -1) (by decide)
    rw [show -z * -1 = z by omega] at this
    exact this
  rw [e, f, f]
theorem gcd_small {t u : Int} (hu : u ≠ 0) {n : Nat} (h : u.natAbs < 2 ^ n) : Int.gcd t u ≠ 0 ∧ Int.gcd t u < 2 ^ n := by
  constructor
  · intro z
    exact hu (Int.gcd_eq_zero_iff.mp z).2
  · refine Nat.lt_of_le_of_lt (Nat.le_of_dvd (by omega) ?_) h
    exact Nat.gcd_dvd_right _ _
theorem cut_div {t u : Int} (hu : u ≠ 0) (h : u.natAbs < 2 ^ 8000) : (if 0 < u then (Int.gcd t u : Int) else 0 - (Int.gcd t u : Int)) ≠ 0 ∧ (if 0 < u then (Int.gcd t u : Int) else 0 - (Int.gcd t u : Int)).natAbs.log2 < 9000 := by
  obtain ⟨h1, h2⟩ := gcd_small (t := t) hu h
  have e : (if 0 < u then (Int.gcd t u : Int) else 0 - (Int.gcd t u : Int)).natAbs = Int.gcd t u := by
    split <;> omega
  refine ⟨fun z => ?_, ?_⟩
  · rw [z] at e
    exact h1 e.symm
  · rw [e]
    refine Nat.lt_of_lt_of_le ((Nat.log2_lt h1).mpr h2) (by decide)
def c16 : Con := fun xs b Φ _ => ∃ d, xs = [.d d] ∧ (∀ ds, d = .tuple ds → ds.length < 1000) ∧ Φ (.bl (match d with | .tuple [.int x, .int y] => decide (0 < y) && decide (Int.gcd x y = 1) | _ => false)) b
def isCut (d : PyData) : Bool := match d with | .tuple [.int x, .int y] => decide (0 < y) && decide (Int.gcd x y = 1) | _ => false
def isFr (d : PyData) : Bool := match d with | .tuple [.int x, .int y] => decide (0 < y) && decide (Int.gcd x y = 1) && (decide ((x.natAbs : Int) ≤ 10 ^ 40) && decide ((y.natAbs : Int) ≤ 10 ^ 40)) | _ => false
theorem fr_of {d : PyData} (h : isFr d = true) : ∃ x y : Int, d = fr (x, y) ∧ 0 < y ∧ Int.gcd x y = 1 ∧ x.natAbs ≤ 10 ^ 40 ∧ y.natAbs ≤ 10 ^ 40 := by
  unfold isFr at h
  split at h
  · rename_i x y
    simp only [Bool.and_eq_true, decide_eq_true_eq] at h
    obtain ⟨⟨h1, h2⟩, h3, h4⟩ := h
    have e : (10 : Int) ^ 40 = ((10 ^ 40 : Nat) : Int) := by norm_cast
    rw [e] at h3 h4
    exact ⟨x, y, rfl, h1, h2, Int.ofNat_le.mp h3, Int.ofNat_le.mp h4⟩
  · cases h
section
variable {P : Program} {w : World} {K : PySem.W.Frag} {mg : Str → Option Value} {base : Heap} (T : Txt P K mg)
theorem sc11 : FnScope ["value", "least", "most"] ["value", "least", "most"] (defScope (topS 11)) := ⟨rfl, rfl, rfl, by decide +kernel, rfl, by decide +kernel, by decide +kernel⟩
theorem g11 (hS : ∃ mm, base.Ns sysModules mm) : FnG P w K mg base 3 T.d11.f T.d11.fd ["value", "least", "most"] (spF K [] (c11 T.CN)) := by
  refine okD T.d11.F sc11 (fun xs b Φ Er h => ?_) (fun cdv A outer s H H1 E xs b Φ Er hr hg tk h => ?_)
  · obtain ⟨d, lo, hi, rfl, _⟩ := h
    rfl
  · obtain ⟨d, lo, hi, rfl, hd, q1, q2⟩ := h
    ac_rfl
    refine jt_val ?_
    refine je_call (g8 T) (.inl rfl) hg hr tk T.d8.g T.d8.k T.d8.b (by decide) ?_
    ac_rfl
    refine callP ⟨d, lo, hi, rfl, ?_⟩
    ac_rfl
    refine ⟨fun h => ?_, fun h => ?_⟩
    · refine jb_one (js_err rfl T.eN hS hg hr tk ?_)
      ac_rfl
      obtain ⟨k, z1, z2, z3⟩ := hd
      exact ⟨k, d, rfl, z1, z2, z3, q2 (by simpa using h)⟩
    · ac_rfl
      exact q1 (by simpa using h)
theorem sc12 : FnScope ["number", "far_number", "one", "two"] ["number", "far_number"] (defScope (topS 12)) := ⟨rfl, rfl, rfl, by decide +kernel, rfl, by decide +kernel, by decide +kernel⟩
theorem g12 : FnG P w K mg base 1 T.d12.f T.d12.fd ["number", "far_number"] (spF K [] c12) := by
  refine okD0 T.d12.F sc12 (fun xs b Φ Er h => ?_) (fun cdv A outer s H H1 E xs b Φ Er hr hg tk h => ?_)
  · obtain ⟨i, j, rfl, _⟩ := h
    rfl
  · obtain ⟨i, j, rfl, q⟩ := h
    refine jb_cons ?_
    ac_rfl
    refine js_par 2 3 rfl sc12.nd rfl rfl (by decide) rfl rfl (by rfl) ?_
    ac_rfl
    refine je_abs T.babs ?_
    ac_rfl
    refine je_abs T.babs ?_
    ac_rfl
    refine ⟨_, _, rfl, ?_⟩
    ac_rfl
    refine js_while .never (fun m ρ b' => ∃ x y : Nat, ρ = [some (.int i), some (.int j), some (.int x), some (.int y)] ∧ b' = b ∧ Nat.gcd x y = Int.gcd i j ∧ y = m) (m0 := j.natAbs) ⟨i.natAbs, j.natAbs, rfl, rfl, rfl, rfl⟩ ?_
    rintro m ρ b' ⟨x, y, rfl, rfl, hg, rfl⟩
    ac_rfl
    refine ⟨fun hy => ?_, fun hy => ?_⟩
    · have hy : y ≠ 0 := by simpa using hy
      refine jb_one ?_
      refine js_par 2 3 rfl sc12.nd rfl rfl (by decide) rfl rfl (by rfl) ?_
      ac_rfl
      refine je_mod ?_
      ac_rfl
      refine ⟨by omega, ?_⟩
      ac_rfl
      refine ⟨_, _, rfl, x % y, Nat.mod_lt _ (by omega), y, x % y, rfl, rfl, ?_, rfl⟩
      rw [← hg, Nat.gcd_comm y, ← Nat.gcd_rec, Nat.gcd_comm]
    · have hy : y = 0 := by simpa using hy
      subst hy
      ac_rfl
      rw [Nat.gcd_zero_right] at hg
      rw [hg]
      exact q
theorem sc16 : FnScope ["value", "one"] ["value"] (defScope (topS 16)) := ⟨rfl, rfl, rfl, by decide +kernel, rfl, by decide +kernel, by decide +kernel⟩
theorem cut_len {ds : List PyData} (h : isCut (.tuple ds) = true) : ds.length = 2 := by
  unfold isCut at h
  split at h
  · rename_i e
    cases e
    rfl
  · cases h
theorem all2 {x y : PyData} : ([x, y].map isI).all id = true → ∃ i j, x = .int i ∧ y = .int j := by
  intro h
  simp only [List.map_cons, List.map_nil, List.all_cons, List.all_nil, id, Bool.and_true, Bool.and_eq_true] at h
  obtain ⟨h1, h2⟩ := h
  cases x <;> cases y <;> first | exact ⟨_, _, rfl, rfl⟩ | (cases h1; done) | (cases h2; done)
theorem g16 : FnG P w K mg base 2 T.d16.f T.d16.fd ["value"] (spF K [] c16) := by
  refine okD0 T.d16.F sc16 (fun xs b Φ Er h => ?_) (fun cdv A outer s H H1 E xs b Φ Er hr hg tk h => ?_)
  · obtain ⟨d, rfl, _⟩ := h
    rfl
  · obtain ⟨d, rfl, hlen, q⟩ := h
    have q : Φ (.bl (isCut d)) b := q
    have no : isCut d = false → Φ (.bl false) b := fun z => by
      rw [z] at q
      exact q
    ac_rfl
    refine jt_val ?_
    refine je_isi T.bisi T.btup (by decide +kernel) (fun d => ⟨_, kitT d⟩) ?_
    ac_rfl
    intro k hk
    rw [kitT d] at hk
    cases hk
    ac_rfl
    cases d with
    | tuple ds =>
      refine ⟨fun _ => ?_, fun z => by cases z⟩
      ac_rfl
      refine je_len T.blen ?_
      ac_rfl
      have two : ∀ b : Bool, b = decide ((ds.length : Int) = 2) → b = true → ∃ x y, ds = [x, y] := fun b e z => by
        have e : (ds.length : Int) = 2 := of_decide_eq_true (e.symm.trans z)
        match ds, e with
        | [x, y], _ => exact ⟨x, y, rfl⟩
        | [], e => simp at e
        | [_], e => simp at e
        | _ :: _ :: _ :: _, e =>
          simp only [List.length_cons] at e
          omega
      refine ⟨fun h2 => ?_, fun h2 => ?_⟩
      · obtain ⟨x, y, rfl⟩ := two _ rfl (by simpa using h2)
        ac_rfl
        refine jt_val (je_all rfl T.ball ?_)
        refine je_lcT (i := 1) rfl sc16.nd (blkOk_by (N := ["value", "one"]) (sc := defScope (topS 16)) (by decide +kernel)) (fun _ _ _ _ _ => pg_name (i := 1) sc16.nd rfl (Or.inl rfl)) ?_
        refine je_var 0 rfl (.inl rfl) rfl ?_
        refine ⟨_, src_tup, (show 2 ≤ sizeLine by decide), fun j r b' => b' = b ∧ r = ([x, y].take j).map fun d => .bool (isI d), ⟨rfl, rfl⟩, ?_, ?_⟩
        · rintro j z r b' hy ⟨rfl, rfl⟩ s0 H0 C cl fp
          obtain ⟨d, hd, rfl⟩ : ∃ d, [x, y][j]? = some d ∧ z = .d d := by
            rw [List.getElem?_map] at hy
            cases e : [x, y][j]? with
            | none => rw [e] at hy; cases hy
            | some d => rw [e] at hy; exact ⟨d, rfl, (Option.some.inj hy).symm⟩
          refine je_call (g7 T) (.inl rfl) hg hr tk_no T.d7.g T.d7.k T.d7.b (by decide) ?_
          refine ja_cons ?_
          refine je_var 1 rfl (.inl rfl) rfl ?_
          refine ja_nil ?_
          refine callP ⟨d, rfl, _, rfl, rfl, ?_⟩
          rw [List.take_add_one, hd]
          simp
        · rintro r b' ⟨rfl, rfl⟩
          refine ⟨[x, y].map isI, rfl, ?_⟩
          ac_rfl
          refine ⟨fun h3 => ?_, fun h3 => ?_⟩
          · ac_rfl
            refine no ?_
            cases x <;> cases y <;> first | rfl | (cases h3; done)
          · obtain ⟨i, j, rfl, rfl⟩ := all2 (x := x) (y := y) (by simpa using h3)
            ac_rfl
            have qq : Φ (.bl (decide (0 < j) && decide (Int.gcd i j = 1))) b' := q
            refine ⟨fun h => ?_, fun h => ?_⟩
            · ac_rfl
              refine je_call (g12 T) (.inl rfl) hg hr tk T.d12.g T.d12.k T.d12.b (by decide) ?_
              ac_rfl
              refine callP ⟨i, j, rfl, ?_⟩
              ac_rfl
              rw [h, Bool.true_and] at qq
              have e : decide ((Int.gcd i j : Int) = 1) = decide (Int.gcd i j = 1) := by
                rw [decide_eq_decide]
                omega
              rw [e]
              exact qq
            · rw [h, Bool.false_and] at qq
              exact qq
      · refine ⟨fun _ => ?_, fun z => by cases z⟩
        ac_rfl
        refine no ?_
        cases hc : isCut (.tuple ds) with
        | false => rfl
        | true =>
          rw [cut_len hc] at h2
          cases h2
    | _ =>
      refine ⟨fun z => (by cases z), fun _ => ⟨fun _ => ?_, fun z => (by cases z)⟩⟩
      ac_rfl
      exact no rfl
end
end K01

namespace K01
open PySem PySem.Spec PySem.W PySem.SeqAt PyProof.Rows L2 LamX CR
local macro_rules | `(tactic| ac_rfl) => `(tactic| repeat first
  | refine jb_cons ?_
  | refine jb_nil ?_
  | refine js_ret ?_
  | refine js_if ?_
  | refine js_expr ?_
  | refine ja_cons ?_
  | refine ja_nil ?_
  | refine jk_cons ?_
  | refine jk_nil ?_
  | refine je_int ?_
  | refine je_bl ?_
  | refine je_str ?_
  | refine je_non ?_
  | ((refine je_nm ?_); first
      | refine je_var 0 rfl (.inl rfl) rfl ?_
      | refine je_var 1 rfl (.inl rfl) rfl ?_
      | refine je_var 2 rfl (.inl rfl) rfl ?_
      | refine je_var 3 rfl (.inl rfl) rfl ?_
      | refine je_var 4 rfl (.inl rfl) rfl ?_
      | refine je_var 5 rfl (.inl rfl) rfl ?_
      | refine je_var 6 rfl (.inl rfl) rfl ?_
      | refine je_var 7 rfl (.inl rfl) rfl ?_
      | refine je_var 8 rfl (.inl rfl) rfl ?_
      | refine je_var 0 rfl (.inr (.inl rfl)) rfl ?_
      | refine je_var 1 rfl (.inr (.inl rfl)) rfl ?_
      | refine je_var 2 rfl (.inr (.inl rfl)) rfl ?_
      | refine je_var 3 rfl (.inr (.inl rfl)) rfl ?_
      | refine je_var 4 rfl (.inr (.inl rfl)) rfl ?_
      | refine je_var 5 rfl (.inr (.inl rfl)) rfl ?_
      | refine je_var 6 rfl (.inr (.inl rfl)) rfl ?_
      | refine je_var 0 rfl (.inr (.inr rfl)) rfl ?_
      | refine je_var 1 rfl (.inr (.inr rfl)) rfl ?_
      | refine je_var 2 rfl (.inr (.inr rfl)) rfl ?_
      | refine je_var 3 rfl (.inr (.inr rfl)) rfl ?_
      | refine je_var 4 rfl (.inr (.inr rfl)) rfl ?_
      | refine je_var 5 rfl (.inr (.inr rfl)) rfl ?_
      | refine je_var 6 rfl (.inr (.inr rfl)) rfl ?_)
  | refine je_sub ?_
  | refine je_lt ?_
  | refine je_le ?_
  | refine je_gt ?_
  | refine je_ge ?_
  | refine je_eq ?_
  | refine je_ne ?_
  | refine jt_lt ?_
  | refine jt_le ?_
  | refine jt_gt ?_
  | refine jt_ge ?_
  | refine jt_eq ?_
  | refine jt_ne ?_
  | refine jt_not ?_
  | refine jt_w (jw_and ?_)
  | refine jt_w (jw_or ?_)
  | refine jw_and ?_
  | refine jw_or ?_
  | refine jw_and1 ?_
  | refine jw_or1 ?_
  | refine je_and ?_
  | refine je_or ?_
  | refine je_one ?_
  | refine je_not ?_
  | refine je_neg ?_
  | refine je_tup ?_
  | refine je_lst ?_
  | refine je_ifExp ?_
  | refine je_ixT (i := 0) ?_
  | refine je_ixT (i := 1) ?_
  | refine ⟨_, _, rfl, rfl, ?_⟩
  | refine ⟨[_], rfl, Nat.le_of_ble_eq_true rfl, ?_⟩
  | refine ⟨[_, _], rfl, Nat.le_of_ble_eq_true rfl, ?_⟩
  | refine ⟨_, rfl, ?_⟩)

def c17 : Con := fun xs b Φ _ => ∃ d, xs = [.d d] ∧ (∀ ds, d = .tuple ds → ds.length < 1000) ∧ Φ (.bl (isFr d)) b
def c18 (CF : Addr) : Con := fun xs b Φ Er => ∃ d, xs = [.d d] ∧ TellD d ∧ (∀ ds, d = .tuple ds → ds.length < 1000) ∧ (isFr d = true → Φ (.d d) b) ∧ (isFr d = false → Er (.ref CF) (some ("value", d)) b)
def c19 (CF : Addr) : Con := fun xs b Φ Er => ∃ d e, xs = [.d d, .d e] ∧ TellD d ∧ TellD e ∧ (∀ ds, d = .tuple ds → ds.length < 1000) ∧ (∀ ds, e = .tuple ds → ds.length < 1000) ∧ (isFr d = false → Er (.ref CF) (some ("value", d)) b) ∧
  (isFr d = true → isFr e = false → Er (.ref CF) (some ("value", e)) b) ∧ (isFr d = true → isFr e = true → Φ (.d .none) b)
def c20 : Con := fun xs b Φ _ => ∃ t u : Int, xs = [.int t, .int u] ∧ u ≠ 0 ∧ u.natAbs < 2 ^ 8000 ∧ Φ (.d (fr (cut t u))) b
def c22 (F : Int × Int → Int × Int → Int × Int) (ok : Int × Int → Int × Int → Prop) : Con := fun xs b Φ _ => ∃ p q : Int × Int, xs = [.d (fr p), .d (fr q)] ∧ Sz p ∧ Sz q ∧ ok p q ∧ Φ (.d (fr (F p q))) b
def fPlus (p q : Int × Int) : Int × Int := cut (p.1 * q.2 + q.1 * p.2) (p.2 * q.2)
def fLess (p q : Int × Int) : Int × Int := cut (p.1 * q.2 - q.1 * p.2) (p.2 * q.2)
def fTimes (p q : Int × Int) : Int × Int := cut (p.1 * q.1) (p.2 * q.2)
def fOver (p q : Int × Int) : Int × Int := cut (p.1 * q.2) (p.2 * q.1)
def okD2 (p q : Int × Int) : Prop := p.2 ≠ 0 ∧ q.2 ≠ 0
def okO2 (p q : Int × Int) : Prop := p.2 ≠ 0 ∧ q.1 ≠ 0
theorem szW {a b : Int} (h : a.natAbs < 2 ^ 3000) (g : b.natAbs < 2 ^ 3000) : CMulW a b := wide_mul h g (by decide) (by decide) (by decide)
theorem szP {a b : Int} (h : a.natAbs < 2 ^ 3000) (g : b.natAbs < 2 ^ 3000) : (a * b).natAbs < 2 ^ 8000 := Nat.lt_of_lt_of_le (wide_lt h g) (Nat.pow_le_pow_right (by decide) (by decide))
section
variable {P : Program} {w : World} {K : PySem.W.Frag} {mg : Str → Option Value} {base : Heap} (T : Txt P K mg)
theorem sc17 : FnScope ["value"] ["value"] (defScope (topS 17)) := ⟨rfl, rfl, rfl, by decide +kernel, rfl, by decide +kernel, by decide +kernel⟩
theorem isFr_cut {d : PyData} (h : isCut d = false) : isFr d = false := by
  unfold isCut at h
  unfold isFr
  split
  · simp only at h
    rw [h, Bool.false_and]
  · rfl
theorem cut_ex {d : PyData} (h : isCut d = true) : ∃ x y : Int, d = fr (x, y) ∧ isFr d = (isN (.int x) && isN (.int y)) := by
  unfold isCut at h
  split at h
  · rename_i x y
    refine ⟨x, y, rfl, ?_⟩
    show (decide (0 < y) && decide (Int.gcd x y = 1) && (decide ((x.natAbs : Int) ≤ 10 ^ 40) && decide ((y.natAbs : Int) ≤ 10 ^ 40))) = _
    rw [h, Bool.true_and]
    rfl
  · cases h
theorem g17 : FnG P w K mg base 3 T.d17.f T.d17.fd ["value"] (spF K [] c17) := by
  refine okD0 T.d17.F sc17 (fun xs b Φ Er h => ?_) (fun cdv A outer s H H1 E xs b Φ Er hr hg tk h => ?_)
  · obtain ⟨d, rfl, _⟩ := h
    rfl
  · obtain ⟨d, rfl, hl, q⟩ := h
    refine jb_cons ?_
    ac_rfl
    refine je_call (g16 T) (.inl rfl) hg hr tk T.d16.g T.d16.k T.d16.b (by decide) ?_
    ac_rfl
    refine callP ⟨d, rfl, hl, ?_⟩
    refine ⟨isCut d, rfl, fun h => ?_, fun h => ?_⟩
    · obtain ⟨x, y, rfl, e⟩ := cut_ex h
      rw [e] at q
      ac_rfl
      refine je_call (g9 T) (.inl rfl) hg hr tk T.d9.g T.d9.k T.d9.b (by decide) ?_
      ac_rfl
      refine callP ⟨_, rfl, ?_⟩
      refine ⟨isN (.int x), rfl, fun h => ?_, fun h => ?_⟩
      · ac_rfl
        refine je_call (g9 T) (.inl rfl) hg hr tk T.d9.g T.d9.k T.d9.b (by decide) ?_
        ac_rfl
        refine callP ⟨_, rfl, ?_⟩
        rw [h, Bool.true_and] at q
        exact q
      · rw [h, Bool.false_and] at q
        exact q
    · rw [isFr_cut h] at q
      exact q
theorem sc18 : FnScope ["fraction"] ["fraction"] (defScope (topS 18)) := ⟨rfl, rfl, rfl, by decide +kernel, rfl, by decide +kernel, by decide +kernel⟩
theorem g18 (hS : ∃ mm, base.Ns sysModules mm) : FnG P w K mg base 4 T.d18.f T.d18.fd ["fraction"] (spF K [] (c18 T.CF)) := by
  refine okD T.d18.F sc18 (fun xs b Φ Er h => ?_) (fun cdv A outer s H H1 E xs b Φ Er hr hg tk h => ?_)
  · obtain ⟨d, rfl, _⟩ := h
    rfl
  · obtain ⟨d, rfl, hd, hl, q1, q2⟩ := h
    refine jb_cons ?_
    ac_rfl
    refine jt_val ?_
    refine je_call (g17 T) (.inl rfl) hg hr tk T.d17.g T.d17.k T.d17.b (by decide) ?_
    ac_rfl
    refine callP ⟨d, rfl, hl, ?_⟩
    ac_rfl
    refine ⟨fun h => ?_, fun h => ?_⟩
    · refine jb_one (js_err rfl T.eF hS hg hr tk ?_)
      ac_rfl
      obtain ⟨k, z1, z2, z3⟩ := hd
      exact ⟨k, d, rfl, z1, z2, z3, q2 (by simpa using h)⟩
    · ac_rfl
      exact q1 (by simpa using h)
theorem sc19 : FnScope ["fraction", "far_fraction"] ["fraction", "far_fraction"] (defScope (topS 19)) := ⟨rfl, rfl, rfl, by decide +kernel, rfl, by decide +kernel, by decide +kernel⟩
theorem g19 (hS : ∃ mm, base.Ns sysModules mm) : FnG P w K mg base 5 T.d19.f T.d19.fd ["fraction", "far_fraction"] (spF K [] (c19 T.CF)) := by
  refine okD T.d19.F sc19 (fun xs b Φ Er h => ?_) (fun cdv A outer s H H1 E xs b Φ Er hr hg tk h => ?_)
  · obtain ⟨d, e, rfl, _⟩ := h
    rfl
  · obtain ⟨d, e, rfl, hd, he, hl, hl2, q1, q2, q3⟩ := h
    refine jb_cons ?_
    ac_rfl
    refine je_call (g18 T hS) (.inl rfl) hg hr tk T.d18.g T.d18.k T.d18.b (by decide) ?_
    ac_rfl
    refine callP ⟨d, rfl, hd, hl, fun h1 => ?_, q1⟩
    ac_rfl
    refine je_call (g18 T hS) (.inl rfl) hg hr tk T.d18.g T.d18.k T.d18.b (by decide) ?_
    ac_rfl
    refine callP ⟨e, rfl, he, hl2, fun h2 => ?_, q2 h1⟩
    ac_rfl
    exact q3 h1 h2
theorem sc20 : FnScope ["top", "bottom", "common"] ["top", "bottom"] (defScope (topS 20)) := ⟨rfl, rfl, rfl, by decide +kernel, rfl, by decide +kernel, by decide +kernel⟩
theorem g20 : FnG P w K mg base 2 T.d20.f T.d20.fd ["top", "bottom"] (spF K [] c20) := by
  refine okD0 T.d20.F sc20 (fun xs b Φ Er h => ?_) (fun cdv A outer s H H1 E xs b Φ Er hr hg tk h => ?_)
  · obtain ⟨t, u, rfl, _⟩ := h
    rfl
  · obtain ⟨t, u, rfl, h0, hu, q⟩ := h
    have dv := cut_div (t := t) h0 hu
    refine jb_cons ?_
    refine js_set 2 sc20.nd rfl (.inl rfl) ?_
    ac_rfl
    refine ⟨fun h => ?_, fun h => ?_⟩
    · have h : 0 < u := of_decide_eq_true h
      refine je_call (g12 T) (.inl rfl) hg hr tk T.d12.g T.d12.k T.d12.b (by decide) ?_
      ac_rfl
      refine callP ⟨t, u, rfl, ?_⟩
      rw [if_pos h] at dv
      ac_rfl
      refine je_fdiv ?_
      ac_rfl
      refine ⟨dv, ?_⟩
      ac_rfl
      refine je_fdiv ?_
      ac_rfl
      refine ⟨dv, ?_⟩
      ac_rfl
      have e : cut t u = (t.fdiv (Int.gcd t u : Int), u.fdiv (Int.gcd t u : Int)) := by
        unfold cut
        rw [if_pos h]
      rw [e] at q
      exact q
    · have h : ¬ 0 < u := of_decide_eq_false h
      ac_rfl
      refine je_call (g12 T) (.inl rfl) hg hr tk T.d12.g T.d12.k T.d12.b (by decide) ?_
      ac_rfl
      refine callP ⟨t, u, rfl, ?_⟩
      rw [if_neg h] at dv
      ac_rfl
      refine je_fdiv ?_
      ac_rfl
      refine ⟨dv, ?_⟩
      ac_rfl
      refine je_fdiv ?_
      ac_rfl
      refine ⟨dv, ?_⟩
      ac_rfl
      have e : cut t u = (t.fdiv (0 - (Int.gcd t u : Int)), u.fdiv (0 - (Int.gcd t u : Int))) := by
        unfold cut
        rw [if_neg h]
      rw [e] at q
      exact q
theorem sc22 : FnScope ["one", "two"] ["one", "two"] (defScope (topS 22)) := ⟨rfl, rfl, rfl, by decide +kernel, rfl, by decide +kernel, by decide +kernel⟩
theorem sc23 : FnScope ["one", "two"] ["one", "two"] (defScope (topS 23)) := ⟨rfl, rfl, rfl, by decide +kernel, rfl, by decide +kernel, by decide +kernel⟩
theorem sc24 : FnScope ["one", "two"] ["one", "two"] (defScope (topS 24)) := ⟨rfl, rfl, rfl, by decide +kernel, rfl, by decide +kernel, by decide +kernel⟩
theorem sc25 : FnScope ["one", "two"] ["one", "two"] (defScope (topS 25)) := ⟨rfl, rfl, rfl, by decide +kernel, rfl, by decide +kernel, by decide +kernel⟩
theorem g22 : FnG P w K mg base 3 T.d22.f T.d22.fd ["one", "two"] (spF K [] (c22 fPlus okD2)) := by
  refine okD0 T.d22.F sc22 (fun xs b Φ Er h => ?_) (fun cdv A outer s H H1 E xs b Φ Er hr hg tk h => ?_)
  · obtain ⟨p, q, rfl, _⟩ := h
    rfl
  · obtain ⟨p, q, rfl, hp, hq, ⟨h1, h2⟩, qq⟩ := h
    refine jb_cons ?_
    ac_rfl
    refine je_call (g20 T) (.inl rfl) hg hr tk T.d20.g T.d20.k T.d20.b (by decide) ?_
    ac_rfl
    refine je_add (je_mulW ?_)
    ac_rfl
    refine ⟨szW hp.1 hq.2, ?_⟩
    ac_rfl
    refine je_mulW ?_
    ac_rfl
    refine ⟨szW hq.1 hp.2, ?_⟩
    ac_rfl
    refine je_mulW ?_
    ac_rfl
    refine ⟨szW hp.2 hq.2, ?_⟩
    ac_rfl
    refine callP ⟨_, _, rfl, Int.mul_ne_zero h1 h2, szP hp.2 hq.2, qq⟩
theorem g23 : FnG P w K mg base 3 T.d23.f T.d23.fd ["one", "two"] (spF K [] (c22 fLess okD2)) := by
  refine okD0 T.d23.F sc23 (fun xs b Φ Er h => ?_) (fun cdv A outer s H H1 E xs b Φ Er hr hg tk h => ?_)
  · obtain ⟨p, q, rfl, _⟩ := h
    rfl
  · obtain ⟨p, q, rfl, hp, hq, ⟨h1, h2⟩, qq⟩ := h
    refine jb_cons ?_
    ac_rfl
    refine je_call (g20 T) (.inl rfl) hg hr tk T.d20.g T.d20.k T.d20.b (by decide) ?_
    ac_rfl
    refine je_mulW ?_
    ac_rfl
    refine ⟨szW hp.1 hq.2, ?_⟩
    ac_rfl
    refine je_mulW ?_
    ac_rfl
    refine ⟨szW hq.1 hp.2, ?_⟩
    ac_rfl
    refine je_mulW ?_
    ac_rfl
    refine ⟨szW hp.2 hq.2, ?_⟩
    ac_rfl
    refine callP ⟨_, _, rfl, Int.mul_ne_zero h1 h2, szP hp.2 hq.2, qq⟩
theorem g24 : FnG P w K mg base 3 T.d24.f T.d24.fd ["one", "two"] (spF K [] (c22 fTimes okD2)) := by
  refine okD0 T.d24.F sc24 (fun xs b Φ Er h => ?_) (fun cdv A outer s H H1 E xs b Φ Er hr hg tk h => ?_)
  · obtain ⟨p, q, rfl, _⟩ := h
    rfl
  · obtain ⟨p, q, rfl, hp, hq, ⟨h1, h2⟩, qq⟩ := h
    refine jb_cons ?_
    ac_rfl
    refine je_call (g20 T) (.inl rfl) hg hr tk T.d20.g T.d20.k T.d20.b (by decide) ?_
    ac_rfl
    refine je_mulW ?_
    ac_rfl
    refine ⟨szW hp.1 hq.1, ?_⟩
    ac_rfl
    refine je_mulW ?_
    ac_rfl
    refine ⟨szW hp.2 hq.2, ?_⟩
    ac_rfl
    refine callP ⟨_, _, rfl, Int.mul_ne_zero h1 h2, szP hp.2 hq.2, qq⟩
theorem g25 : FnG P w K mg base 3 T.d25.f T.d25.fd ["one", "two"] (spF K [] (c22 fOver okO2)) := by
  refine okD0 T.d25.F sc25 (fun xs b Φ Er h => ?_) (fun cdv A outer s H H1 E xs b Φ Er hr hg tk h => ?_)
  · obtain ⟨p, q, rfl, _⟩ := h
    rfl
  · obtain ⟨p, q, rfl, hp, hq, ⟨h1, h2⟩, qq⟩ := h
    refine jb_cons ?_
    ac_rfl
    refine je_call (g20 T) (.inl rfl) hg hr tk T.d20.g T.d20.k T.d20.b (by decide) ?_
    ac_rfl
    refine je_mulW ?_
    ac_rfl
    refine ⟨szW hp.1 hq.2, ?_⟩
    ac_rfl
    refine je_mulW ?_
    ac_rfl
    refine ⟨szW hp.2 hq.1, ?_⟩
    ac_rfl
    refine callP ⟨_, _, rfl, Int.mul_ne_zero h1 h2, szP hp.2 hq.1, qq⟩
end
end K01

namespace K01
open PySem PySem.Spec PySem.W PySem.SeqAt PyProof.Rows L2 LamX CR
local macro_rules | `(tactic| ac_rfl) => `(tactic| repeat first
  | refine jb_cons ?_
  | refine jb_nil ?_
  | refine js_ret ?_
  | refine js_if ?_
  | refine js_expr ?_
  | refine ja_cons ?_
  | refine ja_nil ?_
  | refine jk_cons ?_
  | refine jk_nil ?_
  | refine je_int ?_
  | refine je_bl ?_
  | refine je_str ?_
  | refine je_non ?_
  | ((refine je_nm ?_); first
      | refine je_var 0 rfl (.inl rfl) rfl ?_
      | refine je_var 1 rfl (.inl rfl) rfl ?_
      | refine je_var 2 rfl (.inl rfl) rfl ?_
      | refine je_var 3 rfl (.inl rfl) rfl ?_
      | refine je_var 4 rfl (.inl rfl) rfl ?_
      | refine je_var 5 rfl (.inl rfl) rfl ?_
      | refine je_var 6 rfl (.inl rfl) rfl ?_
      | refine je_var 7 rfl (.inl rfl) rfl ?_
      | refine je_var 8 rfl (.inl rfl) rfl ?_
      | refine je_var 0 rfl (.inr (.inl rfl)) rfl ?_
      | refine je_var 1 rfl (.inr (.inl rfl)) rfl ?_
      | refine je_var 2 rfl (.inr (.inl rfl)) rfl ?_
      | refine je_var 3 rfl (.inr (.inl rfl)) rfl ?_
      | refine je_var 4 rfl (.inr (.inl rfl)) rfl ?_
      | refine je_var 5 rfl (.inr (.inl rfl)) rfl ?_
      | refine je_var 6 rfl (.inr (.inl rfl)) rfl ?_
      | refine je_var 0 rfl (.inr (.inr rfl)) rfl ?_
      | refine je_var 1 rfl (.inr (.inr rfl)) rfl ?_
      | refine je_var 2 rfl (.inr (.inr rfl)) rfl ?_
      | refine je_var 3 rfl (.inr (.inr rfl)) rfl ?_
      | refine je_var 4 rfl (.inr (.inr rfl)) rfl ?_
      | refine je_var 5 rfl (.inr (.inr rfl)) rfl ?_
      | refine je_var 6 rfl (.inr (.inr rfl)) rfl ?_)
  | refine je_sub ?_
  | refine je_lt ?_
  | refine je_le ?_
  | refine je_gt ?_
  | refine je_ge ?_
  | refine je_eq ?_
  | refine je_ne ?_
  | refine jt_lt ?_
  | refine jt_le ?_
  | refine jt_gt ?_
  | refine jt_ge ?_
  | refine jt_eq ?_
  | refine jt_ne ?_
  | refine jt_not ?_
  | refine jt_w (jw_and ?_)
  | refine jt_w (jw_or ?_)
  | refine jw_and ?_
  | refine jw_or ?_
  | refine jw_and1 ?_
  | refine jw_or1 ?_
  | refine je_and ?_
  | refine je_or ?_
  | refine je_one ?_
  | refine je_not ?_
  | refine je_neg ?_
  | refine je_tup ?_
  | refine je_lst ?_
  | refine je_ifExp ?_
  | refine je_ixT (i := 0) ?_
  | refine je_ixT (i := 1) ?_
  | refine ⟨_, _, rfl, rfl, ?_⟩
  | refine ⟨[_], rfl, Nat.le_of_ble_eq_true rfl, ?_⟩
  | refine ⟨[_, _], rfl, Nat.le_of_ble_eq_true rfl, ?_⟩
  | refine ⟨_, rfl, ?_⟩)

/-- a fraction in lowest terms within the bounds -/
structure Fra (p : Int × Int) : Prop where
  pos : 0 < p.2
  co : Int.gcd p.1 p.2 = 1
  s1 : p.1.natAbs ≤ 10 ^ 40
  s2 : p.2.natAbs ≤ 10 ^ 40
theorem tenB : 10 ^ 40 < 2 ^ 3000 := Nat.lt_of_lt_of_le (by decide : 10 ^ 40 < 2 ^ 200) (Nat.pow_le_pow_right (by decide) (by decide))
theorem Fra.sz {p : Int × Int} (h : Fra p) : Sz p := ⟨Nat.lt_of_le_of_lt h.s1 tenB, Nat.lt_of_le_of_lt h.s2 tenB⟩
theorem Fra.ne {p : Int × Int} (h : Fra p) : p.2 ≠ 0 := fun z => by
  have := h.pos
  omega
theorem fr_p {d : PyData} (h : isFr d = true) : ∃ p, d = fr p ∧ Fra p := by
  obtain ⟨x, y, e, h1, h2, h3, h4⟩ := fr_of h
  exact ⟨(x, y), e, h1, h2, h3, h4⟩
theorem Fra.is {p : Int × Int} (h : Fra p) : isFr (fr p) = true := by
  show (decide (0 < p.2) && decide (Int.gcd p.1 p.2 = 1) && (decide ((p.1.natAbs : Int) ≤ 10 ^ 40) && decide ((p.2.natAbs : Int) ≤ 10 ^ 40))) = true
  have e : (10 : Int) ^ 40 = ((10 ^ 40 : Nat) : Int) := by norm_cast
  rw [e]
  simp only [Bool.and_eq_true, decide_eq_true_eq]
  exact ⟨⟨h.pos, h.co⟩, Int.ofNat_le.mpr h.s1, Int.ofNat_le.mpr h.s2⟩
/-! ### powers -/
def pwb (p : Int × Int) (t : Int) : Int × Int := if 0 ≤ t then p else fOver (1, 1) p
def pwr (p : Int × Int) (t : Int) : Int × Int := ((pwb p t).1 ^ t.natAbs, (pwb p t).2 ^ t.natAbs)
theorem pwb_ok {p : Int × Int} {t : Int} (h1 : 0 < p.2) (h2 : Int.gcd p.1 p.2 = 1) (h3 : t < 0 → p.1 ≠ 0) {B : Nat} (b1 : p.1.natAbs ≤ B) (b2 : p.2.natAbs ≤ B) : 0 < (pwb p t).2 ∧ Int.gcd (pwb p t).1 (pwb p t).2 = 1 ∧ (pwb p t).1.natAbs ≤ B ∧ (pwb p t).2.natAbs ≤ B := by
  unfold pwb
  by_cases ht : 0 ≤ t
  · rw [if_pos ht]
    exact ⟨h1, h2, b1, b2⟩
  · rw [if_neg ht]
    have h0 := h3 (by omega)
    have g : Int.gcd p.2 p.1 = 1 := by rw [Int.gcd_comm]; exact h2
    have e : fOver (1, 1) p = cut p.2 p.1 := by
      unfold fOver
      rw [Int.one_mul, Int.one_mul]
    rw [e]
    by_cases hp : 0 < p.1
    · rw [cut_one g hp]
      exact ⟨hp, g, b2, b1⟩
    · rw [cut_neg g (by omega)]
      refine ⟨by show 0 < -p.1; omega, ?_, by show (-p.2).natAbs ≤ B; omega, by show (-p.1).natAbs ≤ B; omega⟩
      show Int.gcd (-p.2) (-p.1) = 1
      rw [Int.neg_gcd, Int.gcd_neg]
      exact g
theorem pow_gcd {a b : Int} (h : Int.gcd a b = 1) (m n : Nat) : Int.gcd (a ^ m) (b ^ n) = 1 := by
  show Nat.gcd (a ^ m).natAbs (b ^ n).natAbs = 1
  rw [Int.natAbs_pow, Int.natAbs_pow]
  exact Nat.Coprime.pow m n h
theorem pow_step {q : Int × Int} (h1 : 0 < q.2) (h2 : Int.gcd q.1 q.2 = 1) (i : Nat) : fTimes (q.1 ^ i, q.2 ^ i) q = (q.1 ^ (i + 1), q.2 ^ (i + 1)) := by
  unfold fTimes
  show cut (q.1 ^ i * q.1) (q.2 ^ i * q.2) = _
  rw [← Int.pow_succ, ← Int.pow_succ]
  exact cut_one (pow_gcd h2 _ _) (Int.pow_pos h1)
theorem pow_sz {x : Int} {B n i : Nat} (h : x.natAbs ≤ B) (h1 : 1 ≤ B) (hi : i ≤ n) (hB : B ^ n < 2 ^ 3000) : (x ^ i).natAbs < 2 ^ 3000 := by
  rw [Int.natAbs_pow]
  exact Nat.lt_of_le_of_lt (Nat.le_trans (Nat.pow_le_pow_left h i) (Nat.pow_le_pow_right h1 hi)) hB
def c26 : Con := fun xs b Φ _ => ∃ (p : Int × Int) (t : Int) (B : Nat), xs = [.d (fr p), .int t] ∧ 0 < p.2 ∧ Int.gcd p.1 p.2 = 1 ∧ (t < 0 → p.1 ≠ 0) ∧ t.natAbs ≤ 60 ∧ 1 ≤ B ∧ p.1.natAbs ≤ B ∧ p.2.natAbs ≤ B ∧ B < 2 ^ 3000 ∧ B ^ t.natAbs < 2 ^ 3000 ∧ Φ (.d (fr (pwr p t))) b
def c27 (CF : Addr) (k : Int × Int → Int × Int → (Sl → Bd → Prop) → (Value → Option (Str × PyData) → Bd → Prop) → Bd → Prop) : Con := fun xs b Φ Er => ∃ d e, xs = [.d d, .d e] ∧ TellD d ∧ TellD e ∧ (∀ ds, d = .tuple ds → ds.length < 1000) ∧ (∀ ds, e = .tuple ds → ds.length < 1000) ∧
  (isFr d = false → Er (.ref CF) (some ("value", d)) b) ∧ (isFr d = true → isFr e = false → Er (.ref CF) (some ("value", e)) b) ∧ ∀ p q, d = fr p → e = fr q → Fra p → Fra q → k p q Φ Er b
def cmpI (p q : Int × Int) : Int := (if decide (q.1 * p.2 < p.1 * q.2) then 1 else 0) - (if decide (p.1 * q.2 < q.1 * p.2) then 1 else 0)
section
variable {P : Program} {w : World} {K : PySem.W.Frag} {mg : Str → Option Value} {base : Heap} (T : Txt P K mg)
theorem sc26 : FnScope ["one", "times", "found", "base", "turn"] ["one", "times"] (defScope (topS 26)) := ⟨rfl, rfl, rfl, by decide +kernel, rfl, by decide +kernel, by decide +kernel⟩
theorem g26 : FnG P w K mg base 4 T.d26.f T.d26.fd ["one", "times"] (spF K [] c26) := by
  refine okD0 T.d26.F sc26 (fun xs b Φ Er h => ?_) (fun cdv A outer s H H1 E xs b Φ Er hr hg tk h => ?_)
  · obtain ⟨p, t, B, rfl, _⟩ := h
    rfl
  · obtain ⟨p, t, B, rfl, h1, h2, h3, h4, hB, b1, b2, hB2, hBt, qq⟩ := h
    obtain ⟨k1, k2, k3, k4⟩ := pwb_ok (t := t) h1 h2 h3 b1 b2
    obtain ⟨aO, hO, rO⟩ := T.one
    refine jb_cons ?_
    refine js_par 2 3 rfl sc26.nd rfl rfl (by decide) rfl rfl (by rfl) ?_
    ac_rfl
    refine je_glob (x := .d (fr (1, 1))) (v := .ref aO) hO rfl (fun H => rO H) ?_
    ac_rfl
    have rest : ∀ D : DK, (D.rt = Φ) → JB (bodyCx P w K mg base ["one", "times", "found", "base", "turn"] "power_in" (topS 26) T.d26.f cdv A outer s H E).nox ⟨[], b.map (·.1), H1, fun _ _ _ => False⟩ [some (.d (fr p)), some (.int t), some (.d (fr (1, 1))), some (.d (fr (pwb p t))), none] b ((defBody (topS 26)).drop 1) D := fun D hD => by
      refine jb_cons ?_
      refine js_forR 4 .never rfl T.brng sc26.nd rfl (.inl rfl) ?_
      refine je_abs T.babs ?_
      ac_rfl
      refine ⟨by omega, by omega, fun i ρ b' => (∃ y, ρ = [some (.d (fr p)), some (.int t), some (.d (fr ((pwb p t).1 ^ i, (pwb p t).2 ^ i))), some (.d (fr (pwb p t))), y]) ∧ b' = b, ⟨⟨none, by rw [Int.pow_zero, Int.pow_zero]⟩, rfl⟩, ?_, ?_⟩
      · rintro i ρ b' hi ⟨⟨y, rfl⟩, rfl⟩
        have hi : i < t.natAbs := by omega
        refine jb_one (js_set 2 sc26.nd rfl (.inl rfl) ?_)
        refine je_call (g24 T) (.inl rfl) hg hr tk T.d24.g T.d24.k T.d24.b (by decide) ?_
        ac_rfl
        refine callP ⟨_, _, rfl, ⟨pow_sz k3 hB (Nat.le_of_lt hi) hBt, pow_sz k4 hB (Nat.le_of_lt hi) hBt⟩, ⟨Nat.lt_of_le_of_lt k3 hB2, Nat.lt_of_le_of_lt k4 hB2⟩, ⟨?_, ?_⟩, ?_⟩
        · exact Int.ne_of_gt (Int.pow_pos k1)
        · exact Int.ne_of_gt k1
        · rw [pow_step k1 k2]
          exact ⟨⟨_, rfl⟩, rfl⟩
      · rintro ρ b' ⟨⟨y, rfl⟩, rfl⟩
        ac_rfl
        rw [hD]
        exact qq
    refine ⟨fun h => ?_, fun h => ?_⟩
    · have h : 0 ≤ t := of_decide_eq_true h
      ac_rfl
      refine ⟨_, _, rfl, ?_⟩
      have e : pwb p t = p := if_pos h
      rw [e] at rest
      exact rest _ rfl
    · have h : ¬ 0 ≤ t := of_decide_eq_false h
      have e : pwb p t = fOver (1, 1) p := if_neg h
      rw [e] at rest
      refine je_call (g25 T) (.inl rfl) hg hr tk T.d25.g T.d25.k T.d25.b (by decide) ?_
      ac_rfl
      refine je_glob (x := .d (fr (1, 1))) (v := .ref aO) hO rfl (fun H => rO H) ?_
      ac_rfl
      refine callP ⟨_, _, rfl, ⟨Nat.lt_of_lt_of_le (by decide : 1 < 2 ^ 1) (Nat.pow_le_pow_right (by decide) (by decide)), Nat.lt_of_lt_of_le (by decide : 1 < 2 ^ 1) (Nat.pow_le_pow_right (by decide) (by decide))⟩, ⟨Nat.lt_of_le_of_lt b1 hB2, Nat.lt_of_le_of_lt b2 hB2⟩, ⟨by decide, h3 (by omega)⟩, ?_⟩
      ac_rfl
      exact ⟨_, _, rfl, rest _ rfl⟩
theorem sc27 : FnScope ["fraction", "far_fraction"] ["fraction", "far_fraction"] (defScope (topS 27)) := ⟨rfl, rfl, rfl, by decide +kernel, rfl, by decide +kernel, by decide +kernel⟩
theorem g27 (hS : ∃ mm, base.Ns sysModules mm) : FnG P w K mg base 6 T.d27.f T.d27.fd ["fraction", "far_fraction"] (spF K [] (c27 T.CF fun p q Φ Er b => Φ (.d (fr (fPlus p q))) b)) := by
  refine okD T.d27.F sc27 (fun xs b Φ Er h => ?_) (fun cdv A outer s H H1 E xs b Φ Er hr hg tk h => ?_)
  · obtain ⟨d, e, rfl, _⟩ := h
    rfl
  · obtain ⟨d, e, rfl, hd, he, hl, hl2, q1, q2, q3⟩ := h
    refine jb_cons ?_
    ac_rfl
    refine je_call (g19 T hS) (.inl rfl) hg hr tk T.d19.g T.d19.k T.d19.b (by decide) ?_
    ac_rfl
    refine callP ⟨d, e, rfl, hd, he, hl, hl2, q1, q2, fun h1 h2 => ?_⟩
    obtain ⟨p, rfl, f1⟩ := fr_p h1
    obtain ⟨q, rfl, f2⟩ := fr_p h2
    ac_rfl
    refine je_call (g22 T) (.inl rfl) hg hr tk T.d22.g T.d22.k T.d22.b (by decide) ?_
    ac_rfl
    exact callP ⟨p, q, rfl, f1.sz, f2.sz, ⟨f1.ne, f2.ne⟩, q3 p q rfl rfl f1 f2⟩
theorem sc28 : FnScope ["fraction", "far_fraction"] ["fraction", "far_fraction"] (defScope (topS 28)) := ⟨rfl, rfl, rfl, by decide +kernel, rfl, by decide +kernel, by decide +kernel⟩
theorem g28 (hS : ∃ mm, base.Ns sysModules mm) : FnG P w K mg base 6 T.d28.f T.d28.fd ["fraction", "far_fraction"] (spF K [] (c27 T.CF fun p q Φ Er b => Φ (.d (fr (fLess p q))) b)) := by
  refine okD T.d28.F sc28 (fun xs b Φ Er h => ?_) (fun cdv A outer s H H1 E xs b Φ Er hr hg tk h => ?_)
  · obtain ⟨d, e, rfl, _⟩ := h
    rfl
  · obtain ⟨d, e, rfl, hd, he, hl, hl2, q1, q2, q3⟩ := h
    refine jb_cons ?_
    ac_rfl
    refine je_call (g19 T hS) (.inl rfl) hg hr tk T.d19.g T.d19.k T.d19.b (by decide) ?_
    ac_rfl
    refine callP ⟨d, e, rfl, hd, he, hl, hl2, q1, q2, fun h1 h2 => ?_⟩
    obtain ⟨p, rfl, f1⟩ := fr_p h1
    obtain ⟨q, rfl, f2⟩ := fr_p h2
    ac_rfl
    refine je_call (g23 T) (.inl rfl) hg hr tk T.d23.g T.d23.k T.d23.b (by decide) ?_
    ac_rfl
    exact callP ⟨p, q, rfl, f1.sz, f2.sz, ⟨f1.ne, f2.ne⟩, q3 p q rfl rfl f1 f2⟩
theorem sc29 : FnScope ["fraction", "far_fraction"] ["fraction", "far_fraction"] (defScope (topS 29)) := ⟨rfl, rfl, rfl, by decide +kernel, rfl, by decide +kernel, by decide +kernel⟩
theorem g29 (hS : ∃ mm, base.Ns sysModules mm) : FnG P w K mg base 6 T.d29.f T.d29.fd ["fraction", "far_fraction"] (spF K [] (c27 T.CF fun p q Φ Er b => Φ (.d (fr (fTimes p q))) b)) := by
  refine okD T.d29.F sc29 (fun xs b Φ Er h => ?_) (fun cdv A outer s H H1 E xs b Φ Er hr hg tk h => ?_)
  · obtain ⟨d, e, rfl, _⟩ := h
    rfl
  · obtain ⟨d, e, rfl, hd, he, hl, hl2, q1, q2, q3⟩ := h
    refine jb_cons ?_
    ac_rfl
    refine je_call (g19 T hS) (.inl rfl) hg hr tk T.d19.g T.d19.k T.d19.b (by decide) ?_
    ac_rfl
    refine callP ⟨d, e, rfl, hd, he, hl, hl2, q1, q2, fun h1 h2 => ?_⟩
    obtain ⟨p, rfl, f1⟩ := fr_p h1
    obtain ⟨q, rfl, f2⟩ := fr_p h2
    ac_rfl
    refine je_call (g24 T) (.inl rfl) hg hr tk T.d24.g T.d24.k T.d24.b (by decide) ?_
    ac_rfl
    exact callP ⟨p, q, rfl, f1.sz, f2.sz, ⟨f1.ne, f2.ne⟩, q3 p q rfl rfl f1 f2⟩

theorem sc30 : FnScope ["fraction", "far_fraction"] ["fraction", "far_fraction"] (defScope (topS 30)) := ⟨rfl, rfl, rfl, by decide +kernel, rfl, by decide +kernel, by decide +kernel⟩
theorem g30 (hS : ∃ mm, base.Ns sysModules mm) : FnG P w K mg base 6 T.d30.f T.d30.fd ["fraction", "far_fraction"] (spF K [] (c27 T.CF fun p q Φ Er b => (q.1 = 0 → Er (.ref T.CE) none b) ∧ (q.1 ≠ 0 → Φ (.d (fr (fOver p q))) b))) := by
  refine okD T.d30.F sc30 (fun xs b Φ Er h => ?_) (fun cdv A outer s H H1 E xs b Φ Er hr hg tk h => ?_)
  · obtain ⟨d, e, rfl, _⟩ := h
    rfl
  · obtain ⟨d, e, rfl, hd, he, hl, hl2, q1, q2, q3⟩ := h
    refine jb_cons ?_
    ac_rfl
    refine je_call (g19 T hS) (.inl rfl) hg hr tk T.d19.g T.d19.k T.d19.b (by decide) ?_
    ac_rfl
    refine callP ⟨d, e, rfl, hd, he, hl, hl2, q1, q2, fun h1 h2 => ?_⟩
    obtain ⟨p, rfl, f1⟩ := fr_p h1
    obtain ⟨q, rfl, f2⟩ := fr_p h2
    obtain ⟨z1, z2⟩ := q3 p q rfl rfl f1 f2
    ac_rfl
    refine ⟨fun h => ?_, fun h => ?_⟩
    · exact jb_one (js_err0 rfl T.eE tk (z1 (of_decide_eq_true h)))
    · have h : q.1 ≠ 0 := of_decide_eq_false h
      ac_rfl
      refine je_call (g25 T) (.inl rfl) hg hr tk T.d25.g T.d25.k T.d25.b (by decide) ?_
      ac_rfl
      exact callP ⟨p, q, rfl, f1.sz, f2.sz, ⟨f1.ne, h⟩, z2 h⟩
def c31 (CF CN CE : Addr) : Con := fun xs b Φ Er => ∃ d e, xs = [.d d, .d e] ∧ TellD d ∧ TellD e ∧ (∀ ds, d = .tuple ds → ds.length < 1000) ∧ (isFr d = false → Er (.ref CF) (some ("value", d)) b) ∧ (isFr d = true → isFrom e (-60) 60 = false → Er (.ref CN) (some ("value", e)) b) ∧
  ∀ p t, d = fr p → e = .int t → Fra p → -60 ≤ t → t ≤ 60 → (t < 0 ∧ p.1 = 0 → Er (.ref CE) none b) ∧ (¬(t < 0 ∧ p.1 = 0) → ∃ B : Nat, 1 ≤ B ∧ p.1.natAbs ≤ B ∧ p.2.natAbs ≤ B ∧ B < 2 ^ 3000 ∧ B ^ t.natAbs < 2 ^ 3000 ∧ Φ (.d (fr (pwr p t))) b)
theorem sc31 : FnScope ["fraction", "times"] ["fraction", "times"] (defScope (topS 31)) := ⟨rfl, rfl, rfl, by decide +kernel, rfl, by decide +kernel, by decide +kernel⟩
theorem from_ex {d : PyData} {lo hi : Int} (h : isFrom d lo hi = true) : ∃ i, d = .int i ∧ lo ≤ i ∧ i ≤ hi := by
  cases d with
  | int i =>
    simp only [isFrom, Bool.and_eq_true, decide_eq_true_eq] at h
    exact ⟨i, rfl, h⟩
  | _ => cases h
theorem g31 (hS : ∃ mm, base.Ns sysModules mm) : FnG P w K mg base 5 T.d31.f T.d31.fd ["fraction", "times"] (spF K [] (c31 T.CF T.CN T.CE)) := by
  refine okD T.d31.F sc31 (fun xs b Φ Er h => ?_) (fun cdv A outer s H H1 E xs b Φ Er hr hg tk h => ?_)
  · obtain ⟨d, e, rfl, _⟩ := h
    rfl
  · obtain ⟨d, e, rfl, hd, he, hl, q1, q2, q3⟩ := h
    obtain ⟨tm, hm⟩ := T.times
    refine jb_cons ?_
    ac_rfl
    refine je_call (g18 T hS) (.inl rfl) hg hr tk T.d18.g T.d18.k T.d18.b (by decide) ?_
    ac_rfl
    refine callP ⟨d, rfl, hd, hl, fun h1 => ?_, q1⟩
    obtain ⟨p, rfl, f1⟩ := fr_p h1
    have q2 := q2 h1
    ac_rfl
    refine je_call (g11 T hS) (.inl rfl) hg hr tk T.d11.g T.d11.k T.d11.b (by decide) ?_
    ac_rfl
    refine je_glob (x := .int 60) (v := .int 60) hm ⟨_, rfl⟩ (fun _ => .int _) ?_
    ac_rfl
    refine je_glob (x := .int 60) (v := .int 60) hm ⟨_, rfl⟩ (fun _ => .int _) ?_
    ac_rfl
    refine callP ⟨e, _, _, rfl, he, fun h2 => ?_, fun h2 => q2 h2⟩
    obtain ⟨t, rfl, t1, t2⟩ := from_ex h2
    obtain ⟨z1, z2⟩ := q3 p t rfl rfl f1 t1 t2
    have go : ¬(t < 0 ∧ p.1 = 0) → ∀ D : DK, D.rt = Φ → JB (bodyCx P w K mg base ["fraction", "times"] "fraction_power" (topS 31) T.d31.f cdv A outer s H E) ⟨[], b.map (·.1), H1, Er⟩ [some (.d (fr p)), some (.int t)] b ((defBody (topS 31)).drop 2) D := fun hn D hD => by
      obtain ⟨B, b1, b2, b3, b4, b5, qq⟩ := z2 hn
      refine jb_cons ?_
      ac_rfl
      refine je_call (g26 T) (.inl rfl) hg hr tk T.d26.g T.d26.k T.d26.b (by decide) ?_
      ac_rfl
      refine callP ⟨p, t, B, rfl, f1.pos, f1.co, fun h z => hn ⟨h, z⟩, by omega, b1, b2, b3, b4, b5, ?_⟩
      rw [hD]
      exact qq
    ac_rfl
    refine ⟨fun h => ?_, fun h => ?_⟩
    · have h : t < 0 := of_decide_eq_true h
      ac_rfl
      refine ⟨fun h0 => ?_, fun h0 => ?_⟩
      · exact jb_one (js_err0 rfl T.eE tk (z1 ⟨h, of_decide_eq_true h0⟩))
      · refine jb_nil ?_
        exact go (fun z => of_decide_eq_false h0 z.2) _ rfl
    · have h : ¬ t < 0 := of_decide_eq_false h
      refine ⟨fun z => (by cases z), fun _ => jb_nil (go (fun z => h z.1) _ rfl)⟩
theorem sc32 : FnScope ["one", "two", "near", "far"] ["one", "two"] (defScope (topS 32)) := ⟨rfl, rfl, rfl, by decide +kernel, rfl, by decide +kernel, by decide +kernel⟩
def c32 : Con := fun xs b Φ _ => ∃ p q : Int × Int, xs = [.d (fr p), .d (fr q)] ∧ Sz p ∧ Sz q ∧ Φ (.int (cmpI p q)) b
theorem g32 : FnG P w K mg base 1 T.d32.f T.d32.fd ["one", "two"] (spF K [] c32) := by
  refine okD0 T.d32.F sc32 (fun xs b Φ Er h => ?_) (fun cdv A outer s H H1 E xs b Φ Er hr hg tk h => ?_)
  · obtain ⟨p, q, rfl, _⟩ := h
    rfl
  · obtain ⟨p, q, rfl, hp, hq, qq⟩ := h
    refine jb_cons ?_
    refine js_par 2 3 rfl sc32.nd rfl rfl (by decide) rfl rfl (by rfl) ?_
    ac_rfl
    refine je_mulW ?_
    ac_rfl
    refine ⟨szW hp.1 hq.2, ?_⟩
    ac_rfl
    refine je_mulW ?_
    ac_rfl
    refine ⟨szW hq.1 hp.2, ?_⟩
    ac_rfl
    refine ⟨_, _, rfl, ?_⟩
    refine jb_cons (js_ret (je_subBB ?_))
    ac_rfl
    exact qq
theorem sc33 : FnScope ["fraction", "far_fraction"] ["fraction", "far_fraction"] (defScope (topS 33)) := ⟨rfl, rfl, rfl, by decide +kernel, rfl, by decide +kernel, by decide +kernel⟩
theorem g33 (hS : ∃ mm, base.Ns sysModules mm) : FnG P w K mg base 6 T.d33.f T.d33.fd ["fraction", "far_fraction"] (spF K [] (c27 T.CF fun p q Φ Er b => Φ (.int (cmpI p q)) b)) := by
  refine okD T.d33.F sc33 (fun xs b Φ Er h => ?_) (fun cdv A outer s H H1 E xs b Φ Er hr hg tk h => ?_)
  · obtain ⟨d, e, rfl, _⟩ := h
    rfl
  · obtain ⟨d, e, rfl, hd, he, hl, hl2, q1, q2, q3⟩ := h
    refine jb_cons ?_
    ac_rfl
    refine je_call (g19 T hS) (.inl rfl) hg hr tk T.d19.g T.d19.k T.d19.b (by decide) ?_
    ac_rfl
    refine callP ⟨d, e, rfl, hd, he, hl, hl2, q1, q2, fun h1 h2 => ?_⟩
    obtain ⟨p, rfl, f1⟩ := fr_p h1
    obtain ⟨q, rfl, f2⟩ := fr_p h2
    ac_rfl
    refine je_call (g32 T) (.inl rfl) hg hr tk T.d32.g T.d32.k T.d32.b (by decide) ?_
    ac_rfl
    exact callP ⟨p, q, rfl, f1.sz, f2.sz, q3 p q rfl rfl f1 f2⟩
theorem sc34 : FnScope ["one"] ["one"] (defScope (topS 34)) := ⟨rfl, rfl, rfl, by decide +kernel, rfl, by decide +kernel, by decide +kernel⟩
def c34 : Con := fun xs b Φ _ => ∃ p : Int × Int, xs = [.d (fr p)] ∧ Fra p ∧ Φ (.int (p.1.fdiv p.2)) b
theorem Fra.dv {p : Int × Int} (h : Fra p) : p.2 ≠ 0 ∧ p.2.natAbs.log2 < 9000 := by
  refine ⟨h.ne, Nat.lt_of_lt_of_le ((Nat.log2_lt (n := p.2.natAbs) (fun z => h.ne (Int.natAbs_eq_zero.mp z))).mpr h.sz.2) (by decide)⟩
theorem g34 : FnG P w K mg base 1 T.d34.f T.d34.fd ["one"] (spF K [] c34) := by
  refine okD0 T.d34.F sc34 (fun xs b Φ Er h => ?_) (fun cdv A outer s H H1 E xs b Φ Er hr hg tk h => ?_)
  · obtain ⟨p, rfl, _⟩ := h
    rfl
  · obtain ⟨p, rfl, f, qq⟩ := h
    refine jb_cons (js_ret (je_fdiv ?_))
    ac_rfl
    exact ⟨f.dv, qq⟩
theorem sc35 : FnScope ["fraction"] ["fraction"] (defScope (topS 35)) := ⟨rfl, rfl, rfl, by decide +kernel, rfl, by decide +kernel, by decide +kernel⟩
def c35 (CF : Addr) : Con := fun xs b Φ Er => ∃ d, xs = [.d d] ∧ TellD d ∧ (∀ ds, d = .tuple ds → ds.length < 1000) ∧ (∀ p, d = fr p → Fra p → Φ (.int (p.1.fdiv p.2)) b) ∧ (isFr d = false → Er (.ref CF) (some ("value", d)) b)
theorem g35 (hS : ∃ mm, base.Ns sysModules mm) : FnG P w K mg base 5 T.d35.f T.d35.fd ["fraction"] (spF K [] (c35 T.CF)) := by
  refine okD T.d35.F sc35 (fun xs b Φ Er h => ?_) (fun cdv A outer s H H1 E xs b Φ Er hr hg tk h => ?_)
  · obtain ⟨d, rfl, _⟩ := h
    rfl
  · obtain ⟨d, rfl, hd, hl, q1, q2⟩ := h
    refine jb_cons ?_
    ac_rfl
    refine je_call (g34 T) (.inl rfl) hg hr tk T.d34.g T.d34.k T.d34.b (by decide) ?_
    ac_rfl
    refine je_call (g18 T hS) (.inl rfl) hg hr tk T.d18.g T.d18.k T.d18.b (by decide) ?_
    ac_rfl
    refine callP ⟨d, rfl, hd, hl, fun h1 => ?_, q2⟩
    obtain ⟨p, rfl, f1⟩ := fr_p h1
    ac_rfl
    exact callP ⟨p, rfl, f1, q1 p rfl f1⟩
end
end K01

namespace K01
open PySem PySem.Spec PySem.W PySem.SeqAt PyProof.Rows L2 LamX CR
local macro_rules | `(tactic| ac_rfl) => `(tactic| repeat first
  | refine jb_cons ?_
  | refine jb_nil ?_
  | refine js_ret ?_
  | refine js_if ?_
  | refine js_expr ?_
  | refine ja_cons ?_
  | refine ja_nil ?_
  | refine jk_cons ?_
  | refine jk_nil ?_
  | refine je_int ?_
  | refine je_bl ?_
  | refine je_str ?_
  | refine je_non ?_
  | ((refine je_nm ?_); first
      | refine je_var 0 rfl (.inl rfl) rfl ?_
      | refine je_var 1 rfl (.inl rfl) rfl ?_
      | refine je_var 2 rfl (.inl rfl) rfl ?_
      | refine je_var 3 rfl (.inl rfl) rfl ?_
      | refine je_var 4 rfl (.inl rfl) rfl ?_
      | refine je_var 5 rfl (.inl rfl) rfl ?_
      | refine je_var 6 rfl (.inl rfl) rfl ?_
      | refine je_var 7 rfl (.inl rfl) rfl ?_
      | refine je_var 8 rfl (.inl rfl) rfl ?_
      | refine je_var 0 rfl (.inr (.inl rfl)) rfl ?_
      | refine je_var 1 rfl (.inr (.inl rfl)) rfl ?_
      | refine je_var 2 rfl (.inr (.inl rfl)) rfl ?_
      | refine je_var 3 rfl (.inr (.inl rfl)) rfl ?_
      | refine je_var 4 rfl (.inr (.inl rfl)) rfl ?_
      | refine je_var 5 rfl (.inr (.inl rfl)) rfl ?_
      | refine je_var 6 rfl (.inr (.inl rfl)) rfl ?_
      | refine je_var 0 rfl (.inr (.inr rfl)) rfl ?_
      | refine je_var 1 rfl (.inr (.inr rfl)) rfl ?_
      | refine je_var 2 rfl (.inr (.inr rfl)) rfl ?_
      | refine je_var 3 rfl (.inr (.inr rfl)) rfl ?_
      | refine je_var 4 rfl (.inr (.inr rfl)) rfl ?_
      | refine je_var 5 rfl (.inr (.inr rfl)) rfl ?_
      | refine je_var 6 rfl (.inr (.inr rfl)) rfl ?_)
  | refine je_sub ?_
  | refine je_lt ?_
  | refine je_le ?_
  | refine je_gt ?_
  | refine je_ge ?_
  | refine je_eq ?_
  | refine je_ne ?_
  | refine jt_lt ?_
  | refine jt_le ?_
  | refine jt_gt ?_
  | refine jt_ge ?_
  | refine jt_eq ?_
  | refine jt_ne ?_
  | refine jt_not ?_
  | refine jt_w (jw_and ?_)
  | refine jt_w (jw_or ?_)
  | refine jw_and ?_
  | refine jw_or ?_
  | refine jw_and1 ?_
  | refine jw_or1 ?_
  | refine je_and ?_
  | refine je_or ?_
  | refine je_one ?_
  | refine je_not ?_
  | refine je_neg ?_
  | refine je_tup ?_
  | refine je_lst ?_
  | refine je_ifExp ?_
  | refine je_ixT (i := 0) ?_
  | refine je_ixT (i := 1) ?_
  | refine ⟨_, _, rfl, rfl, ?_⟩
  | refine ⟨[_], rfl, Nat.le_of_ble_eq_true rfl, ?_⟩
  | refine ⟨[_, _], rfl, Nat.le_of_ble_eq_true rfl, ?_⟩
  | refine ⟨_, rfl, ?_⟩)

theorem small64 {i : Int} (h1 : -(2 ^ 62) ≤ i) (h2 : i ≤ 2 ^ 62) : -(2 ^ 64) < i ∧ i < 2 ^ 64 := by omega
def c37 (K : PySem.W.Frag) : Con := fun xs b Φ _ => ∃ (a : Addr) (ns : List Int) (t : Int), xs = [.st (scrStb K a ns), .int t] ∧ ns.length ≤ 1000 ∧ 0 ≤ t ∧ t ≤ 1000 ∧ ∀ m, Φ (.is (.ref m)) (some (m, 0))
def c38 : Con := fun xs b Φ _ => ∃ (m : Addr) (n : Nat) (span : Int), xs = [.is (.ref m), .int span] ∧ b = some (m, n) ∧ n < 2 ^ 40 ∧ 0 < span ∧ span < 2 ^ 60 ∧ ∀ r : Int, 0 ≤ r → r < span → Φ (.int r) (some (m, n + 1))
def c39 : Con := fun xs b Φ _ => ∃ (m : Addr) (n : Nat) (ds : List PyData), xs = [.is (.ref m), .d (.list ds)] ∧ b = some (m, n) ∧ n < 2 ^ 40 ∧ ds ≠ [] ∧ ds.length < 1000 ∧ ∀ d ∈ ds, Φ (.d d) (some (m, n + 1))
def c40 : Con := fun xs b Φ _ => ∃ k d, xs = [.d d, .d d] ∧ Good k d ∧ k ≤ 60 ∧ wt d ≤ 25000 ∧ Φ (.bl true) b
section
variable {P : Program} {w : World} {K : PySem.W.Frag} {mg : Str → Option Value} {base : Heap} (T : Txt P K mg)
theorem sc37 : FnScope ["script", "turn", "cells", "great", "seed", "cell"] ["script", "turn"] (defScope (topS 37)) := ⟨rfl, rfl, rfl, by decide +kernel, rfl, by decide +kernel, by decide +kernel⟩
theorem g37 : FnG P w K mg base 1 T.d37.f T.d37.fd ["script", "turn"] (spF K [] (c37 K)) := by
  refine okD0 T.d37.F sc37 (fun xs b Φ Er h => ?_) (fun cdv A outer s H H1 E xs b Φ Er hr hg tk h => ?_)
  · obtain ⟨a, ns, t, rfl, _⟩ := h
    rfl
  · obtain ⟨a, ns, t, rfl, hn, t0, t1, qq⟩ := h
    have line : 10000 ≤ sizeLine := by decide
    refine jb_cons ?_
    refine js_set 2 sc37.nd rfl (.inl rfl) (je_cat ?_)
    refine je_sliceLo (a := a) (ns := ns) ?_
    refine je_var 0 rfl (.inl rfl) rfl ⟨rfl, ?_⟩
    ac_rfl
    intro c1 l1
    refine ⟨_, rfl, ?_⟩
    refine je_sliceHi (a := a) (ns := ns) ?_
    refine je_var 0 rfl (.inl rfl) rfl ⟨rfl, ?_⟩
    ac_rfl
    intro c2 l2
    refine ⟨_, rfl, by rw [List.length_map, List.length_map]; omega, ?_⟩
    rw [← List.map_append]
    refine jb_cons ?_
    refine js_setLcI 3 (i := 5) rfl sc37.nd rfl rfl (blkOk_by (N := ["script", "turn", "cells", "great", "seed", "cell"]) (sc := defScope (topS 37)) (by decide +kernel)) (fun _ _ _ _ _ => pg_name (i := 5) sc37.nd rfl (Or.inl rfl)) (sw_true rfl rfl rfl (by decide +kernel)) ?_
    refine je_var 0 rfl (.inl rfl) rfl ⟨_, src_scr, by rw [List.length_map, List.length_map]; omega, fun j r b' => b' = b ∧ ∃ gs : List Int, r = gs.map .int ∧ (∀ g ∈ gs, (0 : Int) ≤ g) ∧ gs.length ≤ j, ⟨rfl, [], rfl, (fun _ h => by cases h), Nat.le_refl _⟩, ?_, ?_⟩
    · rintro j y r b' hy ⟨rfl, gs, rfl, hgs, hlj⟩ s0 H0 C cl fp
      obtain ⟨z, rfl⟩ : ∃ z : Int, y = .int z := by
        rw [List.getElem?_map, List.getElem?_map] at hy
        cases e : ns[j]? with
        | none => rw [e] at hy; cases hy
        | some z => rw [e] at hy; exact ⟨z, (Option.some.inj hy).symm⟩
      refine jt_ge ?_
      refine je_var 5 rfl (.inl rfl) rfl ?_
      refine ⟨_, rfl, je_pow ?_⟩
      ac_rfl
      refine ⟨⟨by decide, by decide, by decide⟩, _, rfl, fun _ => ⟨rfl, gs, rfl, hgs, by omega⟩, fun hz s0 H0 C cl fp => ?_⟩
      have hz := of_decide_eq_true hz
      refine je_var 5 rfl (.inl rfl) rfl ⟨_, rfl, rfl, gs ++ [z], by simp, fun g hm => ?_, by simp; omega⟩
      rcases List.mem_append.mp hm with h | h
      · exact hgs g h
      · rw [List.mem_singleton.mp h]
        exact Int.le_trans (by decide) hz
    · rintro r b' ⟨rfl, gs, rfl, hgs, hlj⟩
      refine jb_cons ?_
      refine js_set 4 sc37.nd rfl (.inl rfl) (je_add ?_)
      ac_rfl
      refine js_forL 5 .never rfl sc37.nd rfl (.inl rfl) ?_
      refine je_var 2 rfl (.inl rfl) rfl ?_
      refine ⟨_, rfl, fun i ρ b2 => b2 = b' ∧ ∃ (sd : Int) (y : Option Sl), 0 ≤ sd ∧ sd < 2 ^ 31 ∧ ρ = [some (.st (scrStb K a ns)), some (.int t), some (.d (.list ((c1 ++ c2).map .int))), some (.d (.list (gs.map .int))), some (.int sd), y], ⟨rfl, 91 + t, none, by omega, by omega, rfl⟩, ?_, ?_⟩
      · rintro i d ρ b2 hd ⟨rfl, sd, y, s0, s1, rfl⟩
        obtain ⟨z, rfl⟩ : ∃ z : Int, d = .int z := by
          rw [List.getElem?_map] at hd
          cases e : (c1 ++ c2)[i]? with
          | none => rw [e] at hd; cases hd
          | some z => rw [e] at hd; exact ⟨z, (Option.some.inj hd).symm⟩
        refine jb_one (js_set 4 sc37.nd rfl (.inl rfl) (je_mod ?_))
        refine je_intOf T.bint (je_add (je_mul ?_))
        ac_rfl
        refine ⟨.inl (small64 (by omega) (by omega)), ?_⟩
        ac_rfl
        refine ⟨by decide, rfl, _, _, Int.emod_nonneg _ (by decide), Int.lt_of_lt_of_le (Int.emod_lt_of_pos _ (by decide)) (by decide), rfl⟩
      · rintro ρ b2 ⟨rfl, sd, y, s0, s1, rfl⟩
        have lst : (c1 ++ c2).length ≤ 2000 := by
          rw [List.length_append]
          omega
        refine jb_cons (js_ret (je_disp ?_))
        refine je_ifExp (jt_lt ?_)
        refine je_var 1 rfl (.inl rfl) rfl ⟨_, rfl, je_len T.blen ?_⟩
        refine je_var 3 rfl (.inl rfl) rfl ⟨_, _, rfl, rfl, _, rfl, ?_⟩
        refine ⟨fun hk => ?_, fun hk => ?_⟩
        · have hk := of_decide_eq_true hk
          refine je_ixL ?_ (fun _ _ => rfl)
          refine je_var 3 rfl (.inl rfl) rfl ⟨_, rfl, ?_⟩
          refine je_var 1 rfl (.inl rfl) rfl ?_
          have ht : t.toNat < gs.length := by
            rw [List.length_map] at hk
            omega
          refine ⟨t, .int gs[t.toNat], rfl, t0, by rw [List.getElem?_map, List.getElem?_eq_getElem ht]; rfl, gs[t.toNat], hgs _ (List.getElem_mem ht), rfl, ?_⟩
          refine je_var 4 rfl (.inl rfl) rfl ⟨sd, s0, s1, rfl, je_cat ?_⟩
          refine je_var 2 rfl (.inl rfl) rfl ⟨_, rfl, ?_⟩
          ac_rfl
          refine je_add (je_mul ?_)
          ac_rfl
          refine ⟨.inl (by decide), ?_⟩
          ac_rfl
          refine ⟨by rw [List.length_map]; show _ + 1 ≤ _; omega, (c1 ++ c2) ++ [61 * t + 17], by simp, (by rw [List.map_append (l₁ := c1 ++ c2)] <;> rfl), ?_⟩
          ac_rfl
          exact ⟨rfl, qq⟩
        · ac_rfl
          refine ⟨0, by decide, rfl, ?_⟩
          refine je_var 4 rfl (.inl rfl) rfl ⟨sd, s0, s1, rfl, je_cat ?_⟩
          refine je_var 2 rfl (.inl rfl) rfl ⟨_, rfl, ?_⟩
          ac_rfl
          refine je_add (je_mul ?_)
          ac_rfl
          refine ⟨.inl (by decide), ?_⟩
          ac_rfl
          refine ⟨by rw [List.length_map]; show _ + 1 ≤ _; omega, (c1 ++ c2) ++ [61 * t + 17], by simp, (by rw [List.map_append (l₁ := c1 ++ c2)] <;> rfl), ?_⟩
          ac_rfl
          exact ⟨rfl, qq⟩
theorem sc38 : FnScope ["m", "span", "found", "spot", "cells", "extra", "cell", "blend"] ["m", "span"] (defScope (topS 38)) := ⟨rfl, rfl, rfl, by decide +kernel, rfl, by decide +kernel, by decide +kernel⟩
theorem log_of {j : Int} {n : Nat} (h0 : j ≠ 0) (h : j.natAbs < 2 ^ n) : j.natAbs.log2 < n := (Nat.log2_lt (fun z => h0 (Int.natAbs_eq_zero.mp z))).mpr h
theorem g38 : FnG P w K mg base 1 T.d38.f T.d38.fd ["m", "span"] (spF K [] c38) := by
  refine okD0 T.d38.F sc38 (fun xs b Φ Er h => ?_) (fun cdv A outer s H H1 E xs b Φ Er hr hg tk h => ?_)
  · obtain ⟨m, n, span, rfl, _⟩ := h
    rfl
  · obtain ⟨m, n, span, rfl, rfl, hn, s0, s1, qq⟩ := h
    have hu := hu_of hr
    have sp2 : span.natAbs < 2 ^ 60 := by omega
    refine jb_cons ?_
    ac_rfl
    refine je_left hu ?_ (fun _ _ => rfl)
    refine je_var 0 rfl (.inl rfl) rfl ⟨m, n, rfl, rfl, fun L hL => ?_⟩
    ac_rfl
    refine ⟨fun h => ?_, fun h => ?_⟩
    · have h : 0 < L := of_decide_eq_true h
      refine jb_cons ?_
      refine js_set 2 sc38.nd rfl (.inl rfl) (je_mod (je_intOf T.bint ?_))
      refine je_left hu ?_ (fun _ _ => rfl)
      refine je_var 0 rfl (.inl rfl) rfl ⟨m, n, rfl, rfl, fun L1 hL1 => ?_⟩
      ac_rfl
      refine ⟨s0, ?_⟩
      ac_rfl
      refine js_putLeft hu (je_fdiv ?_)
      refine je_left hu ?_ (fun _ _ => rfl)
      refine je_var 0 rfl (.inl rfl) rfl ⟨m, n, rfl, rfl, fun L2 hL2 => ?_⟩
      ac_rfl
      refine ⟨⟨by omega, Nat.lt_of_lt_of_le (log_of (by omega) sp2) (by decide)⟩, L2.fdiv span, ?_, rfl, ?_⟩
      · rw [Int.fdiv_eq_ediv_of_nonneg _ (Int.le_of_lt s0)]
        exact Int.ediv_nonneg hL2 (Int.le_of_lt s0)
      refine je_var 0 rfl (.inl rfl) rfl ⟨m, n, n + 1, rfl, rfl, Nat.le_succ n, ?_⟩
      ac_rfl
      exact qq _ (Int.emod_nonneg _ (by omega)) (Int.emod_lt_of_pos _ s0)
    · ac_rfl
      refine js_set 3 sc38.nd rfl (.inl rfl) ?_
      refine je_spot hu ?_ (fun _ _ => rfl)
      refine je_var 0 rfl (.inl rfl) rfl ⟨m, n, rfl, rfl, fun p p0 p1 => ?_⟩
      have p2 : p < 2 ^ 41 := by omega
      ac_rfl
      refine js_putSpot hu (je_add ?_)
      ac_rfl
      refine ⟨p + 1, by omega, rfl, ?_⟩
      refine je_var 0 rfl (.inl rfl) rfl ⟨m, n, n + 1, rfl, rfl, by omega, ?_⟩
      ac_rfl
      refine js_par 4 5 rfl sc38.nd rfl rfl (by decide) rfl rfl (by rfl) ?_
      refine ja_cons (je_cells hu ?_ (fun _ _ => rfl))
      refine je_var 0 rfl (.inl rfl) rfl ⟨m, n + 1, rfl, rfl, fun cc cs hcs => ?_⟩
      refine ja_cons (je_add ?_)
      refine je_seed hu ?_ (fun _ _ => rfl)
      refine je_var 0 rfl (.inl rfl) rfl ⟨m, n + 1, rfl, rfl, fun S S0 S1 => ?_⟩
      refine ⟨_, rfl, je_mul ?_⟩
      refine je_mul ?_
      ac_rfl
      refine ⟨.inl (by decide), ?_⟩
      ac_rfl
      refine ⟨.inr (small64 (by omega) (by omega)), ?_⟩
      ac_rfl
      refine ⟨_, _, rfl, ?_⟩
      ac_rfl
      refine js_set 6 sc38.nd rfl (.inl rfl) (je_ixS (a := cc) (ns := cs) ?_ (fun _ _ => rfl))
      refine je_var 4 rfl (.inl rfl) rfl ⟨cc, cs, rfl, je_mod (je_intOf T.bint ?_)⟩
      ac_rfl
      refine je_lenS (a := cc) (ns := cs) T.blen ?_
      have hl : 0 < cs.length := List.length_pos_iff.mpr hcs
      refine je_var 4 rfl (.inl rfl) rfl ⟨rfl, _, rfl, by omega, _, rfl, Int.emod_nonneg _ (by omega), Int.emod_lt_of_pos _ (by omega), fun cell => ?_⟩
      ac_rfl
      refine js_set 7 sc38.nd rfl (.inl rfl) (je_mod (je_intOf T.bint (je_add (je_mul ?_))))
      ac_rfl
      refine je_add (je_mul ?_)
      ac_rfl
      refine ⟨.inl (by decide), ?_⟩
      ac_rfl
      refine ⟨.inr (small64 (by omega) (by omega)), ?_⟩
      ac_rfl
      refine ⟨by decide, ?_⟩
      ac_rfl
      generalize hb1 : (cell * (2 * p + 3) + (S + 40503 * p * p)) % 2147483647 = b1
      have b10 : 0 ≤ b1 := by rw [← hb1]; exact Int.emod_nonneg _ (by decide)
      have b11 : b1 < 2147483647 := by rw [← hb1]; exact Int.emod_lt_of_pos _ (by decide)
      refine js_set 7 sc38.nd rfl (.inl rfl) (je_mod (je_intOf T.bint (je_add (je_add (je_mul ?_)))))
      ac_rfl
      refine ⟨.inl (small64 (by omega) (by omega)), ?_⟩
      refine ⟨_, rfl, je_mul ?_⟩
      ac_rfl
      refine ⟨.inl (by decide), ?_⟩
      ac_rfl
      refine je_seed hu ?_ (fun _ _ => rfl)
      refine je_var 0 rfl (.inl rfl) rfl ⟨m, n + 1, rfl, rfl, fun S' S0' S1' => ?_⟩
      ac_rfl
      refine ⟨by decide, ?_⟩
      generalize hb2 : (b1 * b1 + 69621 * p + S') % 2147483629 = b2
      have b20 : 0 ≤ b2 := by rw [← hb2]; exact Int.emod_nonneg _ (by decide)
      have b21 : b2 < 2147483629 := by rw [← hb2]; exact Int.emod_lt_of_pos _ (by decide)
      refine jb_cons (js_ret (je_mod (je_fdiv (je_mod (je_intOf T.bint (je_add (je_mul ?_)))))))
      ac_rfl
      refine ⟨.inl (small64 (by omega) (by omega)), ?_⟩
      ac_rfl
      refine ⟨by decide, ?_⟩
      ac_rfl
      refine ⟨⟨by decide, by decide⟩, ?_⟩
      ac_rfl
      exact ⟨s0, qq _ (Int.emod_nonneg _ (by omega)) (Int.emod_lt_of_pos _ s0)⟩
theorem sc39 : FnScope ["m", "some"] ["m", "some"] (defScope (topS 39)) := ⟨rfl, rfl, rfl, by decide +kernel, rfl, by decide +kernel, by decide +kernel⟩
theorem g39 : FnG P w K mg base 2 T.d39.f T.d39.fd ["m", "some"] (spF K [] c39) := by
  refine okD0 T.d39.F sc39 (fun xs b Φ Er h => ?_) (fun cdv A outer s H H1 E xs b Φ Er hr hg tk h => ?_)
  · obtain ⟨m, n, ds, rfl, _⟩ := h
    rfl
  · obtain ⟨m, n, ds, rfl, rfl, hn, hds, hl, qq⟩ := h
    have h0 : 0 < ds.length := List.length_pos_iff.mpr hds
    refine jb_cons (js_ret (je_ixL ?_ (fun _ _ => rfl)))
    ac_rfl
    refine je_call (g38 T) (.inl rfl) hg hr tk T.d38.g T.d38.k T.d38.b (by decide) ?_
    ac_rfl
    refine je_len T.blen ?_
    ac_rfl
    refine callM ⟨m, n, _, rfl, rfl, hn, by omega, by omega, fun r r0 r1 => ?_⟩
    have hr : r.toNat < ds.length := by omega
    exact ⟨r, ds[r.toNat], rfl, r0, List.getElem?_eq_getElem hr, qq _ (List.getElem_mem hr)⟩
theorem je_eqStr {X : Cx} {w : Wd} {ρ : Rho} {b : Bd} {e1 e2 : Expr} {pos : Pos} {Φ : Sl → Bd → Prop} (h : JE X w ρ b e1 fun x b1 => ∃ s, x = .d (.str s) ∧ JE X w ρ b1 e2 fun y b2 => y = .d (.str s) ∧ Φ (.bl true) b2) : JE X w ρ b (.Compare e1 [.Eq] [e2] pos) Φ :=
  je_cmp op_eq (nomark _) (h.mono fun x b1 ⟨s, ex, q⟩ => q.mono fun y b2 ⟨ey, q⟩ v u H Q o r1 r2 c => by
    subst ex
    subst ey
    cases r1
    cases r2
    exact ⟨rfl, by rw [decide_eq_true rfl]; exact c _ (.bl true) b2 H (Ex2.refl H) o (.bl _) q⟩)
theorem sc40 : FnScope ["told", "due"] ["told", "due"] (defScope (topS 40)) := ⟨rfl, rfl, rfl, by decide +kernel, rfl, by decide +kernel, by decide +kernel⟩
theorem g40 (hS : ∃ mm, base.Ns sysModules mm) : FnG P w K mg base 1 T.d40.f T.d40.fd ["told", "due"] (spF K [] c40) := by
  refine okD0 T.d40.F sc40 (fun xs b Φ Er h => ?_) (fun cdv A outer s H H1 E xs b Φ Er hr hg tk h => ?_)
  · obtain ⟨k, d, rfl, _⟩ := h
    rfl
  · obtain ⟨k, d, rfl, gd, hk, hw, qq⟩ := h
    have hu : (bodyCx P w K mg base ["told", "due"] "_law_like" (topS 40) T.d40.f cdv A outer s H E).nox.A.units + 70 < cLine := by
      have := hr.un
      omega
    refine jb_cons (js_ret (je_and (je_same (by omega) ?_)))
    ac_rfl
    refine ⟨k, d, gd, hk, rfl, rfl, true, rfl, fun _ => je_one (je_eqStr (je_repr hS hg hu T.brep ?_)), fun z => by cases z⟩
    ac_rfl
    refine ⟨k, d, rfl, gd, hk, hw, d.shown, rfl, je_repr hS hg hu T.brep ?_⟩
    ac_rfl
    exact ⟨k, d, rfl, gd, hk, hw, rfl, qq⟩
end
end K01

namespace K01
open PySem PySem.Spec PySem.W PySem.SeqAt PyProof.Rows L2 LamX CR
local macro_rules | `(tactic| ac_rfl) => `(tactic| repeat first
  | refine jb_cons ?_
  | refine jb_nil ?_
  | refine js_ret ?_
  | refine js_if ?_
  | refine js_expr ?_
  | refine ja_cons ?_
  | refine ja_nil ?_
  | refine jk_cons ?_
  | refine jk_nil ?_
  | refine je_int ?_
  | refine je_bl ?_
  | refine je_str ?_
  | refine je_non ?_
  | ((refine je_nm ?_); first
      | refine je_var 0 rfl (.inl rfl) rfl ?_
      | refine je_var 1 rfl (.inl rfl) rfl ?_
      | refine je_var 2 rfl (.inl rfl) rfl ?_
      | refine je_var 3 rfl (.inl rfl) rfl ?_
      | refine je_var 4 rfl (.inl rfl) rfl ?_
      | refine je_var 5 rfl (.inl rfl) rfl ?_
      | refine je_var 6 rfl (.inl rfl) rfl ?_
      | refine je_var 7 rfl (.inl rfl) rfl ?_
      | refine je_var 8 rfl (.inl rfl) rfl ?_
      | refine je_var 0 rfl (.inr (.inl rfl)) rfl ?_
      | refine je_var 1 rfl (.inr (.inl rfl)) rfl ?_
      | refine je_var 2 rfl (.inr (.inl rfl)) rfl ?_
      | refine je_var 3 rfl (.inr (.inl rfl)) rfl ?_
      | refine je_var 4 rfl (.inr (.inl rfl)) rfl ?_
      | refine je_var 5 rfl (.inr (.inl rfl)) rfl ?_
      | refine je_var 6 rfl (.inr (.inl rfl)) rfl ?_
      | refine je_var 0 rfl (.inr (.inr rfl)) rfl ?_
      | refine je_var 1 rfl (.inr (.inr rfl)) rfl ?_
      | refine je_var 2 rfl (.inr (.inr rfl)) rfl ?_
      | refine je_var 3 rfl (.inr (.inr rfl)) rfl ?_
      | refine je_var 4 rfl (.inr (.inr rfl)) rfl ?_
      | refine je_var 5 rfl (.inr (.inr rfl)) rfl ?_
      | refine je_var 6 rfl (.inr (.inr rfl)) rfl ?_)
  | refine je_sub ?_
  | refine je_lt ?_
  | refine je_le ?_
  | refine je_gt ?_
  | refine je_ge ?_
  | refine je_eq ?_
  | refine je_ne ?_
  | refine jt_lt ?_
  | refine jt_le ?_
  | refine jt_gt ?_
  | refine jt_ge ?_
  | refine jt_eq ?_
  | refine jt_ne ?_
  | refine jt_not ?_
  | refine jt_w (jw_and ?_)
  | refine jt_w (jw_or ?_)
  | refine jw_and ?_
  | refine jw_or ?_
  | refine jw_and1 ?_
  | refine jw_or1 ?_
  | refine je_and ?_
  | refine je_or ?_
  | refine je_one ?_
  | refine je_not ?_
  | refine je_neg ?_
  | refine je_tup ?_
  | refine je_lst ?_
  | refine je_ifExp ?_
  | refine je_ixT (i := 0) ?_
  | refine je_ixT (i := 1) ?_
  | refine ⟨_, _, rfl, rfl, ?_⟩
  | refine ⟨[_], rfl, Nat.le_of_ble_eq_true rfl, ?_⟩
  | refine ⟨[_, _], rfl, Nat.le_of_ble_eq_true rfl, ?_⟩
  | refine ⟨_, rfl, ?_⟩)

def c41 : Con := fun xs b Φ _ => ∃ i j : Int, xs = [.int i, .int j] ∧ i.natAbs < 2 ^ 4000 ∧ j.natAbs < 2 ^ 4000 ∧ Φ (.int (Int.gcd i j)) b
def c43 : Con := fun xs b Φ _ => ∃ t u : Int, xs = [.int t, .int u] ∧ u ≠ 0 ∧ t.natAbs < 2 ^ 4000 ∧ u.natAbs < 2 ^ 4000 ∧ Φ (.d (fr (cut t u))) b
def c44 : Con := fun xs b Φ _ => ∃ (m : Addr) (n : Nat), xs = [.is (.ref m)] ∧ b = some (m, n) ∧ n < 2 ^ 39 ∧ ∀ p n', n' ≤ n + 4 → Fra p → Φ (.d (fr p)) (some (m, n'))
def c45 : Con := fun xs b Φ _ => ∃ x k : Int, xs = [.int x, .int k] ∧ 0 ≤ k ∧ k ≤ 4 ∧ x.natAbs ≤ 10 ^ 40 ∧ Φ (.int (x ^ k.toNat)) b
/-! ### Euclid's steps are few -/
/-- at step i -/
def Eu (i x y : Nat) : Prop := (i = 0 ∧ x < 2 ^ 4000 ∧ y < 2 ^ 4000) ∨ (1 ≤ i ∧ y < x ∧ x * y < 2 ^ (8001 - i))
theorem eu_step {i x y : Nat} (h : Eu i x y) (hy : y ≠ 0) : Eu (i + 1) y (x % y) := by
  have h0 : x % y < y := Nat.mod_lt _ (by omega)
  rcases h with ⟨rfl, h1, h2⟩ | ⟨h1, h2, h3⟩
  · refine .inr ⟨Nat.le_refl 1, h0, ?_⟩
    have h4 : y * (x % y) < 2 ^ 4000 * 2 ^ 4000 := Nat.mul_lt_mul'' h2 (Nat.lt_trans h0 h2)
    rw [← Nat.pow_add] at h4
    exact h4
  · refine .inr ⟨by omega, h0, ?_⟩
    have h5 : 2 * (x % y) ≤ x := by
      have e := Nat.div_add_mod x y
      have d : 1 ≤ x / y := Nat.div_pos (by omega) (by omega)
      have m : y * 1 ≤ y * (x / y) := Nat.mul_le_mul_left y d
      omega
    have h6 : 2 * (y * (x % y)) ≤ x * y := by
      have := Nat.mul_le_mul_left y h5
      rw [Nat.mul_comm x y]
      rw [show 2 * (y * (x % y)) = y * (2 * (x % y)) by rw [Nat.mul_left_comm]]
      exact this
    by_cases hi : i ≤ 8000
    · have e : 8001 - i = (8001 - (i + 1)) + 1 := by omega
      rw [e, Nat.pow_succ] at h3
      omega
    · have e : 8001 - i = 0 := by omega
      rw [e] at h3
      have : x * y = 0 := by
        have : x * y < 1 := h3
        omega
      have : 0 < x * y := Nat.mul_pos (by omega) (by omega)
      omega
theorem eu_end {x y : Nat} (h : Eu 10000 x y) : y = 0 := by
  rcases h with ⟨h, _⟩ | ⟨_, h2, h3⟩
  · cases h
  · have h4 : x * y < 1 := h3
    rcases Nat.eq_zero_or_pos y with z | z
    · exact z
    · have : 0 < x * y := Nat.mul_pos (by omega) z
      omega
section
variable {P : Program} {w : World} {K : PySem.W.Frag} {mg : Str → Option Value} {base : Heap} (T : Txt P K mg)
theorem sc41 : FnScope ["near_so", "far_so", "again"] ["near_so", "far_so"] (defScope (topS 41)) := ⟨rfl, rfl, rfl, by decide +kernel, rfl, by decide +kernel, by decide +kernel⟩
theorem g41 : FnG P w K mg base 1 T.d41.f T.d41.fd ["near_so", "far_so"] (spF K [] c41) := by
  refine okD0 T.d41.F sc41 (fun xs b Φ Er h => ?_) (fun cdv A outer s H H1 E xs b Φ Er hr hg tk h => ?_)
  · obtain ⟨i, j, rfl, _⟩ := h
    rfl
  · obtain ⟨i, j, rfl, hi, hj, qq⟩ := h
    refine jb_cons ?_
    refine js_par 0 1 rfl sc41.nd rfl rfl (by decide) rfl rfl (by rfl) ?_
    ac_rfl
    refine je_abs T.babs ?_
    ac_rfl
    refine je_abs T.babs ?_
    ac_rfl
    refine ⟨_, _, rfl, ?_⟩
    refine jb_cons ?_
    refine js_forR 2 .never rfl T.brng sc41.nd rfl (.inl rfl) ?_
    ac_rfl
    refine ⟨by decide, by decide, fun k ρ b' => ∃ (x y : Nat) (z : Option Sl), ρ = [some (.int x), some (.int y), z] ∧ b' = b ∧ Nat.gcd x y = Int.gcd i j ∧ Eu k x y, ⟨i.natAbs, j.natAbs, none, rfl, rfl, rfl, .inl ⟨rfl, hi, hj⟩⟩, ?_, ?_⟩
    · rintro k ρ b' hk ⟨x, y, z, rfl, rfl, hgc, he⟩
      refine jb_cons ?_
      ac_rfl
      refine ⟨fun hy => ?_, fun hy => ?_⟩
      · have hy : y = 0 := by simpa using hy
        subst hy
        refine jb_one (js_break ?_)
        ac_rfl
        rw [Nat.gcd_zero_right] at hgc
        rw [hgc]
        exact qq
      · have hy : y ≠ 0 := by simpa using hy
        ac_rfl
        refine js_par 0 1 rfl sc41.nd rfl rfl (by decide) rfl rfl (by rfl) ?_
        ac_rfl
        refine je_mod ?_
        ac_rfl
        refine ⟨by omega, ?_⟩
        ac_rfl
        refine ⟨_, _, rfl, ?_⟩
        ac_rfl
        refine ⟨y, x % y, _, rfl, rfl, ?_, eu_step he hy⟩
        rw [← hgc, Nat.gcd_comm y, ← Nat.gcd_rec, Nat.gcd_comm]
    · rintro ρ b' ⟨x, y, z, rfl, rfl, hgc, he⟩
      have hy : y = 0 := eu_end he
      subst hy
      ac_rfl
      rw [Nat.gcd_zero_right] at hgc
      rw [hgc]
      exact qq
theorem sc43 : FnScope ["top", "bottom", "by"] ["top", "bottom"] (defScope (topS 43)) := ⟨rfl, rfl, rfl, by decide +kernel, rfl, by decide +kernel, by decide +kernel⟩
theorem g43 : FnG P w K mg base 2 T.d43.f T.d43.fd ["top", "bottom"] (spF K [] c43) := by
  refine okD0 T.d43.F sc43 (fun xs b Φ Er h => ?_) (fun cdv A outer s H H1 E xs b Φ Er hr hg tk h => ?_)
  · obtain ⟨t, u, rfl, _⟩ := h
    rfl
  · obtain ⟨t, u, rfl, h0, ht, hu, q⟩ := h
    have dv := cut_div (t := t) h0 (Nat.lt_of_lt_of_le hu (Nat.pow_le_pow_right (by decide) (by decide)))
    refine jb_cons ?_
    refine js_set 2 sc43.nd rfl (.inl rfl) ?_
    refine je_call (g41 T) (.inl rfl) hg hr tk T.d41.g T.d41.k T.d41.b (by decide) ?_
    ac_rfl
    refine callP ⟨t, u, rfl, ht, hu, ?_⟩
    ac_rfl
    refine js_set 2 sc43.nd rfl (.inl rfl) ?_
    ac_rfl
    refine ⟨fun h => ?_, fun h => ?_⟩
    · have h : 0 < u := of_decide_eq_true h
      rw [if_pos h] at dv
      ac_rfl
      refine je_fdiv ?_
      ac_rfl
      refine ⟨dv, ?_⟩
      ac_rfl
      refine je_fdiv ?_
      ac_rfl
      refine ⟨dv, ?_⟩
      ac_rfl
      have e : cut t u = (t.fdiv (Int.gcd t u : Int), u.fdiv (Int.gcd t u : Int)) := by
        unfold cut
        rw [if_pos h]
      rw [e] at q
      exact q
    · have h : ¬ 0 < u := of_decide_eq_false h
      rw [if_neg h, Int.zero_sub] at dv
      ac_rfl
      refine je_fdiv ?_
      ac_rfl
      refine ⟨dv, ?_⟩
      ac_rfl
      refine je_fdiv ?_
      ac_rfl
      refine ⟨dv, ?_⟩
      ac_rfl
      have e : cut t u = (t.fdiv (-(Int.gcd t u : Int)), u.fdiv (-(Int.gcd t u : Int))) := by
        unfold cut
        rw [if_neg h, Int.zero_sub]
      rw [e] at q
      exact q
theorem sc45 : FnScope ["base", "often", "whole", "again"] ["base", "often"] (defScope (topS 45)) := ⟨rfl, rfl, rfl, by decide +kernel, rfl, by decide +kernel, by decide +kernel⟩
theorem g45 : FnG P w K mg base 1 T.d45.f T.d45.fd ["base", "often"] (spF K [] c45) := by
  refine okD0 T.d45.F sc45 (fun xs b Φ Er h => ?_) (fun cdv A outer s H H1 E xs b Φ Er hr hg tk h => ?_)
  · obtain ⟨x, k, rfl, _⟩ := h
    rfl
  · obtain ⟨x, k, rfl, k0, k4, hx, qq⟩ := h
    refine jb_cons ?_
    refine js_set 2 sc45.nd rfl (.inl rfl) ?_
    ac_rfl
    refine js_forR 3 .never rfl T.brng sc45.nd rfl (.inl rfl) ?_
    ac_rfl
    refine ⟨by omega, by omega, fun i ρ b' => ∃ z : Option Sl, ρ = [some (.int x), some (.int k), some (.int (x ^ i)), z] ∧ b' = b, ⟨none, by rw [Int.pow_zero]; rfl, rfl⟩, ?_, ?_⟩
    · rintro i ρ b' hi ⟨z, rfl, rfl⟩
      refine jb_one (js_set 2 sc45.nd rfl (.inl rfl) (je_mulW ?_))
      ac_rfl
      refine ⟨szW ?_ (Nat.lt_of_le_of_lt hx tenB), _, (by rw [Int.pow_succ]; rfl), rfl⟩
      rw [Int.natAbs_pow]
      refine Nat.lt_of_le_of_lt (Nat.pow_le_pow_left hx i) ?_
      refine Nat.lt_of_le_of_lt (Nat.pow_le_pow_right (by decide) (show i ≤ 4 by omega)) ?_
      exact Nat.lt_of_lt_of_le (by decide : (10 ^ 40) ^ 4 < 2 ^ 600) (Nat.pow_le_pow_right (by decide) (by decide))
    · rintro ρ b' ⟨z, rfl, rfl⟩
      ac_rfl
      exact qq
/-- what _law_cut gives, of two whole numbers, is in lowest terms -/
theorem cut_fra {t u : Int} (hu : 0 < u) (h1 : t.natAbs ≤ 10 ^ 40) (h2 : u.natAbs ≤ 10 ^ 40) : Fra (cut t u) := by
  have g0 : Int.gcd t u ≠ 0 := fun z => by
    have := (Int.gcd_eq_zero_iff.mp z).2
    omega
  obtain ⟨a, ha⟩ := Int.gcd_dvd_left t u
  obtain ⟨c, hc⟩ := Int.gcd_dvd_right t u
  have gi : (Int.gcd t u : Int) ≠ 0 := by omega
  have e : cut t u = (a, c) := by
    unfold cut
    rw [if_pos hu]
    show (t.fdiv (Int.gcd t u : Int), u.fdiv (Int.gcd t u : Int)) = (a, c)
    have e1 : t.fdiv (Int.gcd t u : Int) = a := by
      have z := Int.mul_fdiv_cancel a gi
      rw [Int.mul_comm, ← ha] at z
      exact z
    have e2 : u.fdiv (Int.gcd t u : Int) = c := by
      have z := Int.mul_fdiv_cancel c gi
      rw [Int.mul_comm, ← hc] at z
      exact z
    rw [e1, e2]
  rw [e]
  have n1 : t.natAbs = Int.gcd t u * a.natAbs := by
    have := congrArg Int.natAbs ha
    rw [Int.natAbs_mul] at this
    exact this
  have n2 : u.natAbs = Int.gcd t u * c.natAbs := by
    have := congrArg Int.natAbs hc
    rw [Int.natAbs_mul] at this
    exact this
  have g1 : 1 ≤ Int.gcd t u := by omega
  refine ⟨?_, ?_, ?_, ?_⟩
  · show 0 < c
    rcases Int.lt_trichotomy 0 c with z | z | z
    · exact z
    · rw [← z, Int.mul_zero] at hc
      omega
    · have := Int.mul_neg_of_pos_of_neg (show (0 : Int) < (Int.gcd t u : Int) by omega) z
      omega
  · show Nat.gcd a.natAbs c.natAbs = 1
    have z : Int.gcd t u = Int.gcd t u * Nat.gcd a.natAbs c.natAbs := by
      have : Int.gcd t u = Nat.gcd t.natAbs u.natAbs := rfl
      rw [← Nat.gcd_mul_left, ← n1, ← n2]
      exact this
    have z2 : Int.gcd t u * 1 = Int.gcd t u * Nat.gcd a.natAbs c.natAbs := by
      rw [Nat.mul_one]
      exact z
    exact (Nat.eq_of_mul_eq_mul_left g1 z2).symm
  · exact Nat.le_trans (by rw [n1]; exact Nat.le_mul_of_pos_left _ g1) h1
  · exact Nat.le_trans (by rw [n2]; exact Nat.le_mul_of_pos_left _ g1) h2
theorem fra_by {x y : Int} (h1 : decide (0 < y) = true) (h2 : decide (Nat.gcd x.natAbs y.natAbs = 1) = true) (h3 : decide (x.natAbs ≤ 10 ^ 40) = true) (h4 : decide (y.natAbs ≤ 10 ^ 40) = true) : Fra (x, y) := ⟨of_decide_eq_true h1, of_decide_eq_true h2, of_decide_eq_true h3, of_decide_eq_true h4⟩
theorem sc44 : FnScope ["m", "way", "high"] ["m"] (defScope (topS 44)) := ⟨rfl, rfl, rfl, by decide +kernel, rfl, by decide +kernel, by decide +kernel⟩
theorem g44 : FnG P w K mg base 3 T.d44.f T.d44.fd ["m"] (spF K [] c44) := by
  refine okD0 T.d44.F sc44 (fun xs b Φ Er h => ?_) (fun cdv A outer s H H1 E xs b Φ Er hr hg tk h => ?_)
  · obtain ⟨m, n, rfl, _⟩ := h
    rfl
  · obtain ⟨m, n, rfl, rfl, hn, qq⟩ := h
    refine jb_cons ?_
    refine js_set 1 sc44.nd rfl (.inl rfl) ?_
    refine je_call (g38 T) (.inl rfl) hg hr tk T.d38.g T.d38.k T.d38.b (by decide) ?_
    ac_rfl
    refine callM ⟨m, n, _, rfl, rfl, by omega, by decide, by decide, fun way w0 w1 => ?_⟩
    ac_rfl
    refine ⟨fun _ => ?_, fun _ => ?_⟩
    · ac_rfl
      refine je_call (g39 T) (.inl rfl) hg hr tk T.d39.g T.d39.k T.d39.b (by decide) ?_
      ac_rfl
      refine je_pow ?_
      ac_rfl
      refine ⟨⟨by decide, by decide, by decide⟩, ?_⟩
      ac_rfl
      refine je_pow ?_
      ac_rfl
      refine ⟨⟨by decide, by decide, by decide⟩, ?_⟩
      ac_rfl
      refine je_pow ?_
      ac_rfl
      refine ⟨⟨by decide, by decide, by decide⟩, ?_⟩
      ac_rfl
      refine je_pow ?_
      ac_rfl
      refine ⟨⟨by decide, by decide, by decide⟩, ?_⟩
      ac_rfl
      refine je_pow ?_
      ac_rfl
      refine ⟨⟨by decide, by decide, by decide⟩, ?_⟩
      ac_rfl
      refine ⟨[_, _, _, _, _, _, _, _], rfl, Nat.le_of_ble_eq_true rfl, ?_⟩
      ac_rfl
      refine callM ⟨m, n + 1, _, rfl, rfl, by omega, by simp, Nat.lt_of_lt_of_le (by show 8 < 9; decide) (by decide), fun d hd => ?_⟩
      simp only [List.mem_cons, List.not_mem_nil, or_false] at hd
      have ok : ∀ p : Int × Int, Fra p → Φ (.d (fr p)) (some (m, n + 1 + 1)) := fun p f => qq p _ (by omega) f
      rcases hd with rfl | rfl | rfl | rfl | rfl | rfl | rfl | rfl
      · exact ok (0, 1) (fra_by (by decide +kernel) (by decide +kernel) (by decide +kernel) (by decide +kernel))
      · exact ok (1, 1) (fra_by (by decide +kernel) (by decide +kernel) (by decide +kernel) (by decide +kernel))
      · exact ok (-1, 1) (fra_by (by decide +kernel) (by decide +kernel) (by decide +kernel) (by decide +kernel))
      · exact ok (10 ^ Int.toNat 40, 1) (fra_by (by decide +kernel) (by decide +kernel) (by decide +kernel) (by decide +kernel))
      · exact ok (-10 ^ Int.toNat 40, 1) (fra_by (by decide +kernel) (by decide +kernel) (by decide +kernel) (by decide +kernel))
      · exact ok (1, 10 ^ Int.toNat 40) (fra_by (by decide +kernel) (by decide +kernel) (by decide +kernel) (by decide +kernel))
      · exact ok (10 ^ Int.toNat 40 - 1, 10 ^ Int.toNat 40) (fra_by (by decide +kernel) (by decide +kernel) (by decide +kernel) (by decide +kernel))
      · exact ok (1, 2) (fra_by (by decide +kernel) (by decide +kernel) (by decide +kernel) (by decide +kernel))
    · ac_rfl
      refine js_set 2 sc44.nd rfl (.inl rfl) ?_
      refine je_call (g39 T) (.inl rfl) hg hr tk T.d39.g T.d39.k T.d39.b (by decide) ?_
      ac_rfl
      refine je_pow ?_
      ac_rfl
      refine ⟨⟨by decide, by decide, by decide⟩, ?_⟩
      ac_rfl
      refine je_pow ?_
      ac_rfl
      refine ⟨⟨by decide, by decide, by decide⟩, ?_⟩
      ac_rfl
      refine ⟨[_, _, _, _, _], rfl, Nat.le_of_ble_eq_true rfl, ?_⟩
      ac_rfl
      refine callM ⟨m, n + 1, _, rfl, rfl, by omega, by simp, Nat.lt_of_lt_of_le (by show 5 < 9; decide) (by decide), fun d hd => ?_⟩
      have key : ∀ h : Int, 8 ≤ h → h ≤ 10 ^ 15 → ∀ D : DK, D.rt = Φ → JB (bodyCx P w K mg base ["m", "way", "high"] "_law_some" (topS 44) T.d44.f cdv A outer s H E).nox ⟨[], (some (m, n)).map (·.1), H1, fun _ _ _ => False⟩ [some (.is (.ref m)), some (.int way), some (.int h)] (some (m, n + 1 + 1)) ((defBody (topS 44)).drop 3) D := fun h h8 h15 D hD => by
        refine jb_cons ?_
        ac_rfl
        refine je_call (g43 T) (.inl rfl) hg hr tk T.d43.g T.d43.k T.d43.b (by decide) ?_
        ac_rfl
        refine je_call (g38 T) (.inl rfl) hg hr tk T.d38.g T.d38.k T.d38.b (by decide) ?_
        ac_rfl
        refine je_mul ?_
        ac_rfl
        refine ⟨.inl (by decide), ?_⟩
        ac_rfl
        refine callM ⟨m, n + 2, _, rfl, rfl, by omega, by omega, by omega, fun r r0 r1 => ?_⟩
        ac_rfl
        refine je_add ?_
        ac_rfl
        refine je_call (g38 T) (.inl rfl) hg hr tk T.d38.g T.d38.k T.d38.b (by decide) ?_
        ac_rfl
        refine callM ⟨m, n + 3, _, rfl, rfl, by omega, by omega, by omega, fun q q0 q1 => ?_⟩
        ac_rfl
        have a1 : (r - h).natAbs ≤ 10 ^ 40 := Nat.le_trans (show (r - h).natAbs ≤ 10 ^ 15 by omega) (by decide)
        have a2 : (1 + q).natAbs ≤ 10 ^ 40 := Nat.le_trans (show (1 + q).natAbs ≤ 10 ^ 15 by omega) (by decide)
        have a3 : 10 ^ 40 < 2 ^ 4000 := Nat.lt_of_lt_of_le tenB (Nat.pow_le_pow_right (by decide) (by decide))
        refine callP ⟨_, _, rfl, by omega, Nat.lt_of_le_of_lt a1 a3, Nat.lt_of_le_of_lt a2 a3, ?_⟩
        rw [hD]
        exact qq _ (n + 4) (Nat.le_refl _) (cut_fra (by omega) a1 a2)
      simp only [List.mem_cons, List.not_mem_nil, or_false] at hd
      rcases hd with rfl | rfl | rfl | rfl | rfl
      · exact key _ (by decide) (by decide) _ rfl
      · exact key _ (by decide) (by decide) _ rfl
      · exact key _ (by decide) (by decide) _ rfl
      · exact key _ (by decide) (by decide) _ rfl
      · exact key _ (by decide) (by decide) _ rfl
end
end K01

namespace K01
open PySem PySem.Spec PySem.W PySem.SeqAt PyProof.Rows L2 LamX CR
local macro_rules | `(tactic| ac_rfl) => `(tactic| repeat first
  | refine jb_cons ?_
  | refine jb_nil ?_
  | refine js_ret ?_
  | refine js_if ?_
  | refine js_expr ?_
  | refine ja_cons ?_
  | refine ja_nil ?_
  | refine jk_cons ?_
  | refine jk_nil ?_
  | refine je_int ?_
  | refine je_bl ?_
  | refine je_str ?_
  | refine je_non ?_
  | ((refine je_nm ?_); first
      | refine je_var 0 rfl (.inl rfl) rfl ?_
      | refine je_var 1 rfl (.inl rfl) rfl ?_
      | refine je_var 2 rfl (.inl rfl) rfl ?_
      | refine je_var 3 rfl (.inl rfl) rfl ?_
      | refine je_var 4 rfl (.inl rfl) rfl ?_
      | refine je_var 5 rfl (.inl rfl) rfl ?_
      | refine je_var 6 rfl (.inl rfl) rfl ?_
      | refine je_var 7 rfl (.inl rfl) rfl ?_
      | refine je_var 8 rfl (.inl rfl) rfl ?_
      | refine je_var 0 rfl (.inr (.inl rfl)) rfl ?_
      | refine je_var 1 rfl (.inr (.inl rfl)) rfl ?_
      | refine je_var 2 rfl (.inr (.inl rfl)) rfl ?_
      | refine je_var 3 rfl (.inr (.inl rfl)) rfl ?_
      | refine je_var 4 rfl (.inr (.inl rfl)) rfl ?_
      | refine je_var 5 rfl (.inr (.inl rfl)) rfl ?_
      | refine je_var 6 rfl (.inr (.inl rfl)) rfl ?_
      | refine je_var 0 rfl (.inr (.inr rfl)) rfl ?_
      | refine je_var 1 rfl (.inr (.inr rfl)) rfl ?_
      | refine je_var 2 rfl (.inr (.inr rfl)) rfl ?_
      | refine je_var 3 rfl (.inr (.inr rfl)) rfl ?_
      | refine je_var 4 rfl (.inr (.inr rfl)) rfl ?_
      | refine je_var 5 rfl (.inr (.inr rfl)) rfl ?_
      | refine je_var 6 rfl (.inr (.inr rfl)) rfl ?_)
  | refine je_sub ?_
  | refine je_lt ?_
  | refine je_le ?_
  | refine je_gt ?_
  | refine je_ge ?_
  | refine je_eq ?_
  | refine je_ne ?_
  | refine jt_lt ?_
  | refine jt_le ?_
  | refine jt_gt ?_
  | refine jt_ge ?_
  | refine jt_eq ?_
  | refine jt_ne ?_
  | refine jt_not ?_
  | refine jt_w (jw_and ?_)
  | refine jt_w (jw_or ?_)
  | refine jw_and ?_
  | refine jw_or ?_
  | refine jw_and1 ?_
  | refine jw_or1 ?_
  | refine je_and ?_
  | refine je_or ?_
  | refine je_one ?_
  | refine je_not ?_
  | refine je_neg ?_
  | refine je_tup ?_
  | refine je_lst ?_
  | refine je_ifExp ?_
  | refine je_ixT (i := 0) ?_
  | refine je_ixT (i := 1) ?_
  | refine ⟨_, _, rfl, rfl, ?_⟩
  | refine ⟨[_], rfl, Nat.le_of_ble_eq_true rfl, ?_⟩
  | refine ⟨[_, _], rfl, Nat.le_of_ble_eq_true rfl, ?_⟩
  | refine ⟨_, rfl, ?_⟩)

/-! ### the code objects and tables of the defs that make closures -/
def lq (x : Str) : Str := x ++ (".<locals>." : Str) ++ ("<lambda>" : Str)
structure Tb {P : Program} {K : PySem.W.Frag} {mg : Str → Option Value} (T : Txt P K mg) where
  c46 : Addr
  P46 : Addr
  c47 : Addr
  P47 : Addr
  c48 : Addr
  P48 : Addr
  e46 : T.d46.fd.code = .ref c46
  e47 : T.d47.fd.code = .ref c47
  e48 : T.d48.fd.code = .ref c48
  n1 : P46 ≠ P47
  n2 : P46 ≠ P48
  n3 : P47 ≠ P48
def Tb.L {P : Program} {K : PySem.W.Frag} {mg : Str → Option Value} {T : Txt P K mg} (B : Tb T) : List (Addr × Str) := [(B.P46, lq "_law_two_right"), (B.P47, lq "_law_made_right"), (B.P48, lq "_law_refused_right")]
abbrev Txt.hs {P : Program} {K : PySem.W.Frag} {mg : Str → Option Value} (T : Txt P K mg) : List Hd := [⟨T.CF, "fraction", some "value"⟩, ⟨T.CN, "number", some "value"⟩, ⟨T.CE, "empty", none⟩]
theorem sc42 : FnScope ["call", "error"] ["call"] (defScope (topS 42)) := ⟨rfl, rfl, rfl, by decide +kernel, rfl, by decide +kernel, by decide +kernel⟩
theorem heardG {X : Cx} (T : Txt X.prog X.K X.mg) : GivesG X ["call", "error"] "_law_heard" (topS 42) T.d42.f "call" (heardT X.K T.hs) :=
  gives_heard (h0 := _) (hds := _) rfl rfl fun cdg s H => catch_as rfl rfl sc42.nd rfl rfl ⟨rfl, by decide, .inl T.eF.gC⟩ T.eF
    (catch_as rfl rfl sc42.nd rfl rfl ⟨rfl, by decide, .inl T.eN.gC⟩ T.eN (catch_no rfl rfl ⟨rfl, by decide, .inl T.eE.gC⟩ catch_nil))
theorem heardG' {P : Program} {K : PySem.W.Frag} {mg : Str → Option Value} (T : Txt P K mg) (X : Cx) (hP : X.prog = P) (hK : X.K = K) (hM : X.mg = mg) : GivesG X ["call", "error"] "_law_heard" (topS 42) T.d42.f "call" (heardT X.K T.hs) := by
  subst hP hK hM
  exact heardG T
/-! ### sizes -/
theorem fdiv_mul (g a : Int) (h : g ≠ 0) : (g * a).fdiv g = a := by
  rw [Int.mul_comm]
  exact Int.mul_fdiv_cancel a h
theorem cut_parts {t u : Int} (hu : u ≠ 0) : (cut t u).1.natAbs ≤ t.natAbs ∧ (cut t u).2.natAbs ≤ u.natAbs := by
  have g0 : Int.gcd t u ≠ 0 := fun z => hu (Int.gcd_eq_zero_iff.mp z).2
  obtain ⟨a, ha⟩ := Int.gcd_dvd_left t u
  obtain ⟨c, hc⟩ := Int.gcd_dvd_right t u
  have n1 : t.natAbs = Int.gcd t u * a.natAbs := by
    have := congrArg Int.natAbs ha
    rw [Int.natAbs_mul] at this
    exact this
  have n2 : u.natAbs = Int.gcd t u * c.natAbs := by
    have := congrArg Int.natAbs hc
    rw [Int.natAbs_mul] at this
    exact this
  have b1 : a.natAbs ≤ t.natAbs := by rw [n1]; exact Nat.le_mul_of_pos_left _ (by omega)
  have b2 : c.natAbs ≤ u.natAbs := by rw [n2]; exact Nat.le_mul_of_pos_left _ (by omega)
  have gi : (Int.gcd t u : Int) ≠ 0 := by omega
  unfold cut
  by_cases h : 0 < u
  · rw [if_pos h]
    have e1 : t.fdiv (Int.gcd t u : Int) = a := by
      have := fdiv_mul _ a gi
      rw [← ha] at this
      exact this
    have e2 : u.fdiv (Int.gcd t u : Int) = c := by
      have := fdiv_mul _ c gi
      rw [← hc] at this
      exact this
    show (t.fdiv (Int.gcd t u : Int)).natAbs ≤ _ ∧ (u.fdiv (Int.gcd t u : Int)).natAbs ≤ _
    rw [e1, e2]
    exact ⟨b1, b2⟩
  · rw [if_neg h]
    have gn : (0 - (Int.gcd t u : Int)) ≠ 0 := by omega
    have e1 : t.fdiv (0 - (Int.gcd t u : Int)) = -a := by
      have := fdiv_mul _ (-a) gn
      rw [show (0 - (Int.gcd t u : Int)) * -a = (Int.gcd t u : Int) * a by rw [Int.zero_sub, Int.neg_mul_neg], ← ha] at this
      exact this
    have e2 : u.fdiv (0 - (Int.gcd t u : Int)) = -c := by
      have := fdiv_mul _ (-c) gn
      rw [show (0 - (Int.gcd t u : Int)) * -c = (Int.gcd t u : Int) * c by rw [Int.zero_sub, Int.neg_mul_neg], ← hc] at this
      exact this
    show (t.fdiv (0 - (Int.gcd t u : Int))).natAbs ≤ _ ∧ (u.fdiv (0 - (Int.gcd t u : Int))).natAbs ≤ _
    rw [e1, e2]
    exact ⟨by omega, by omega⟩
theorem good_fr {p : Int × Int} (h1 : p.1.natAbs < 10 ^ 571) (h2 : p.2.natAbs < 10 ^ 571) : CR.Good 1 (fr p) := by
  simp only [fr, CR.Good, CR.GoodAll]
  exact ⟨h1, h2, trivial⟩
theorem big571 {n k : Nat} (h : n ≤ 10 ^ k) (hk : k < 571) : n < 10 ^ 571 := Nat.lt_of_le_of_lt h (Nat.pow_lt_pow_right (by decide) hk)
theorem Fra.tell {p : Int × Int} (h : Fra p) : TellD (fr p) := ⟨1, good_fr (big571 h.s1 (by decide)) (big571 h.s2 (by decide)), by decide, by show 1 + (1 + 0) + 1 ≤ 1600; decide⟩
theorem fr_len {p : Int × Int} : ∀ ds, fr p = .tuple ds → ds.length < 1000 := fun ds e => by
  cases e
  exact (by decide : 2 < 1000)
theorem mul80 {x y : Int} {i j : Nat} (h1 : x.natAbs ≤ 10 ^ i) (h2 : y.natAbs ≤ 10 ^ j) : (x * y).natAbs ≤ 10 ^ (i + j) := by
  rw [Int.natAbs_mul, Nat.pow_add]
  exact Nat.mul_le_mul h1 h2
theorem add81 {x y : Int} (h1 : x.natAbs ≤ 10 ^ 80) (h2 : y.natAbs ≤ 10 ^ 80) : (x + y).natAbs ≤ 10 ^ 81 ∧ (x - y).natAbs ≤ 10 ^ 81 := by
  have : (10 : Nat) ^ 81 = 10 * 10 ^ 80 := by rw [Nat.pow_succ, Nat.mul_comm]
  omega
theorem lt4000 {n k : Nat} (h : n ≤ 10 ^ k) (hk : k ≤ 500) : n < 2 ^ 4000 := by
  refine Nat.lt_of_le_of_lt (Nat.le_trans h (Nat.pow_le_pow_right (by decide) hk)) ?_
  have : (10 : Nat) ^ 500 < (2 ^ 4) ^ 500 := Nat.pow_lt_pow_left (by decide) (by decide)
  rw [← Nat.pow_mul] at this
  exact Nat.lt_of_lt_of_le this (Nat.pow_le_pow_right (by decide) (by decide))
theorem lt3000 {n k : Nat} (h : n ≤ 10 ^ k) (hk : k ≤ 500) : n < 2 ^ 3000 := by
  refine Nat.lt_of_le_of_lt (Nat.le_trans h (Nat.pow_le_pow_right (by decide) hk)) ?_
  have : (10 : Nat) ^ 500 < (2 ^ 4) ^ 500 := Nat.pow_lt_pow_left (by decide) (by decide)
  rw [← Nat.pow_mul] at this
  exact Nat.lt_of_lt_of_le this (Nat.pow_le_pow_right (by decide) (by decide))
/-! ### powers below nought -/
theorem neg_pow (x : Int) : ∀ n : Nat, (n % 2 = 0 → (-x) ^ n = x ^ n) ∧ (n % 2 = 1 → (-x) ^ n = -(x ^ n))
  | 0 => ⟨fun _ => by rw [Int.pow_zero, Int.pow_zero], fun h => by cases h⟩
  | n + 1 => by
    obtain ⟨h1, h2⟩ := neg_pow x n
    refine ⟨fun h => ?_, fun h => ?_⟩
    · rw [Int.pow_succ, Int.pow_succ, h2 (by omega), Int.neg_mul_neg]
    · rw [Int.pow_succ, Int.pow_succ, h1 (by omega), Int.mul_neg]
theorem cut_pow {a b : Int} (ha : a ≠ 0) (hg : Int.gcd b a = 1) (n : Nat) : ((cut b a).1 ^ n, (cut b a).2 ^ n) = cut (b ^ n) (a ^ n) := by
  by_cases h : 0 < a
  · rw [cut_one hg h, cut_one (pow_gcd hg n n) (Int.pow_pos h)]
  · have h' : 0 < -a := by omega
    rw [cut_neg hg (by omega)]
    obtain ⟨e1, e2⟩ := neg_pow a n
    obtain ⟨f1, f2⟩ := neg_pow b n
    have pos : 0 < (-a) ^ n := Int.pow_pos h'
    rcases Nat.mod_two_eq_zero_or_one n with z | z
    · rw [e1 z] at pos
      show ((-b) ^ n, (-a) ^ n) = _
      rw [e1 z, f1 z, cut_one (pow_gcd hg n n) pos]
    · rw [e2 z] at pos
      show ((-b) ^ n, (-a) ^ n) = _
      rw [e2 z, f2 z, cut_neg (pow_gcd hg n n) (by omega)]
section
variable {P : Program} {w : World} {K : PySem.W.Frag} {mg : Str → Option Value} {base : Heap} (T : Txt P K mg)
theorem sc47 : FnScope ["m", "top", "bottom", "told"] ["m"] (defScope (topS 47)) := ⟨rfl, rfl, rfl, by decide +kernel, rfl, by decide +kernel, by decide +kernel⟩
def c47 : Con := fun xs b Φ _ => ∃ (m : Addr) (n : Nat), xs = [.is (.ref m)] ∧ b = some (m, n) ∧ n < 2 ^ 39 ∧ Φ (.bl true) (some (m, n + 2))
theorem sc21 : FnScope ["number", "far_number"] ["number", "far_number"] (defScope (topS 21)) := ⟨rfl, rfl, rfl, by decide +kernel, rfl, by decide +kernel, by decide +kernel⟩
def c21 (CN CE : Addr) : Con := fun xs b Φ Er => ∃ d e, xs = [.d d, .d e] ∧ TellD d ∧ TellD e ∧ (isN d = false → Er (.ref CN) (some ("value", d)) b) ∧ (isN d = true → isN e = false → Er (.ref CN) (some ("value", e)) b) ∧
  ∀ i j : Int, d = .int i → e = .int j → i.natAbs ≤ 10 ^ 40 → j.natAbs ≤ 10 ^ 40 → (j = 0 → Er (.ref CE) none b) ∧ (j ≠ 0 → Φ (.d (fr (cut i j))) b)
theorem isN_ex {d : PyData} (h : isN d = true) : ∃ i : Int, d = .int i ∧ i.natAbs ≤ 10 ^ 40 := by
  cases d with
  | int i =>
    refine ⟨i, rfl, ?_⟩
    have h : ((i.natAbs : Int) ≤ 10 ^ 40) := of_decide_eq_true h
    have e : (10 : Int) ^ 40 = ((10 ^ 40 : Nat) : Int) := by norm_cast
    rw [e] at h
    exact Int.ofNat_le.mp h
  | _ => cases h
theorem g21 (hS : ∃ mm, base.Ns sysModules mm) : FnG P w K mg base 4 T.d21.f T.d21.fd ["number", "far_number"] (spF K [] (c21 T.CN T.CE)) := by
  refine okD T.d21.F sc21 (fun xs b Φ Er h => ?_) (fun cdv A outer s H H1 E xs b Φ Er hr hg tk h => ?_)
  · obtain ⟨d, e, rfl, _⟩ := h
    rfl
  · obtain ⟨d, e, rfl, hd, he, q1, q2, q3⟩ := h
    refine jb_cons ?_
    ac_rfl
    refine je_call (g10 T hS) (.inl rfl) hg hr tk T.d10.g T.d10.k T.d10.b (by decide) ?_
    ac_rfl
    refine callP ⟨d, rfl, hd, fun h1 => ?_, q1⟩
    ac_rfl
    refine je_call (g10 T hS) (.inl rfl) hg hr tk T.d10.g T.d10.k T.d10.b (by decide) ?_
    ac_rfl
    refine callP ⟨e, rfl, he, fun h2 => ?_, q2 h1⟩
    obtain ⟨i, rfl, hi⟩ := isN_ex h1
    obtain ⟨j, rfl, hj⟩ := isN_ex h2
    obtain ⟨z1, z2⟩ := q3 i j rfl rfl hi hj
    ac_rfl
    refine ⟨fun h => jb_one (js_err0 rfl T.eE tk (z1 (of_decide_eq_true h))), fun h => ?_⟩
    have h : j ≠ 0 := of_decide_eq_false h
    ac_rfl
    refine je_call (g20 T) (.inl rfl) hg hr tk T.d20.g T.d20.k T.d20.b (by decide) ?_
    ac_rfl
    exact callP ⟨i, j, rfl, h, Nat.lt_of_lt_of_le (lt4000 hj (by decide)) (Nat.pow_le_pow_right (by decide) (by decide)), z2 h⟩
end
end K01

namespace K01
open PySem PySem.Spec PySem.W PySem.SeqAt PyProof.Rows L2 LamX CR
local macro_rules | `(tactic| ac_rfl) => `(tactic| repeat first
  | refine jb_cons ?_
  | refine jb_nil ?_
  | refine js_ret ?_
  | refine js_if ?_
  | refine js_expr ?_
  | refine ja_cons ?_
  | refine ja_nil ?_
  | refine jk_cons ?_
  | refine jk_nil ?_
  | refine je_int ?_
  | refine je_bl ?_
  | refine je_str ?_
  | refine je_non ?_
  | ((refine je_nm ?_); first
      | refine je_var 0 rfl (.inl rfl) rfl ?_
      | refine je_var 1 rfl (.inl rfl) rfl ?_
      | refine je_var 2 rfl (.inl rfl) rfl ?_
      | refine je_var 3 rfl (.inl rfl) rfl ?_
      | refine je_var 4 rfl (.inl rfl) rfl ?_
      | refine je_var 5 rfl (.inl rfl) rfl ?_
      | refine je_var 6 rfl (.inl rfl) rfl ?_
      | refine je_var 7 rfl (.inl rfl) rfl ?_
      | refine je_var 8 rfl (.inl rfl) rfl ?_
      | refine je_var 0 rfl (.inr (.inl rfl)) rfl ?_
      | refine je_var 1 rfl (.inr (.inl rfl)) rfl ?_
      | refine je_var 2 rfl (.inr (.inl rfl)) rfl ?_
      | refine je_var 3 rfl (.inr (.inl rfl)) rfl ?_
      | refine je_var 4 rfl (.inr (.inl rfl)) rfl ?_
      | refine je_var 5 rfl (.inr (.inl rfl)) rfl ?_
      | refine je_var 6 rfl (.inr (.inl rfl)) rfl ?_
      | refine je_var 0 rfl (.inr (.inr rfl)) rfl ?_
      | refine je_var 1 rfl (.inr (.inr rfl)) rfl ?_
      | refine je_var 2 rfl (.inr (.inr rfl)) rfl ?_
      | refine je_var 3 rfl (.inr (.inr rfl)) rfl ?_
      | refine je_var 4 rfl (.inr (.inr rfl)) rfl ?_
      | refine je_var 5 rfl (.inr (.inr rfl)) rfl ?_
      | refine je_var 6 rfl (.inr (.inr rfl)) rfl ?_)
  | refine je_sub ?_
  | refine je_lt ?_
  | refine je_le ?_
  | refine je_gt ?_
  | refine je_ge ?_
  | refine je_eq ?_
  | refine je_ne ?_
  | refine jt_lt ?_
  | refine jt_le ?_
  | refine jt_gt ?_
  | refine jt_ge ?_
  | refine jt_eq ?_
  | refine jt_ne ?_
  | refine jt_not ?_
  | refine jt_w (jw_and ?_)
  | refine jt_w (jw_or ?_)
  | refine jw_and ?_
  | refine jw_or ?_
  | refine jw_and1 ?_
  | refine jw_or1 ?_
  | refine je_and ?_
  | refine je_or ?_
  | refine je_one ?_
  | refine je_not ?_
  | refine je_neg ?_
  | refine je_tup ?_
  | refine je_lst ?_
  | refine je_ifExp ?_
  | refine je_ixT (i := 0) ?_
  | refine je_ixT (i := 1) ?_
  | refine ⟨_, _, rfl, rfl, ?_⟩
  | refine ⟨[_], rfl, Nat.le_of_ble_eq_true rfl, ?_⟩
  | refine ⟨[_, _], rfl, Nat.le_of_ble_eq_true rfl, ?_⟩
  | refine ⟨_, rfl, ?_⟩)

section
variable {P : Program} {w : World} {K : PySem.W.Frag} {mg : Str → Option Value} {base : Heap} (T : Txt P K mg) (B : Tb T)
theorem g47 (hS : ∃ mm, base.Ns sysModules mm) (tb : TabB base mg B.c47 B.P47) : FnG P w K mg base 9 T.d47.f T.d47.fd ["m"] (spF K B.L c47) := by
  refine okD0c T.d47.F sc47 (fun xs b Φ Er h => ?_) (fun cdv A outer s H H1 E xs b Φ Er hcode hr hg tk h => ?_)
  · obtain ⟨m, n, rfl, _⟩ := h
    rfl
  · obtain ⟨m, n, rfl, rfl, hn, qq⟩ := h
    have hcode := hcode.symm.trans B.e47
    subst hcode
    refine jb_cons ?_
    refine js_two 1 2 rfl sc47.nd rfl rfl (.inr rfl) (.inr rfl) ?_
    ac_rfl
    refine je_call (g38 T) (.inl rfl) hg hr tk T.d38.g T.d38.k T.d38.b (by decide) ?_
    ac_rfl
    refine callM ⟨m, n, _, rfl, rfl, by omega, by decide, by decide, fun r r0 r1 => ?_⟩
    ac_rfl
    refine je_call (g38 T) (.inl rfl) hg hr tk T.d38.g T.d38.k T.d38.b (by decide) ?_
    ac_rfl
    refine callM ⟨m, n + 1, _, rfl, rfl, by omega, by decide, by decide, fun q q0 q1 => ?_⟩
    ac_rfl
    generalize hi : r - 1000 = i
    generalize hj : q - 20 = j
    have hi1 : i.natAbs ≤ 10 ^ 40 := Nat.le_trans (show i.natAbs ≤ 1000 by omega) (by decide)
    have hj1 : j.natAbs ≤ 10 ^ 40 := Nat.le_trans (show j.natAbs ≤ 20 by omega) (by decide)
    refine ⟨_, _, rfl, ?_⟩
    have key : ∀ d : PyData, (j = 0 → d = .tuple [.str "empty", .int 0]) → (j ≠ 0 → d = .list [fr (cut i j)]) → ∀ D : DK, D.rt = Φ → JB (bodyCx P w K mg base ["m", "top", "bottom", "told"] "_law_made_right" (topS 47) T.d47.f (.ref B.c47) A outer s H E).nox ⟨B.L, (some (m, n)).map (·.1), H1, fun _ _ _ => False⟩ [some (.is (.ref m)), some (.int i), some (.int j), some (.d d)] (some (m, n + 2)) ((defBody (topS 47)).drop 2) D := fun d h0 h1 D hD => by
      refine jb_cons ?_
      ac_rfl
      refine je_call (g40 T hS) (.inl rfl) hg hr tk T.d40.g T.d40.k T.d40.b (by decide) ?_
      ac_rfl
      refine ⟨fun h => ?_, fun h => ?_⟩
      · have h : j = 0 := of_decide_eq_true h
        rw [h0 h]
        ac_rfl
        refine callP ⟨1, _, rfl, ?_, by decide, by show 1 + (1 + 0) + 1 ≤ 25000; decide, ?_⟩
        · simp only [CR.Good, CR.GoodAll]
          exact ⟨⟨by decide, by decide⟩, by decide, trivial⟩
        · rw [hD]
          exact qq
      · have h : j ≠ 0 := of_decide_eq_false h
        rw [h1 h]
        ac_rfl
        refine je_call (g43 T) (.inl rfl) hg hr tk T.d43.g T.d43.k T.d43.b (by decide) ?_
        ac_rfl
        refine callP ⟨i, j, rfl, h, lt4000 hi1 (by decide), lt4000 hj1 (by decide), ?_⟩
        ac_rfl
        obtain ⟨s1, s2⟩ := cut_parts (t := i) h
        refine callP ⟨2, _, rfl, ?_, by decide, by show 1 + (1 + 0) + 1 + 0 + 1 ≤ 25000; decide, ?_⟩
        · simp only [fr, CR.Good, CR.GoodAll]
          exact ⟨⟨big571 (Nat.le_trans s1 hi1) (by decide), big571 (Nat.le_trans s2 hj1) (by decide), trivial⟩, trivial⟩
        · rw [hD]
          exact qq
    refine jb_cons ?_
    refine js_set 3 sc47.nd rfl (.inl rfl) ?_
    refine je_heard (k := 6) T.d42.g T.d42.F sc42 T.d42.b rfl (.inl rfl) hg hr (heardG' T _ rfl rfl rfl) T.hx ?_
    refine je_lam (fun z => by cases z) (pe_lam tb rfl (List.mem_cons_of_mem _ List.mem_cons_self) (fun p hp e => ?_) (cloS_by (sc := defScope (topS 47)) (by decide +kernel)) (fun _ _ _ _ _ => rfl)) ?_
    · rcases List.mem_cons.mp hp with z | hp
      · rw [z] at e
        exact absurd e B.n1
      rcases List.mem_cons.mp hp with z | hp
      · rw [z]
        rfl
      rcases List.mem_cons.mp hp with z | hp
      · rw [z] at e
        exact absurd e.symm B.n3
      · cases hp
    refine ⟨_, _, _, rfl, cloS_by (sc := defScope (topS 47)) (by decide +kernel), ?_⟩
    intro A' outer' s' H' HH E' f' c' hr' hg' tk'
    refine je_callK (g21 T hS) (.inl rfl) hg' hr' tk' T.d21.g T.d21.k T.d21.kb (by decide) ?_
    ac_rfl
    have ti : ∀ z : Int, z.natAbs ≤ 10 ^ 40 → TellD (.int z) := fun z hz => ⟨0, by simp only [CR.Good]; exact big571 hz (by decide), by decide, by show 1 ≤ 1600; decide⟩
    have ni : ∀ z : Int, z.natAbs ≤ 10 ^ 40 → isN (.int z) = true := fun z hz => by
      have e : (10 : Int) ^ 40 = ((10 ^ 40 : Nat) : Int) := by norm_cast
      show decide ((z.natAbs : Int) ≤ 10 ^ 40) = true
      rw [e]
      exact decide_eq_true (Int.ofNat_le.mpr hz)
    refine callP ⟨.int i, .int j, rfl, ti i hi1, ti j hj1, fun z => ?_, fun _ z => ?_, fun i' j' e1 e2 _ _ => ?_⟩
    · rw [ni i hi1] at z
      cases z
    · rw [ni j hj1] at z
      cases z
    · cases e1
      cases e2
      refine ⟨fun hj0 => ⟨⟨T.CE, "empty", none⟩, List.mem_cons_of_mem _ (List.mem_cons_of_mem _ List.mem_cons_self), rfl, ?_⟩, fun hj0 => ⟨_, rfl, ?_⟩⟩
      · exact key _ (fun _ => rfl) (fun z => absurd hj0 z) _ rfl
      · exact key _ (fun z => absurd z hj0) (fun _ => rfl) _ rfl
end
end K01

namespace K01
open PySem PySem.Spec PySem.W PySem.SeqAt PyProof.Rows L2 LamX CR
local macro_rules | `(tactic| ac_rfl) => `(tactic| repeat first
  | refine jb_cons ?_
  | refine jb_nil ?_
  | refine js_ret ?_
  | refine js_if ?_
  | refine js_expr ?_
  | refine ja_cons ?_
  | refine ja_nil ?_
  | refine jk_cons ?_
  | refine jk_nil ?_
  | refine je_int ?_
  | refine je_bl ?_
  | refine je_str ?_
  | refine je_non ?_
  | ((refine je_nm ?_); first
      | refine je_var 0 rfl (.inl rfl) rfl ?_
      | refine je_var 1 rfl (.inl rfl) rfl ?_
      | refine je_var 2 rfl (.inl rfl) rfl ?_
      | refine je_var 3 rfl (.inl rfl) rfl ?_
      | refine je_var 4 rfl (.inl rfl) rfl ?_
      | refine je_var 5 rfl (.inl rfl) rfl ?_
      | refine je_var 6 rfl (.inl rfl) rfl ?_
      | refine je_var 7 rfl (.inl rfl) rfl ?_
      | refine je_var 8 rfl (.inl rfl) rfl ?_
      | refine je_var 9 rfl (.inl rfl) rfl ?_
      | refine je_var 10 rfl (.inl rfl) rfl ?_
      | refine je_var 11 rfl (.inl rfl) rfl ?_
      | refine je_var 0 rfl (.inr (.inl rfl)) rfl ?_
      | refine je_var 1 rfl (.inr (.inl rfl)) rfl ?_
      | refine je_var 2 rfl (.inr (.inl rfl)) rfl ?_
      | refine je_var 3 rfl (.inr (.inl rfl)) rfl ?_
      | refine je_var 4 rfl (.inr (.inl rfl)) rfl ?_
      | refine je_var 5 rfl (.inr (.inl rfl)) rfl ?_
      | refine je_var 6 rfl (.inr (.inl rfl)) rfl ?_
      | refine je_var 7 rfl (.inr (.inl rfl)) rfl ?_
      | refine je_var 8 rfl (.inr (.inl rfl)) rfl ?_
      | refine je_var 9 rfl (.inr (.inl rfl)) rfl ?_
      | refine je_var 10 rfl (.inr (.inl rfl)) rfl ?_
      | refine je_var 11 rfl (.inr (.inl rfl)) rfl ?_
      | refine je_var 0 rfl (.inr (.inr rfl)) rfl ?_
      | refine je_var 1 rfl (.inr (.inr rfl)) rfl ?_
      | refine je_var 2 rfl (.inr (.inr rfl)) rfl ?_
      | refine je_var 3 rfl (.inr (.inr rfl)) rfl ?_
      | refine je_var 4 rfl (.inr (.inr rfl)) rfl ?_
      | refine je_var 5 rfl (.inr (.inr rfl)) rfl ?_
      | refine je_var 6 rfl (.inr (.inr rfl)) rfl ?_
      | refine je_var 7 rfl (.inr (.inr rfl)) rfl ?_
      | refine je_var 8 rfl (.inr (.inr rfl)) rfl ?_
      | refine je_var 9 rfl (.inr (.inr rfl)) rfl ?_
      | refine je_var 10 rfl (.inr (.inr rfl)) rfl ?_
      | refine je_var 11 rfl (.inr (.inr rfl)) rfl ?_)
  | refine je_sub ?_
  | refine je_lt ?_
  | refine je_le ?_
  | refine je_gt ?_
  | refine je_ge ?_
  | refine je_eq ?_
  | refine je_ne ?_
  | refine jt_lt ?_
  | refine jt_le ?_
  | refine jt_gt ?_
  | refine jt_ge ?_
  | refine jt_eq ?_
  | refine jt_ne ?_
  | refine jt_not ?_
  | refine jt_w (jw_and ?_)
  | refine jt_w (jw_or ?_)
  | refine jw_and ?_
  | refine jw_or ?_
  | refine jw_and1 ?_
  | refine jw_or1 ?_
  | refine je_and ?_
  | refine je_or ?_
  | refine je_one ?_
  | refine je_not ?_
  | refine je_neg ?_
  | refine je_tup ?_
  | refine je_lst ?_
  | refine je_ifExp ?_
  | refine je_ixT (i := 0) ?_
  | refine je_ixT (i := 1) ?_
  | refine ⟨_, _, rfl, rfl, ?_⟩
  | refine ⟨[_], rfl, Nat.le_of_ble_eq_true rfl, ?_⟩
  | refine ⟨[_, _], rfl, Nat.le_of_ble_eq_true rfl, ?_⟩
  | refine ⟨_, rfl, ?_⟩)

theorem floor_ok {a b : Int} (h : 0 < b) : a.fdiv b * b ≤ a ∧ a < (a.fdiv b + 1) * b ∧ (a.fdiv b).natAbs ≤ a.natAbs + 1 := by
  have e := Int.mul_fdiv_add_fmod a b
  have r0 := Int.fmod_nonneg_of_pos a h
  have r1 := Int.fmod_lt_of_pos a h
  generalize a.fdiv b = q at *
  generalize a.fmod b = r at *
  have e2 : (q + 1) * b = b * q + b := by rw [Int.add_mul, Int.one_mul, Int.mul_comm]
  have e3 : q * b = b * q := Int.mul_comm _ _
  refine ⟨by omega, by omega, ?_⟩
  rcases Int.lt_or_le q 0 with hq | hq
  · have h1 : b * (q + 1) ≤ 1 * (q + 1) := Int.mul_le_mul_of_nonpos_right (by omega) (by omega)
    have e4 : b * (q + 1) = b * q + b := by rw [Int.mul_add, Int.mul_one]
    omega
  · have h1 : 1 * q ≤ b * q := Int.mul_le_mul_of_nonneg_right (by omega) hq
    omega
theorem Fra.isF {p : Int × Int} (h : Fra p) {Z : Prop} (z : isFr (fr p) = false) : Z := by
  rw [h.is] at z
  cases z
theorem fr_inj {p q : Int × Int} (e : fr p = fr q) : p = q := by
  unfold fr at e
  injection e with e
  injection e with e1 e
  injection e with e2 e
  injection e1 with e1
  injection e2 with e2
  exact Prod.ext e1 e2
def c46 : Con := fun xs b Φ _ => ∃ (m : Addr) (n : Nat) (p q : Int × Int), xs = [.is (.ref m), .d (fr p), .d (fr q)] ∧ b = some (m, n) ∧ n < 2 ^ 39 ∧ Fra p ∧ Fra q ∧ Φ (.bl true) (some (m, n + 1))
abbrev N46 : List Str := ["m", "near", "far", "a", "b", "c", "d", "told", "due", "low", "often"]
section
variable {P : Program} {w : World} {K : PySem.W.Frag} {mg : Str → Option Value} {base : Heap} (T : Txt P K mg) (B : Tb T)
theorem sc46 : FnScope N46 ["m", "near", "far"] (defScope (topS 46)) := ⟨rfl, rfl, rfl, by decide +kernel, rfl, by decide +kernel, by decide +kernel⟩
theorem g46 (hS : ∃ mm, base.Ns sysModules mm) (tb : TabB base mg B.c46 B.P46) : FnG P w K mg base 9 T.d46.f T.d46.fd ["m", "near", "far"] (spF K B.L c46) := by
  refine okD0c T.d46.F sc46 (fun xs b Φ Er h => ?_) (fun cdv A outer s H H1 E xs b Φ Er hcode hr hg tk h => ?_)
  · obtain ⟨m, n, p, q, rfl, _⟩ := h
    rfl
  · obtain ⟨m, n, p, q, rfl, rfl, hn, fp, fq, qq⟩ := h
    obtain ⟨a, b⟩ := p
    obtain ⟨c, d⟩ := q
    have hcode := hcode.symm.trans B.e46
    subst hcode
    have pa : a.natAbs ≤ 10 ^ 40 := fp.s1
    have pb : b.natAbs ≤ 10 ^ 40 := fp.s2
    have pc : c.natAbs ≤ 10 ^ 40 := fq.s1
    have pd : d.natAbs ≤ 10 ^ 40 := fq.s2
    have b0 : 0 < b := fp.pos
    have d0 : 0 < d := fq.pos
    have W : ∀ {x y : Int}, x.natAbs ≤ 10 ^ 40 → y.natAbs ≤ 10 ^ 40 → CMulW x y := fun h1 h2 => szW (lt3000 h1 (by decide)) (lt3000 h2 (by decide))
    have big80 : ∀ {x : Int}, x.natAbs ≤ 10 ^ 80 → x.natAbs < 10 ^ 571 := fun h => big571 h (by decide)
    -- the last part: the power
    have last : ∀ (t : Int) (y7 y8 : Option Sl) (d' : PyData), -4 ≤ t → t ≤ 4 → ((t < 0 ∧ a = 0) → d' = .tuple [.str "empty", .int 0]) → (¬(t < 0 ∧ a = 0) → d' = .list [fr (pwr (a, b) t)]) → ∀ (lo : Sl) (D : DK), D.rt = Φ →
        JB (bodyCx P w K mg base N46 "_law_two_right" (topS 46) T.d46.f (.ref B.c46) A outer s H E).nox ⟨B.L, (some (m, n)).map (·.1), H1, fun _ _ _ => False⟩ [some (.is (.ref m)), some (.d (fr (a, b))), some (.d (fr (c, d))), some (.int a), some (.int b), some (.int c), some (.int d), some (.d d'), some (.d (.tuple [.str "empty", .int 0])), some lo, some (.int t)] (some (m, n + 1)) ((defBody (topS 46)).drop 11) D := fun t y7 y8 d' t0 t1 h0 h1 lo D hD => by
      have fin : ∀ d8 : PyData, d' = d8 → (∃ k, CR.Good k d8 ∧ k ≤ 60 ∧ wt d8 ≤ 25000) → ∀ D : DK, D.rt = Φ → JB (bodyCx P w K mg base N46 "_law_two_right" (topS 46) T.d46.f (.ref B.c46) A outer s H E).nox ⟨B.L, (some (m, n)).map (·.1), H1, fun _ _ _ => False⟩ [some (.is (.ref m)), some (.d (fr (a, b))), some (.d (fr (c, d))), some (.int a), some (.int b), some (.int c), some (.int d), some (.d d'), some (.d d8), some lo, some (.int t)] (some (m, n + 1)) ((defBody (topS 46)).drop 12) D := fun d8 e8 hgood D hD => by
        subst e8
        obtain ⟨k, g1, g2, g3⟩ := hgood
        refine jb_cons ?_
        ac_rfl
        refine je_call (g40 T hS) (.inl rfl) hg hr tk T.d40.g T.d40.k T.d40.b (by decide) ?_
        ac_rfl
        refine callP ⟨k, _, rfl, g1, g2, g3, ?_⟩
        rw [hD]
        exact qq
      have goodL : ∀ z : Int × Int, z.1.natAbs ≤ 10 ^ 160 → z.2.natAbs ≤ 10 ^ 160 → ∃ k, CR.Good k (.list [fr z]) ∧ k ≤ 60 ∧ wt (.list [fr z]) ≤ 25000 := fun z z1 z2 => by
        refine ⟨2, ?_, by decide, by show 1 + (1 + 0) + 1 + 0 + 1 ≤ 25000; decide⟩
        simp only [fr, CR.Good, CR.GoodAll]
        exact ⟨⟨big571 z1 (by decide), big571 z2 (by decide), trivial⟩, trivial⟩
      have pw4 : ∀ (x : Int) (k : Nat), x.natAbs ≤ 10 ^ 40 → k ≤ 4 → (x ^ k).natAbs ≤ 10 ^ 160 := fun x k hx hk => by
        rw [Int.natAbs_pow]
        refine Nat.le_trans (Nat.pow_le_pow_left hx k) ?_
        rw [← Nat.pow_mul]
        exact Nat.pow_le_pow_right (by decide) (by omega)
      refine jb_cons ?_
      ac_rfl
      refine ⟨fun h => ?_, fun h => ?_⟩
      · have h : 0 ≤ t := of_decide_eq_true h
        refine jb_cons ?_
        refine js_set 8 sc46.nd rfl (.inl rfl) ?_
        ac_rfl
        refine je_call (g45 T) (.inl rfl) hg hr tk T.d45.g T.d45.k T.d45.b (by decide) ?_
        ac_rfl
        refine callP ⟨a, t, rfl, h, t1, pa, ?_⟩
        ac_rfl
        refine je_call (g45 T) (.inl rfl) hg hr tk T.d45.g T.d45.k T.d45.b (by decide) ?_
        ac_rfl
        refine callP ⟨b, t, rfl, h, t1, pb, ?_⟩
        refine ja_nil ⟨[_, _], rfl, Nat.le_of_ble_eq_true rfl, ja_nil ⟨[_], rfl, Nat.le_of_ble_eq_true rfl, jb_nil ?_⟩⟩
        have e : pwr (a, b) t = (a ^ t.toNat, b ^ t.toNat) := by
          unfold pwr pwb
          rw [if_pos h, show t.natAbs = t.toNat by omega]
        have e1 := h1 (fun z => by omega)
        rw [e] at e1
        exact fin _ e1 (goodL (a ^ t.toNat, b ^ t.toNat) (pw4 a _ pa (by omega)) (pw4 b _ pb (by omega))) _ hD
      · have h : ¬ 0 ≤ t := of_decide_eq_false h
        ac_rfl
        refine ⟨fun ha => ?_, fun ha => ?_⟩
        · have ha : a ≠ 0 := by simpa using ha
          refine jb_cons ?_
          refine js_set 8 sc46.nd rfl (.inl rfl) ?_
          ac_rfl
          refine je_call (g43 T) (.inl rfl) hg hr tk T.d43.g T.d43.k T.d43.b (by decide) ?_
          ac_rfl
          refine je_call (g45 T) (.inl rfl) hg hr tk T.d45.g T.d45.k T.d45.b (by decide) ?_
          ac_rfl
          refine callP ⟨b, -t, rfl, by omega, by omega, pb, ?_⟩
          ac_rfl
          refine je_call (g45 T) (.inl rfl) hg hr tk T.d45.g T.d45.k T.d45.b (by decide) ?_
          ac_rfl
          refine callP ⟨a, -t, rfl, by omega, by omega, pa, ?_⟩
          ac_rfl
          have e : pwr (a, b) t = cut (b ^ (-t).toNat) (a ^ (-t).toNat) := by
            unfold pwr pwb
            rw [if_neg h, show t.natAbs = (-t).toNat by omega]
            have e2 : fOver (1, 1) (a, b) = cut b a := by
              unfold fOver
              rw [Int.one_mul, Int.one_mul]
            rw [e2]
            exact cut_pow ha (by rw [Int.gcd_comm]; exact fp.co) _
          have s1 := pw4 b (-t).toNat pb (by omega)
          have s2 := pw4 a (-t).toNat pa (by omega)
          have an : a ^ (-t).toNat ≠ 0 := Int.pow_ne_zero ha
          refine callP ⟨_, _, rfl, an, lt4000 s1 (by decide), lt4000 s2 (by decide), ?_⟩
          refine ja_nil ⟨[_], rfl, Nat.le_of_ble_eq_true rfl, jb_nil (jb_nil ?_)⟩
          obtain ⟨u1, u2⟩ := cut_parts (t := b ^ (-t).toNat) an
          have e1 := h1 (fun z => ha z.2)
          rw [e] at e1
          exact fin _ e1 (goodL _ (Nat.le_trans u1 s1) (Nat.le_trans u2 s2)) _ hD
        · have ha : a = 0 := by simpa using ha
          refine jb_nil ?_
          refine jb_nil ?_
          refine fin _ (h0 ⟨by omega, ha⟩) ⟨1, ?_, by decide, by show 1 + (1 + 0) + 1 ≤ 25000; decide⟩ _ hD
          simp only [CR.Good, CR.GoodAll]
          exact ⟨⟨by decide, by decide⟩, by decide, trivial⟩
    have hu : ∀ p ∈ B.L, p.1 = B.P46 → p.2 = lq "_law_two_right" := fun p hp e => by
      rcases List.mem_cons.mp hp with z | hp
      · rw [z]
      rcases List.mem_cons.mp hp with z | hp
      · rw [z] at e
        exact absurd e.symm B.n1
      rcases List.mem_cons.mp hp with z | hp
      · rw [z] at e
        exact absurd e.symm B.n2
      · cases hp
    obtain ⟨lo1, lo2, lo3⟩ := floor_ok (a := a) b0
    have ti : ∀ z : Int, z.natAbs ≤ 10 ^ 41 → TellD (.int z) := fun z hz => ⟨0, by simp only [CR.Good]; exact big571 hz (by decide), by decide, by show 1 ≤ 1600; decide⟩
    generalize hlow : a.fdiv b = low at lo1 lo2 lo3
    have lowB : low.natAbs ≤ 10 ^ 41 := by
      have : (10 : Nat) ^ 41 = 10 * 10 ^ 40 := by rw [Nat.pow_succ, Nat.mul_comm]
      omega
    have lowB1 : (low + 1).natAbs < 2 ^ 3000 := by
      have : (low + 1).natAbs ≤ 10 ^ 42 := by
        have : (10 : Nat) ^ 42 = 10 * 10 ^ 41 := by rw [Nat.pow_succ, Nat.mul_comm]
        omega
      exact lt3000 this (by decide)
    -- from the first comparison on
    have fin2 : ∀ dX : PyData, CR.Good 2 dX → wt dX ≤ 10 → ∀ D : DK, D.rt = Φ → ∀ L : PyData, L = .list [fr (fPlus (a, b) (c, d)), fr (fLess (a, b) (c, d)), fr (fTimes (a, b) (c, d)), .int (cmpI (a, b) (c, d)), fr (a, b), dX] →
        JB (bodyCx P w K mg base N46 "_law_two_right" (topS 46) T.d46.f (.ref B.c46) A outer s H E).nox ⟨B.L, (some (m, n)).map (·.1), H1, fun _ _ _ => False⟩ [some (.is (.ref m)), some (.d (fr (a, b))), some (.d (fr (c, d))), some (.int a), some (.int b), some (.int c), some (.int d), some (.d L), some (.d L), none, none] (some (m, n)) ((defBody (topS 46)).drop 6) D := fun dX gX wX D hD L hL => by
      have bdn : b * d ≠ 0 := Int.mul_ne_zero (by omega) (by omega)
      have bdB : (b * d).natAbs ≤ 10 ^ 80 := mul80 pb pd
      obtain ⟨x1, x2⟩ := add81 (mul80 pa pd) (mul80 pc pb)
      have frG : ∀ t : Int, t.natAbs ≤ 10 ^ 81 → (cut t (b * d)).1.natAbs < 10 ^ 571 ∧ (cut t (b * d)).2.natAbs < 10 ^ 571 := fun t ht => by
        obtain ⟨u1, u2⟩ := cut_parts (t := t) bdn
        exact ⟨big571 (Nat.le_trans u1 ht) (by decide), big571 (Nat.le_trans u2 bdB) (by decide)⟩
      obtain ⟨g1, g2⟩ := frG _ x1
      obtain ⟨g3, g4⟩ := frG _ x2
      obtain ⟨g5, g6⟩ := frG (a * c) (Nat.le_trans (mul80 pa pc) (Nat.pow_le_pow_right (by decide) (by decide)))
      have gc : (cmpI (a, b) (c, d)).natAbs < 10 ^ 571 := by
        have : (cmpI (a, b) (c, d)).natAbs ≤ 10 ^ 1 := by
          unfold cmpI
          split <;> split <;> decide
        exact big571 this (by decide)
      have gL : CR.Good 3 L := by
        rw [hL]
        simp only [fr, CR.Good, CR.GoodAll]
        exact ⟨⟨g1, g2, trivial⟩, ⟨g3, g4, trivial⟩, ⟨g5, g6, trivial⟩, gc, ⟨big571 pa (by decide), big571 pb (by decide), trivial⟩, gX, trivial⟩
      have wL : wt L ≤ 25000 := by
        rw [hL]
        simp only [fr, wt, wtAll]
        omega
      refine jb_cons ?_
      ac_rfl
      refine jt_val ?_
      refine je_call (g40 T hS) (.inl rfl) hg hr tk T.d40.g T.d40.k T.d40.b (by decide) ?_
      ac_rfl
      refine callP ⟨3, _, rfl, gL, by decide, wL, true, rfl, fun z => (by cases z), fun _ => ?_⟩
      ac_rfl
      refine js_set 9 sc46.nd rfl (.inl rfl) ?_
      refine je_callK (g35 T hS) (.inl rfl) hg hr tk T.d35.g T.d35.k T.d35.kb (by decide) ?_
      ac_rfl
      refine callP ⟨_, rfl, fp.tell, fr_len, fun p e f => ?_, fun z => fp.isF z⟩
      obtain rfl : p = (a, b) := fr_inj e.symm
      rw [hlow]
      ac_rfl
      refine jt_val ?_
      refine je_call (g40 T hS) (.inl rfl) hg hr tk T.d40.g T.d40.k T.d40.b (by decide) ?_
      ac_rfl
      refine je_intOf T.bint ?_
      ac_rfl
      refine callP ⟨0, _, rfl, by simp only [CR.Good]; exact big571 lowB (by decide), by decide, by show 1 ≤ 25000; decide, true, rfl, fun _ => ?_, fun z => by cases z⟩
      ac_rfl
      refine jt_chain op_le op_lt ?_
      refine je_mulW ?_
      ac_rfl
      refine ⟨szW (lt3000 lowB (by decide)) (lt3000 pb (by decide)), ?_⟩
      ac_rfl
      refine ⟨fun _ => ?_, fun z => absurd lo1 (of_decide_eq_false z)⟩
      refine je_mulW (je_add ?_)
      ac_rfl
      refine ⟨szW lowB1 (lt3000 pb (by decide)), ?_⟩
      refine ⟨_, rfl, ?_⟩
      rw [decide_eq_true lo2]
      refine ⟨fun z => (by cases z), fun _ => ?_⟩
      ac_rfl
      refine js_set 10 sc46.nd rfl (.inr rfl) ?_
      ac_rfl
      refine je_call (g38 T) (.inl rfl) hg hr tk T.d38.g T.d38.k T.d38.b (by decide) ?_
      ac_rfl
      refine callM ⟨m, n, _, rfl, rfl, by omega, by decide, by decide, fun r r0 r1 => ?_⟩
      ac_rfl
      generalize ht : r - 4 = t
      refine js_par 7 8 rfl sc46.nd rfl rfl (by decide) rfl rfl (by rfl) ?_
      refine ja_cons ?_
      refine je_heard (k := 6) T.d42.g T.d42.F sc42 T.d42.b rfl (.inl rfl) hg hr (heardG' T _ rfl rfl rfl) T.hx ?_
      refine je_lam (fun z => by cases z) (pe_lam tb rfl List.mem_cons_self (fun p hp e => hu p hp e) (cloS_by (sc := defScope (topS 46)) (by decide +kernel)) (fun _ _ _ _ _ => rfl)) ?_
      refine ⟨_, _, _, rfl, cloS_by (sc := defScope (topS 46)) (by decide +kernel), ?_⟩
      intro A' outer' s' H' HH E' f' c' hr' hg' tk'
      refine je_callK (g31 T hS) (.inl rfl) hg' hr' tk' T.d31.g T.d31.k T.d31.kb (by decide) ?_
      ac_rfl
      have ft : isFrom (.int t) (-60) 60 = true := by
        show (decide (-60 ≤ t) && decide (t ≤ 60)) = true
        rw [Bool.and_eq_true, decide_eq_true_eq, decide_eq_true_eq]
        omega
      refine callP ⟨_, .int t, rfl, fp.tell, ti t (Nat.le_trans (show t.natAbs ≤ 10 by omega) (by decide)), fr_len, fun z => fp.isF z, fun _ z => ?_, fun p' t' e1 e2 f _ _ => ?_⟩
      · rw [ft] at z
        cases z
      · obtain rfl : p' = (a, b) := fr_inj e1.symm
        cases e2
        refine ⟨fun z => ⟨⟨T.CE, "empty", none⟩, List.mem_cons_of_mem _ (List.mem_cons_of_mem _ List.mem_cons_self), rfl, ?_⟩, fun z => ⟨10 ^ 40, by decide, pa, pb, tenB, ?_, _, rfl, ?_⟩⟩
        · ac_rfl
          exact ⟨_, _, rfl, last t none none _ (by omega) (by omega) (fun _ => rfl) (fun y => absurd z y) _ _ hD⟩
        · rw [← Nat.pow_mul]
          exact lt3000 (Nat.pow_le_pow_right (by decide) (show 40 * t.natAbs ≤ 160 by omega)) (by decide)
        · ac_rfl
          exact ⟨_, _, rfl, last t none none _ (by omega) (by omega) (fun y => absurd y z) (fun _ => rfl) _ _ hD⟩
    have bdn : b * d ≠ 0 := Int.mul_ne_zero (by omega) (by omega)
    have bdB : (b * d).natAbs ≤ 10 ^ 80 := mul80 pb pd
    obtain ⟨x1, x2⟩ := add81 (mul80 pa pd) (mul80 pc pb)
    have mid : ∀ dX : PyData, (c = 0 → dX = .tuple [.str "empty", .int 0]) → (c ≠ 0 → dX = .list [fr (fOver (a, b) (c, d))]) → ∀ D : DK, D.rt = Φ →
        JB (bodyCx P w K mg base N46 "_law_two_right" (topS 46) T.d46.f (.ref B.c46) A outer s H E).nox ⟨B.L, (some (m, n)).map (·.1), H1, fun _ _ _ => False⟩ [some (.is (.ref m)), some (.d (fr (a, b))), some (.d (fr (c, d))), some (.int a), some (.int b), some (.int c), some (.int d), some (.d (.list [fr (fPlus (a, b) (c, d)), fr (fLess (a, b) (c, d)), fr (fTimes (a, b) (c, d)), .int (cmpI (a, b) (c, d)), fr (a, b), dX])), none, none, none] (some (m, n)) ((defBody (topS 46)).drop 4) D := fun dX h0 h1 D hD => by
      refine jb_cons ?_
      refine js_set 8 sc46.nd rfl (.inl rfl) ?_
      ac_rfl
      refine je_call (g43 T) (.inl rfl) hg hr tk T.d43.g T.d43.k T.d43.b (by decide) ?_
      refine ja_cons (je_add (je_mulW ?_))
      ac_rfl
      refine ⟨W pa pd, ?_⟩
      ac_rfl
      refine je_mulW ?_
      ac_rfl
      refine ⟨W pc pb, ?_⟩
      ac_rfl
      refine je_mulW ?_
      ac_rfl
      refine ⟨W pb pd, ?_⟩
      ac_rfl
      refine callP ⟨_, _, rfl, bdn, lt4000 x1 (by decide), lt4000 bdB (by decide), ?_⟩
      ac_rfl
      refine je_call (g43 T) (.inl rfl) hg hr tk T.d43.g T.d43.k T.d43.b (by decide) ?_
      ac_rfl
      refine je_mulW ?_
      ac_rfl
      refine ⟨W pa pd, ?_⟩
      ac_rfl
      refine je_mulW ?_
      ac_rfl
      refine ⟨W pc pb, ?_⟩
      ac_rfl
      refine je_mulW ?_
      ac_rfl
      refine ⟨W pb pd, ?_⟩
      ac_rfl
      refine callP ⟨_, _, rfl, bdn, lt4000 x2 (by decide), lt4000 bdB (by decide), ?_⟩
      ac_rfl
      refine je_call (g43 T) (.inl rfl) hg hr tk T.d43.g T.d43.k T.d43.b (by decide) ?_
      ac_rfl
      refine je_mulW ?_
      ac_rfl
      refine ⟨W pa pc, ?_⟩
      ac_rfl
      refine je_mulW ?_
      ac_rfl
      refine ⟨W pb pd, ?_⟩
      ac_rfl
      refine callP ⟨_, _, rfl, bdn, lt4000 (mul80 pa pc) (by decide), lt4000 bdB (by decide), ?_⟩
      ac_rfl
      refine ⟨[_, _, _], rfl, Nat.le_of_ble_eq_true rfl, ?_⟩
      refine jb_cons ?_
      refine js_set 8 sc46.nd rfl (.inl rfl) (je_cat ?_)
      refine je_var 8 rfl (.inl rfl) rfl ⟨_, rfl, je_lst (ja_cons (je_subBB (je_gt (je_mulW ?_))))⟩
      ac_rfl
      refine ⟨W pa pd, ?_⟩
      refine ⟨_, rfl, je_mulW ?_⟩
      ac_rfl
      refine ⟨W pc pb, ?_⟩
      refine ⟨_, rfl, _, rfl, je_lt (je_mulW ?_)⟩
      ac_rfl
      refine ⟨W pa pd, ?_⟩
      refine ⟨_, rfl, je_mulW ?_⟩
      ac_rfl
      refine ⟨W pc pb, ?_⟩
      ac_rfl
      refine ⟨fun h => ?_, fun h => ?_⟩
      · have h : c = 0 := of_decide_eq_true h
        obtain rfl := h0 h
        refine je_tup (ja_cons (je_str (ja_cons (je_int (ja_nil ⟨[_, _], rfl, Nat.le_of_ble_eq_true rfl, ?_⟩)))))
        refine ja_nil ⟨[_, _, _], rfl, Nat.le_of_ble_eq_true rfl, _, rfl, Nat.le_of_ble_eq_true rfl, ?_⟩
        refine fin2 _ ?_ (by show 1 + (1 + 0) + 1 ≤ 10; decide) _ hD _ rfl
        simp only [CR.Good, CR.GoodAll]
        exact ⟨⟨by decide, by decide⟩, by decide, trivial⟩
      · have h : c ≠ 0 := of_decide_eq_false h
        obtain rfl := h1 h
        refine je_lst (ja_cons ?_)
        refine je_call (g43 T) (.inl rfl) hg hr tk T.d43.g T.d43.k T.d43.b (by decide) ?_
        ac_rfl
        refine je_mulW ?_
        ac_rfl
        refine ⟨W pa pd, ?_⟩
        ac_rfl
        refine je_mulW ?_
        ac_rfl
        refine ⟨W pb pc, ?_⟩
        refine ja_nil ?_
        have bc : b * c ≠ 0 := Int.mul_ne_zero (by omega) h
        refine callP ⟨_, _, rfl, bc, lt4000 (mul80 pa pd) (by decide), lt4000 (mul80 pb pc) (by decide), ?_⟩
        refine ja_nil ⟨[_], rfl, Nat.le_of_ble_eq_true rfl, ?_⟩
        refine ja_nil ⟨[_, _, _], rfl, Nat.le_of_ble_eq_true rfl, _, rfl, Nat.le_of_ble_eq_true rfl, ?_⟩
        refine fin2 _ ?_ (by show 1 + (1 + 0) + 1 + 0 + 1 ≤ 10; decide) _ hD _ rfl
        obtain ⟨u1, u2⟩ := cut_parts (t := a * d) bc
        simp only [fr, fOver, CR.Good, CR.GoodAll]
        exact ⟨⟨big571 (Nat.le_trans u1 (mul80 pa pd)) (by decide), big571 (Nat.le_trans u2 (mul80 pb pc)) (by decide), trivial⟩, trivial⟩
    refine jb_cons ?_
    refine js_four 3 4 5 6 rfl sc46.nd rfl rfl rfl rfl (.inl rfl) (.inl rfl) (.inl rfl) (.inl rfl) ?_
    refine ja_cons (je_var 1 rfl (.inr (.inl rfl)) rfl (ja_cons (je_var 2 rfl (.inr (.inl rfl)) rfl (ja_nil ⟨.int a, .int b, .int c, .int d, rfl, ?_⟩))))
    refine jb_cons ?_
    refine js_set 7 sc46.nd rfl (.inl rfl) ?_
    ac_rfl
    refine je_callK (g27 T hS) (.inl rfl) hg hr tk T.d27.g T.d27.k T.d27.kb (by decide) ?_
    ac_rfl
    refine callP ⟨_, _, rfl, fp.tell, fq.tell, fr_len, fr_len, fun z => fp.isF z, fun _ z => fq.isF z, fun p q e1 e2 f1 f2 => ?_⟩
    obtain rfl := fr_inj e1.symm
    obtain rfl := fr_inj e2.symm
    ac_rfl
    refine je_callK (g28 T hS) (.inl rfl) hg hr tk T.d28.g T.d28.k T.d28.kb (by decide) ?_
    ac_rfl
    refine callP ⟨_, _, rfl, fp.tell, fq.tell, fr_len, fr_len, fun z => fp.isF z, fun _ z => fq.isF z, fun p q e1 e2 f1 f2 => ?_⟩
    obtain rfl := fr_inj e1.symm
    obtain rfl := fr_inj e2.symm
    ac_rfl
    refine js_set 7 sc46.nd rfl (.inl rfl) (je_cat ?_)
    ac_rfl
    refine je_callK (g29 T hS) (.inl rfl) hg hr tk T.d29.g T.d29.k T.d29.kb (by decide) ?_
    ac_rfl
    refine callP ⟨_, _, rfl, fp.tell, fq.tell, fr_len, fr_len, fun z => fp.isF z, fun _ z => fq.isF z, fun p q e1 e2 f1 f2 => ?_⟩
    obtain rfl := fr_inj e1.symm
    obtain rfl := fr_inj e2.symm
    ac_rfl
    refine je_callK (g33 T hS) (.inl rfl) hg hr tk T.d33.g T.d33.k T.d33.kb (by decide) ?_
    ac_rfl
    refine callP ⟨_, _, rfl, fp.tell, fq.tell, fr_len, fr_len, fun z => fp.isF z, fun _ z => fq.isF z, fun p q e1 e2 f1 f2 => ?_⟩
    obtain rfl := fr_inj e1.symm
    obtain rfl := fr_inj e2.symm
    ac_rfl
    refine js_set 7 sc46.nd rfl (.inl rfl) (je_cat ?_)
    ac_rfl
    refine je_callK (g18 T hS) (.inl rfl) hg hr tk T.d18.g T.d18.k T.d18.kb (by decide) ?_
    ac_rfl
    refine callP ⟨_, rfl, fp.tell, fr_len, fun _ => ?_, fun z => fp.isF z⟩
    ac_rfl
    refine je_heard (k := 6) T.d42.g T.d42.F sc42 T.d42.b rfl (.inl rfl) hg hr (heardG' T _ rfl rfl rfl) T.hx ?_
    refine je_lam (fun z => by cases z) (pe_lam tb rfl List.mem_cons_self (fun p hp e => hu p hp e) (cloS_by (sc := defScope (topS 46)) (by decide +kernel)) (fun _ _ _ _ _ => rfl)) ?_
    refine ⟨_, _, _, rfl, cloS_by (sc := defScope (topS 46)) (by decide +kernel), ?_⟩
    intro A' outer' s' H' HH E' f' c' hr' hg' tk'
    refine je_callK (g30 T hS) (.inl rfl) hg' hr' tk' T.d30.g T.d30.k T.d30.kb (by decide) ?_
    ac_rfl
    refine callP ⟨_, _, rfl, fp.tell, fq.tell, fr_len, fr_len, fun z => fp.isF z, fun _ z => fq.isF z, fun p q e1 e2 f1 f2 => ?_⟩
    obtain rfl := fr_inj e1.symm
    obtain rfl := fr_inj e2.symm
    refine ⟨fun z => ⟨⟨T.CE, "empty", none⟩, List.mem_cons_of_mem _ (List.mem_cons_of_mem _ List.mem_cons_self), rfl, ?_⟩, fun z => ⟨_, rfl, ?_⟩⟩
    · refine ja_nil ⟨[_, _], rfl, Nat.le_of_ble_eq_true rfl, _, rfl, Nat.le_of_ble_eq_true rfl, ?_⟩
      exact mid _ (fun _ => rfl) (fun y => absurd z y) _ rfl
    · refine ja_nil ⟨[_, _], rfl, Nat.le_of_ble_eq_true rfl, _, rfl, Nat.le_of_ble_eq_true rfl, ?_⟩
      exact mid _ (fun y => absurd y z) (fun _ => rfl) _ rfl
end
end K01

namespace K01
open PySem PySem.Spec PySem.W PySem.SeqAt PyProof.Rows L2 LamX CR
local macro_rules | `(tactic| ac_rfl) => `(tactic| repeat first
  | refine jb_cons ?_
  | refine jb_nil ?_
  | refine js_ret ?_
  | refine js_if ?_
  | refine js_expr ?_
  | refine ja_cons ?_
  | refine ja_nil ?_
  | refine jk_cons ?_
  | refine jk_nil ?_
  | refine je_int ?_
  | refine je_bl ?_
  | refine je_str ?_
  | refine je_non ?_
  | ((refine je_nm ?_); first
      | refine je_var 0 rfl (.inl rfl) rfl ?_
      | refine je_var 1 rfl (.inl rfl) rfl ?_
      | refine je_var 2 rfl (.inl rfl) rfl ?_
      | refine je_var 3 rfl (.inl rfl) rfl ?_
      | refine je_var 4 rfl (.inl rfl) rfl ?_
      | refine je_var 5 rfl (.inl rfl) rfl ?_
      | refine je_var 6 rfl (.inl rfl) rfl ?_
      | refine je_var 7 rfl (.inl rfl) rfl ?_
      | refine je_var 8 rfl (.inl rfl) rfl ?_
      | refine je_var 9 rfl (.inl rfl) rfl ?_
      | refine je_var 10 rfl (.inl rfl) rfl ?_
      | refine je_var 11 rfl (.inl rfl) rfl ?_
      | refine je_var 0 rfl (.inr (.inl rfl)) rfl ?_
      | refine je_var 1 rfl (.inr (.inl rfl)) rfl ?_
      | refine je_var 2 rfl (.inr (.inl rfl)) rfl ?_
      | refine je_var 3 rfl (.inr (.inl rfl)) rfl ?_
      | refine je_var 4 rfl (.inr (.inl rfl)) rfl ?_
      | refine je_var 5 rfl (.inr (.inl rfl)) rfl ?_
      | refine je_var 6 rfl (.inr (.inl rfl)) rfl ?_
      | refine je_var 7 rfl (.inr (.inl rfl)) rfl ?_
      | refine je_var 8 rfl (.inr (.inl rfl)) rfl ?_
      | refine je_var 9 rfl (.inr (.inl rfl)) rfl ?_
      | refine je_var 10 rfl (.inr (.inl rfl)) rfl ?_
      | refine je_var 11 rfl (.inr (.inl rfl)) rfl ?_
      | refine je_var 0 rfl (.inr (.inr rfl)) rfl ?_
      | refine je_var 1 rfl (.inr (.inr rfl)) rfl ?_
      | refine je_var 2 rfl (.inr (.inr rfl)) rfl ?_
      | refine je_var 3 rfl (.inr (.inr rfl)) rfl ?_
      | refine je_var 4 rfl (.inr (.inr rfl)) rfl ?_
      | refine je_var 5 rfl (.inr (.inr rfl)) rfl ?_
      | refine je_var 6 rfl (.inr (.inr rfl)) rfl ?_
      | refine je_var 7 rfl (.inr (.inr rfl)) rfl ?_
      | refine je_var 8 rfl (.inr (.inr rfl)) rfl ?_
      | refine je_var 9 rfl (.inr (.inr rfl)) rfl ?_
      | refine je_var 10 rfl (.inr (.inr rfl)) rfl ?_
      | refine je_var 11 rfl (.inr (.inr rfl)) rfl ?_)
  | refine je_sub ?_
  | refine je_lt ?_
  | refine je_le ?_
  | refine je_gt ?_
  | refine je_ge ?_
  | refine je_eq ?_
  | refine je_ne ?_
  | refine jt_lt ?_
  | refine jt_le ?_
  | refine jt_gt ?_
  | refine jt_ge ?_
  | refine jt_eq ?_
  | refine jt_ne ?_
  | refine jt_not ?_
  | refine jt_w (jw_and ?_)
  | refine jt_w (jw_or ?_)
  | refine jw_and ?_
  | refine jw_or ?_
  | refine jw_and1 ?_
  | refine jw_or1 ?_
  | refine je_and ?_
  | refine je_or ?_
  | refine je_one ?_
  | refine je_not ?_
  | refine je_neg ?_
  | refine je_tup ?_
  | refine je_lst ?_
  | refine je_ifExp ?_
  | refine je_ixT (i := 0) ?_
  | refine je_ixT (i := 1) ?_
  | refine ⟨_, _, rfl, rfl, ?_⟩
  | refine ⟨[_], rfl, Nat.le_of_ble_eq_true rfl, ?_⟩
  | refine ⟨[_, _], rfl, Nat.le_of_ble_eq_true rfl, ?_⟩
  | refine ⟨_, rfl, ?_⟩)

def c48 : Con := fun xs b Φ _ => xs = [.d (fr (3, 7))] ∧ b = none ∧ Φ (.bl true) none
def c49 (K : PySem.W.Frag) : Con := fun xs b Φ _ => ∃ (a : Addr) (ns : List Int), xs = [.st (scrStb K a ns)] ∧ ns.length ≤ 1000 ∧ ∀ b', Φ (.bl true) b'
abbrev N49 : List Str := ["script", "turn", "m", "again", "near", "far"]
section
variable {P : Program} {w : World} {K : PySem.W.Frag} {mg : Str → Option Value} {base : Heap} (T : Txt P K mg) (B : Tb T)
theorem sc49 : FnScope N49 ["script"] (defScope (topS 49)) := ⟨rfl, rfl, rfl, by decide +kernel, rfl, by decide +kernel, by decide +kernel⟩
theorem g49 {f : Addr} {fd : FuncData} (F : Fun K "law" "law" (topS 49) f fd) (hS : ∃ mm, base.Ns sysModules mm) (tb46 : TabB base mg B.c46 B.P46) (tb47 : TabB base mg B.c47 B.P47) (h48 : FnG P w K mg base 9 T.d48.f T.d48.fd ["good"] (spF K B.L c48)) : FnG P w K mg base 10 f fd ["script"] (spF K B.L (c49 K)) := by
  refine okD0 F sc49 (fun xs b Φ Er h => ?_) (fun cdv A outer s H H1 E xs b Φ Er hr hg tk h => ?_)
  · obtain ⟨a, ns, rfl, _⟩ := h
    rfl
  · obtain ⟨a, ns, rfl, hn, qq⟩ := h
    have mn : (if (2 : Int) < (ns.length : Int) then (2 : Int) else (ns.length : Int)) ≤ 2 ∧ 0 ≤ (if (2 : Int) < (ns.length : Int) then (2 : Int) else (ns.length : Int)) := by
      split <;> omega
    refine jb_cons ?_
    refine js_forR 1 .never rfl T.brng sc49.nd rfl (.inl rfl) (je_add ?_)
    refine je_int ⟨_, rfl, je_min rfl T.bmin (je_lenS (a := a) (ns := ns) T.blen ?_)⟩
    refine je_var 0 rfl (.inl rfl) rfl ⟨rfl, _, rfl, je_int ⟨_, rfl, _, rfl, ?_⟩⟩
    generalize hcn : (if (2 : Int) < (ns.length : Int) then (2 : Int) else (ns.length : Int)) = cn at mn
    refine ⟨_, rfl, by omega, by omega, fun i ρ b' => ∃ y1 y2 y3 y4 y5, ρ = [some (.st (scrStb K a ns)), y1, y2, y3, y4, y5], ⟨none, none, none, none, none, rfl⟩, ?_, ?_⟩
    · rintro i ρ b' hi ⟨y1, y2, y3, y4, y5, rfl⟩
      refine jb_cons ?_
      refine js_set 2 sc49.nd rfl (.inl rfl) ?_
      refine je_call (g37 T) (.inl rfl) hg hr tk T.d37.g T.d37.k T.d37.b (by decide) ?_
      ac_rfl
      refine callP ⟨a, ns, i, rfl, hn, by omega, by omega, fun m => ?_⟩
      ac_rfl
      refine js_forR 3 .never rfl T.brng sc49.nd rfl (.inl rfl) ?_
      ac_rfl
      refine ⟨by decide, by decide, fun j ρ b2 => (∃ y3 y4 y5, ρ = [some (.st (scrStb K a ns)), some (.int i), some (.is (.ref m)), y3, y4, y5]) ∧ ∃ n : Nat, n ≤ 20 * j ∧ b2 = some (m, n), ⟨⟨_, _, _, rfl⟩, 0, Nat.le_refl _, rfl⟩, ?_, ?_⟩
      · rintro j ρ b2 hj ⟨⟨y3, y4, y5, rfl⟩, n, hn, rfl⟩
        refine jb_cons ?_
        refine js_par 4 5 rfl sc49.nd rfl rfl (by decide) rfl rfl (by rfl) ?_
        ac_rfl
        refine je_call (g44 T) (.inl rfl) hg hr tk T.d44.g T.d44.k T.d44.b (by decide) ?_
        ac_rfl
        refine callM ⟨m, n, rfl, rfl, by omega, fun p n1 h1 fp => ?_⟩
        ac_rfl
        refine je_call (g44 T) (.inl rfl) hg hr tk T.d44.g T.d44.k T.d44.b (by decide) ?_
        ac_rfl
        refine callM ⟨m, n1, rfl, rfl, by omega, fun q n2 h2 fq => ?_⟩
        ac_rfl
        refine ⟨_, _, rfl, ?_⟩
        ac_rfl
        refine jt_val ?_
        refine je_call (g46 T B hS tb46) (.inr rfl) hg hr tk T.d46.g T.d46.k T.d46.b (by decide) ?_
        ac_rfl
        refine callM ⟨m, n2, p, q, rfl, rfl, by omega, fp, fq, true, rfl, fun _ => ?_, fun z => by cases z⟩
        ac_rfl
        refine jt_val ?_
        refine je_call (g46 T B hS tb46) (.inr rfl) hg hr tk T.d46.g T.d46.k T.d46.b (by decide) ?_
        ac_rfl
        refine callM ⟨m, n2 + 1, q, p, rfl, rfl, by omega, fq, fp, true, rfl, fun _ => ?_, fun z => by cases z⟩
        ac_rfl
        refine jt_val ?_
        refine je_call (g46 T B hS tb46) (.inr rfl) hg hr tk T.d46.g T.d46.k T.d46.b (by decide) ?_
        ac_rfl
        refine callM ⟨m, n2 + 2, p, p, rfl, rfl, by omega, fp, fp, true, rfl, fun z => (by cases z), fun _ => ?_⟩
        ac_rfl
        refine jt_val ?_
        refine je_call (g47 T B hS tb47) (.inr rfl) hg hr tk T.d47.g T.d47.k T.d47.b (by decide) ?_
        ac_rfl
        refine callM ⟨m, n2 + 3, rfl, rfl, by omega, true, rfl, fun z => (by cases z), fun _ => ?_⟩
        ac_rfl
        exact ⟨⟨_, _, _, rfl⟩, n2 + 5, by omega, rfl⟩
      · rintro ρ b2 ⟨⟨y3, y4, y5, rfl⟩, n, hn, rfl⟩
        ac_rfl
        refine jt_val ?_
        refine je_call h48 (.inr rfl) hg hr tk T.d48.g T.d48.k T.d48.b (by decide) ?_
        ac_rfl
        refine callP ⟨rfl, rfl, true, rfl, fun z => (by cases z), fun _ => ?_⟩
        ac_rfl
        exact ⟨_, _, _, _, _, rfl⟩
    · rintro ρ b' ⟨y1, y2, y3, y4, y5, rfl⟩
      ac_rfl
      exact qq _
end
end K01

namespace K01
open PySem PySem.Spec PySem.W PySem.SeqAt PyProof.Rows L2 LamX CR
local macro_rules | `(tactic| ac_rfl) => `(tactic| repeat first
  | refine jb_cons ?_
  | refine jb_nil ?_
  | refine js_ret ?_
  | refine js_if ?_
  | refine js_expr ?_
  | refine ja_cons ?_
  | refine ja_nil ?_
  | refine jk_cons ?_
  | refine jk_nil ?_
  | refine je_int ?_
  | refine je_bl ?_
  | refine je_str ?_
  | refine je_non ?_
  | ((refine je_nm ?_); first
      | refine je_var 0 rfl (.inl rfl) rfl ?_
      | refine je_var 1 rfl (.inl rfl) rfl ?_
      | refine je_var 2 rfl (.inl rfl) rfl ?_
      | refine je_var 3 rfl (.inl rfl) rfl ?_
      | refine je_var 4 rfl (.inl rfl) rfl ?_
      | refine je_var 5 rfl (.inl rfl) rfl ?_
      | refine je_var 6 rfl (.inl rfl) rfl ?_
      | refine je_var 7 rfl (.inl rfl) rfl ?_
      | refine je_var 8 rfl (.inl rfl) rfl ?_
      | refine je_var 9 rfl (.inl rfl) rfl ?_
      | refine je_var 10 rfl (.inl rfl) rfl ?_
      | refine je_var 11 rfl (.inl rfl) rfl ?_
      | refine je_var 0 rfl (.inr (.inl rfl)) rfl ?_
      | refine je_var 1 rfl (.inr (.inl rfl)) rfl ?_
      | refine je_var 2 rfl (.inr (.inl rfl)) rfl ?_
      | refine je_var 3 rfl (.inr (.inl rfl)) rfl ?_
      | refine je_var 4 rfl (.inr (.inl rfl)) rfl ?_
      | refine je_var 5 rfl (.inr (.inl rfl)) rfl ?_
      | refine je_var 6 rfl (.inr (.inl rfl)) rfl ?_
      | refine je_var 7 rfl (.inr (.inl rfl)) rfl ?_
      | refine je_var 8 rfl (.inr (.inl rfl)) rfl ?_
      | refine je_var 9 rfl (.inr (.inl rfl)) rfl ?_
      | refine je_var 10 rfl (.inr (.inl rfl)) rfl ?_
      | refine je_var 11 rfl (.inr (.inl rfl)) rfl ?_
      | refine je_var 0 rfl (.inr (.inr rfl)) rfl ?_
      | refine je_var 1 rfl (.inr (.inr rfl)) rfl ?_
      | refine je_var 2 rfl (.inr (.inr rfl)) rfl ?_
      | refine je_var 3 rfl (.inr (.inr rfl)) rfl ?_
      | refine je_var 4 rfl (.inr (.inr rfl)) rfl ?_
      | refine je_var 5 rfl (.inr (.inr rfl)) rfl ?_
      | refine je_var 6 rfl (.inr (.inr rfl)) rfl ?_
      | refine je_var 7 rfl (.inr (.inr rfl)) rfl ?_
      | refine je_var 8 rfl (.inr (.inr rfl)) rfl ?_
      | refine je_var 9 rfl (.inr (.inr rfl)) rfl ?_
      | refine je_var 10 rfl (.inr (.inr rfl)) rfl ?_
      | refine je_var 11 rfl (.inr (.inr rfl)) rfl ?_)
  | refine je_sub ?_
  | refine je_lt ?_
  | refine je_le ?_
  | refine je_gt ?_
  | refine je_ge ?_
  | refine je_eq ?_
  | refine je_ne ?_
  | refine jt_lt ?_
  | refine jt_le ?_
  | refine jt_gt ?_
  | refine jt_ge ?_
  | refine jt_eq ?_
  | refine jt_ne ?_
  | refine jt_not ?_
  | refine jt_w (jw_and ?_)
  | refine jt_w (jw_or ?_)
  | refine jw_and ?_
  | refine jw_or ?_
  | refine jw_and1 ?_
  | refine jw_or1 ?_
  | refine je_and ?_
  | refine je_or ?_
  | refine je_one ?_
  | refine je_not ?_
  | refine je_neg ?_
  | refine je_tup ?_
  | refine je_lst ?_
  | refine je_ifExp ?_
  | refine je_ixT (i := 0) ?_
  | refine je_ixT (i := 1) ?_
  | refine ⟨_, _, rfl, rfl, ?_⟩
  | refine ⟨[_], rfl, Nat.le_of_ble_eq_true rfl, ?_⟩
  | refine ⟨[_, _], rfl, Nat.le_of_ble_eq_true rfl, ?_⟩
  | refine ⟨[_, _, _], rfl, Nat.le_of_ble_eq_true rfl, ?_⟩
  | refine ⟨[_, _, _, _], rfl, Nat.le_of_ble_eq_true rfl, ?_⟩
  | refine ⟨_, rfl, ?_⟩)

/-- text * int -/
theorem op_mul_str : OpR X (binaryOp .Mult) fun x y H Q => ∃ (z : Str) (n : Int), x = .str z ∧ y = .int n ∧ 2 ≤ n ∧ n ≤ 1000 ∧ z.length = 1 ∧ Q (.str ⟨(List.replicate n.toNat z.cps).foldl (· ++ ·) #[]⟩) H := by
  intro pins s σ H x y v u Q I rx ry h
  obtain ⟨z, n, rfl, rfl, n1, n2, hz, q⟩ := h
  obtain ⟨t, rfl⟩ := rx
  obtain ⟨t', rfl⟩ := ry
  have len : ∀ m : Nat, ∀ a0 : Array Nat, ((List.replicate m z.cps).foldl (· ++ ·) a0).size = a0.size + m * z.cps.size := fun m => by
    induction m with
    | zero => intro a0; simp
    | succ m ih =>
      intro a0
      rw [List.replicate_succ, List.foldl_cons, ih, Array.size_append, Nat.succ_mul]
      omega
  have l1 := len n.toNat #[]
  have hz' : z.cps.size = 1 := hz
  rw [hz'] at l1
  refine PySem.P.mul_str ?_ (fun _ _ => ?_) (fun _ _ => ?_) ?_
  · rw [Bool.or_eq_false_iff, decide_eq_false_iff_not, decide_eq_false_iff_not]
    omega
  · rw [hz]
    have : (1 : Int) ≤ (2 ^ 63 - 1) / n := by
      refine Int.le_ediv_of_mul_le (by omega) ?_
      omega
    show ¬ ((1 : Int) > (2 ^ 63 - 1) / n)
    omega
  · rw [hz]
    unfold Builtin.Str.tooLong
    have : 1000 ≤ sizeLine := by decide
    first | (rw [decide_eq_false_iff_not]; omega) | (simp; omega)
  · rw [if_neg (by omega), if_neg (by rw [hz]; simp; omega)]
    refine ⟨?_, .str _, H, I.tok _, ⟨_, rfl⟩, q⟩
    show ((List.replicate n.toNat z.cps).foldl (· ++ ·) #[]).size ≤ sizeLine
    rw [l1]
    have : 1000 ≤ sizeLine := by decide
    simp
    omega
theorem je_mulStr {X : Cx} {w : Wd} {ρ : Rho} {b : Bd} {e1 e2 : Expr} {pos : Pos} {Φ : Sl → Bd → Prop} (h : JE X w ρ b e1 fun x b1 => ∃ z, x = .d (.str z) ∧ JE X w ρ b1 e2 fun y b2 => ∃ n : Int, y = .int n ∧ 2 ≤ n ∧ n ≤ 1000 ∧ z.length = 1 ∧ Φ (.d (.str ⟨(List.replicate n.toNat z.cps).foldl (· ++ ·) #[]⟩)) b2) : JE X w ρ b (.BinOp e1 .Mult e2 pos) Φ :=
  je_op op_mul_str (h.mono fun x b1 ⟨z, ex, q⟩ => q.mono fun y b2 ⟨n, ey, h1, h2, h3, q⟩ v u H Q o r1 r2 c => by
    subst ex
    subst ey
    cases r1
    cases r2
    exact ⟨z, n, rfl, rfl, h1, h2, h3, c _ (.d (.str _)) b2 H (Ex2.refl H) o (.str _) q⟩)
theorem je_intS {X : Cx} {w : Wd} {ρ : Rho} {b : Bd} {e : Expr} {p pos : Pos} {Φ : Sl → Bd → Prop} (hm : X.mg "int" = none) (h : JE X w ρ b e fun x b1 => ∃ s n, x = .d (.str s) ∧ PySem.intText? s = some n ∧ s.length ≤ 640 ∧ Φ (.int n) b1) (hg : Gl X "int" := by rfl) (he : starEach [e] X.env = (false, eval e X.env) :: starEach [] X.env := by rfl) (hpl : (backTo pos (starEach [] X.env)).any (·.1) = false := by rfl) : JE X w ρ b (.Call (.Name "int" p) [e] [] pos) Φ :=
  je_callTy call_int_str hm (by decide +kernel) (ja_one (h.mono fun x b1 ⟨s, n, ex, h1, h2, q⟩ vs H Q o r c => by
    subst ex
    cases r with
    | cons r1 r2 =>
    cases r2
    cases r1
    exact ⟨s, n, rfl, h1, h2, c _ (.int n) b1 H (Ex2.refl H) o (.int _) q⟩) he) hg (by decide) (by decide) he hpl
theorem int7 : PySem.intText? ⟨(List.replicate (401 : Int).toNat ("7" : Str).cps).foldl (· ++ ·) #[]⟩ = some (7 * ((10 ^ 401 - 1) / 9)) := by decide +kernel
/-- what is refused -/
def odds : List PyData := [.none, .tuple [.int 1], .tuple [.int 1, .int 1, .int 1], .list [.int 1, .int 2], .tuple [.int 2, .int 4], .tuple [.int 1, .int 0], .tuple [.int 1, .int (-2)], .tuple [.int 0, .int 2], .tuple [.bool true, .int 1], .tuple [.int 1, .bool true], .tuple [.str "1", .int 2], .int 1, .tuple [.int (10 ^ Int.toNat 40 + 1), .int 1],
  .tuple [.int 1, .int (10 ^ Int.toNat 40 + 1)], .tuple [.none, .int 1], .tuple [.list [.int 1], .int 2], .dict [], .str "12", .tuple [.int 0, .int 0], .tuple [.int (7 * ((10 ^ 401 - 1) / 9)), .int 1]]
structure Odd (d : PyData) : Prop where
  no : isFr d = false
  good : CR.Good 2 d
  w : wt d ≤ 10
  len : ∀ ds, d = .tuple ds → ds.length < 1000
theorem odds_ok : ∀ d ∈ odds, Odd d := by
  intro d hd
  unfold odds at hd
  simp only [List.mem_cons, List.not_mem_nil, or_false] at hd
  rcases hd with rfl | rfl | rfl | rfl | rfl | rfl | rfl | rfl | rfl | rfl | rfl | rfl | rfl | rfl | rfl | rfl | rfl | rfl | rfl | rfl <;>
    exact ⟨by decide +kernel, by simp only [CR.Good, CR.GoodAll] <;> decide +kernel, by decide +kernel, fun ds e => (by cases e <;> decide)⟩
def os7 : List PyData := [.none, .bool true, .str "1", .tuple [.int 1, .int 1], .int (10 ^ Int.toNat 40 + 1), .list [.int 2], .dict []]
def os8 : List PyData := [.none, .bool true, .str "1", .int 61, .int (-61), .list [.int 2], .dict [], .int (10 ^ Int.toNat 30)]
structure Od2 (f : PyData → Bool) (d : PyData) : Prop where
  no : f d = false
  good : CR.Good 2 d
  w : wt d ≤ 10
theorem os7_ok : ∀ d ∈ os7, Od2 isN d := by
  intro d hd
  unfold os7 at hd
  simp only [List.mem_cons, List.not_mem_nil, or_false] at hd
  rcases hd with rfl | rfl | rfl | rfl | rfl | rfl | rfl <;>
    exact ⟨by decide +kernel, by simp only [CR.Good, CR.GoodAll] <;> decide +kernel, by decide +kernel⟩
theorem os8_ok : ∀ d ∈ os8, Od2 (fun d => isFrom d (-60) 60) d := by
  intro d hd
  unfold os8 at hd
  simp only [List.mem_cons, List.not_mem_nil, or_false] at hd
  rcases hd with rfl | rfl | rfl | rfl | rfl | rfl | rfl | rfl <;>
    exact ⟨by decide +kernel, by simp only [CR.Good, CR.GoodAll] <;> decide +kernel, by decide +kernel⟩
theorem isN_of {z : Int} (h : z.natAbs ≤ 10 ^ 40) : isN (.int z) = true := by
  have e : (10 : Int) ^ 40 = ((10 ^ 40 : Nat) : Int) := by norm_cast
  show decide ((z.natAbs : Int) ≤ 10 ^ 40) = true
  rw [e]
  exact decide_eq_true (Int.ofNat_le.mpr h)
/-- what is told and due so far -/
structure Lo (i : Nat) (L : List PyData) : Prop where
  g : CR.GoodAll 3 L
  w : wtAll L ≤ 40 + 160 * i
  n : L.length ≤ 10 + 13 * i
theorem Lo.more {i : Nat} {L : List PyData} {odd : PyData} (h : Lo i L) (g : CR.Good 2 odd) (w : wt odd ≤ 10) : Lo (i + 1) (L ++ [.tuple [.str "number", odd], .tuple [.str "number", odd]]) := by
  have n : CR.Good 3 (.tuple [.str "number", odd]) := ⟨by simp only [CR.Good] <;> decide +kernel, g, trivial⟩
  refine ⟨goodAll_app h.g ⟨n, n, trivial⟩, ?_, ?_⟩
  · have := h.w
    rw [wtAll_app]
    have e : wtAll [PyData.tuple [.str "number", odd], .tuple [.str "number", odd]] = ((1 + (wt odd + 0)) + 1) + (((1 + (wt odd + 0)) + 1) + 0) := rfl
    rw [e]
    omega
  · have := h.n
    rw [List.length_append]
    show L.length + 2 ≤ _
    omega
section
variable {P : Program} {w : World} {K : PySem.W.Frag} {mg : Str → Option Value} {base : Heap} (T : Txt P K mg) (B : Tb T)
abbrev N48 : List Str := ["good", "told", "due", "some", "odd", "tells", "deed", "big"]
theorem sc48 : FnScope N48 ["good"] (defScope (topS 48)) := ⟨rfl, rfl, rfl, by decide +kernel, rfl, by decide +kernel, by decide +kernel⟩
theorem g48 (hS : ∃ mm, base.Ns sysModules mm) (tb : TabB base mg B.c48 B.P48) : FnG P w K mg base 9 T.d48.f T.d48.fd ["good"] (spF K B.L c48) := by
  refine okD0c T.d48.F sc48 (fun xs b Φ Er h => ?_) (fun cdv A outer s H H1 E xs b Φ Er hcode hr hg tk h => ?_)
  · obtain ⟨rfl, _⟩ := h
    rfl
  · obtain ⟨rfl, rfl, qq⟩ := h
    have hcode := hcode.symm.trans B.e48
    subst hcode
    have hu : ∀ p ∈ B.L, p.1 = B.P48 → p.2 = lq "_law_refused_right" := fun p hp e => by
      rcases List.mem_cons.mp hp with z | hp
      · rw [z] at e
        exact absurd e B.n2
      rcases List.mem_cons.mp hp with z | hp
      · rw [z] at e
        exact absurd e B.n3
      rcases List.mem_cons.mp hp with z | hp
      · rw [z]
      · cases hp
    have one : Fra (1, 1) := fra_by (by decide +kernel) (by decide +kernel) (by decide +kernel) (by decide +kernel)
    have ok37 : Fra (3, 7) := fra_by (by decide +kernel) (by decide +kernel) (by decide +kernel) (by decide +kernel)
    refine jb_cons ?_
    refine js_par 1 2 rfl sc48.nd rfl rfl (by decide) rfl rfl (by rfl) ?_
    ac_rfl
    refine je_call (g27 T hS) (.inl rfl) hg hr tk T.d27.g T.d27.k T.d27.b (by decide) ?_
    ac_rfl
    refine callP ⟨fr (1, 1), fr (1, 1), rfl, one.tell, one.tell, fr_len, fr_len, fun z => one.isF z, fun _ z => one.isF z, fun p q e1 e2 f1 f2 => ?_⟩
    obtain rfl := fr_inj e1.symm
    obtain rfl := fr_inj e2.symm
    ac_rfl
    refine je_call (g35 T hS) (.inl rfl) hg hr tk T.d35.g T.d35.k T.d35.b (by decide) ?_
    ac_rfl
    refine callP ⟨fr (1, 1), rfl, one.tell, fr_len, fun p e f => ?_, fun z => one.isF z⟩
    obtain rfl := fr_inj e.symm
    ac_rfl
    refine je_call (g21 T hS) (.inl rfl) hg hr tk T.d21.g T.d21.k T.d21.b (by decide) ?_
    ac_rfl
    have ti : ∀ z : Int, z.natAbs ≤ 10 ^ 41 → TellD (.int z) := fun z hz => ⟨0, by simp only [CR.Good]; exact big571 hz (by decide), by decide, by show 1 ≤ 1600; decide⟩
    refine callP ⟨.int 1, .int 1, rfl, ti 1 (by decide), ti 1 (by decide), fun z => ?_, fun _ z => ?_, fun i j e1 e2 _ _ => ?_⟩
    · exact absurd z (by decide +kernel)
    · exact absurd z (by decide +kernel)
    cases e1
    cases e2
    refine ⟨fun z => absurd z (by decide), fun _ => ?_⟩
    ac_rfl
    refine je_call (g31 T hS) (.inl rfl) hg hr tk T.d31.g T.d31.k T.d31.b (by decide) ?_
    ac_rfl
    refine callP ⟨fr (1, 1), .int 1, rfl, one.tell, ti 1 (by decide), fr_len, fun z => one.isF z, fun _ z => absurd z (by decide +kernel), fun p t e1 e2 f _ _ => ?_⟩
    obtain rfl := fr_inj e1.symm
    cases e2
    refine ⟨fun z => absurd z.1 (by decide), fun _ => ⟨1, by decide, by decide, by decide, Nat.lt_of_lt_of_le (by decide : 1 < 2 ^ 1) (Nat.pow_le_pow_right (by decide) (by decide)), by rw [Nat.one_pow]; exact Nat.lt_of_lt_of_le (by decide : 1 < 2 ^ 1) (Nat.pow_le_pow_right (by decide) (by decide)), ?_⟩⟩
    ac_rfl
    refine ⟨_, _, rfl, ?_⟩
    have e0 : PyData.list [fr (fPlus (1, 1) (1, 1)), .int ((1, 1) : Int × Int).1, fr (cut 1 1), fr (pwr (1, 1) 1)] = .list [.tuple [.int 2, .int 1], .int 1, .tuple [.int 1, .int 1], .tuple [.int 1, .int 1]] := by
      have f1 : fPlus (1, 1) (1, 1) = (2, 1) := by decide +kernel
      have f2 : cut 1 1 = (1, 1) := by decide +kernel
      have f3 : pwr (1, 1) 1 = (1, 1) := by decide +kernel
      rw [f1, f2, f3]
      rfl
    refine jb_cons ?_
    refine js_set 3 sc48.nd rfl (.inl rfl) ?_
    ac_rfl
    refine je_add (je_pow ?_)
    ac_rfl
    refine ⟨⟨by decide, by decide, by decide⟩, ?_⟩
    ac_rfl
    refine ⟨[_, _, _, _, _, _, _, _, _, _, _, _, _], rfl, Nat.le_of_ble_eq_true rfl, ?_⟩
    refine jb_cons ?_
    refine js_forL 4 .never rfl sc48.nd rfl (.inr rfl) (je_cat ?_)
    refine je_var 3 rfl (.inl rfl) rfl ⟨_, rfl, ?_⟩
    ac_rfl
    refine je_add (je_pow ?_)
    ac_rfl
    refine ⟨⟨by decide, by decide, by decide⟩, ?_⟩
    ac_rfl
    refine je_dict0 ?_
    ac_rfl
    refine je_intS T.bint (je_mulStr ?_)
    ac_rfl
    refine ⟨by decide, by decide, rfl, _, _, rfl, int7, by decide +kernel, ?_⟩
    ac_rfl
    refine ⟨[_, _, _, _, _, _, _], rfl, Nat.le_of_ble_eq_true rfl, _, rfl, Nat.le_of_ble_eq_true rfl, ?_⟩
    have a1 : ((1, 1) : Int × Int).1.fdiv ((1, 1) : Int × Int).2 = 1 := by decide
    have f1 : fPlus (1, 1) (1, 1) = (2, 1) := by decide +kernel
    have f2 : cut 1 1 = (1, 1) := by decide +kernel
    have f3 : pwr (1, 1) 1 = (1, 1) := by decide +kernel
    rw [a1, f1, f2, f3]
    refine ⟨odds, rfl, fun i ρ b' => b' = none ∧ ∃ L y3 y4 y5 y6, ρ = [some (.d (fr (3, 7))), some (.d (.list L)), some (.d (.list L)), y3, y4, y5, y6, none] ∧ Lo i L, ⟨rfl, [.tuple [.int 2, .int 1], .int 1, .tuple [.int 1, .int 1], .tuple [.int 1, .int 1]], _, none, none, none, rfl, ?_⟩, ?_, ?_⟩
    · exact ⟨by simp only [CR.Good, CR.GoodAll] <;> decide +kernel, by decide +kernel, by decide⟩
    · rintro i odd ρ b' hodd ⟨rfl, L, y3, y4, y5, y6, rfl, lo⟩
      have od := odds_ok odd (List.mem_of_getElem? hodd)
      have io : i < 20 := (List.getElem?_eq_some_iff.mp hodd).1
      have otl : TellD odd := ⟨2, od.good, by decide, Nat.le_trans od.w (by decide)⟩
      refine jb_cons ?_
      refine js_set 5 sc48.nd rfl (.inl rfl) (je_lstS ?_)
      refine ja_cons ?_
      refine je_lam (fun z => by cases z) (pe_lam tb rfl (List.mem_cons_of_mem _ (List.mem_cons_of_mem _ List.mem_cons_self)) (fun p hp e => hu p hp e) (cloS_by (sc := defScope (topS 48)) (by decide +kernel)) (fun _ _ _ _ _ => rfl)) ?_
      refine ja_cons ?_
      refine je_lam (fun z => by cases z) (pe_lamD tb rfl (List.mem_cons_of_mem _ (List.mem_cons_of_mem _ List.mem_cons_self)) (fun p hp e => hu p hp e) (cloS_by (sc := defScope (topS 48)) (by decide +kernel)) rfl (fun _ _ _ _ _ _ => ⟨_, rfl, fun _ => rfl⟩)) ?_
      refine ja_cons ?_
      refine je_lam (fun z => by cases z) (pe_lamD tb rfl (List.mem_cons_of_mem _ (List.mem_cons_of_mem _ List.mem_cons_self)) (fun p hp e => hu p hp e) (cloS_by (sc := defScope (topS 48)) (by decide +kernel)) rfl (fun _ _ _ _ _ _ => ⟨_, rfl, fun _ => rfl⟩)) ?_
      refine ja_nil ?_
      refine ⟨[_, _, _], rfl, Nat.le_of_ble_eq_true rfl, ?_⟩
      refine jb_cons ?_
      refine js_set 5 sc48.nd rfl (.inl rfl) (je_catS ?_)
      refine je_var 5 rfl (.inl rfl) rfl ⟨_, rfl, je_lstS ?_⟩
      refine ja_cons ?_
      refine je_lam (fun z => by cases z) (pe_lam tb rfl (List.mem_cons_of_mem _ (List.mem_cons_of_mem _ List.mem_cons_self)) (fun p hp e => hu p hp e) (cloS_by (sc := defScope (topS 48)) (by decide +kernel)) (fun _ _ _ _ _ => rfl)) ?_
      refine ja_cons ?_
      refine je_lam (fun z => by cases z) (pe_lamD tb rfl (List.mem_cons_of_mem _ (List.mem_cons_of_mem _ List.mem_cons_self)) (fun p hp e => hu p hp e) (cloS_by (sc := defScope (topS 48)) (by decide +kernel)) rfl (fun _ _ _ _ _ _ => ⟨_, rfl, fun _ => rfl⟩)) ?_
      refine ja_cons ?_
      refine je_lam (fun z => by cases z) (pe_lamD tb rfl (List.mem_cons_of_mem _ (List.mem_cons_of_mem _ List.mem_cons_self)) (fun p hp e => hu p hp e) (cloS_by (sc := defScope (topS 48)) (by decide +kernel)) rfl (fun _ _ _ _ _ _ => ⟨_, rfl, fun _ => rfl⟩)) ?_
      refine ja_nil ?_
      refine ⟨[_, _, _], rfl, Nat.le_of_ble_eq_true rfl, _, rfl, Nat.le_of_ble_eq_true rfl, ?_⟩
      refine jb_cons ?_
      refine js_set 5 sc48.nd rfl (.inl rfl) (je_catS ?_)
      refine je_var 5 rfl (.inl rfl) rfl ⟨_, rfl, je_lstS ?_⟩
      refine ja_cons ?_
      refine je_lam (fun z => by cases z) (pe_lam tb rfl (List.mem_cons_of_mem _ (List.mem_cons_of_mem _ List.mem_cons_self)) (fun p hp e => hu p hp e) (cloS_by (sc := defScope (topS 48)) (by decide +kernel)) (fun _ _ _ _ _ => rfl)) ?_
      refine ja_cons ?_
      refine je_lam (fun z => by cases z) (pe_lamD tb rfl (List.mem_cons_of_mem _ (List.mem_cons_of_mem _ List.mem_cons_self)) (fun p hp e => hu p hp e) (cloS_by (sc := defScope (topS 48)) (by decide +kernel)) rfl (fun _ _ _ _ _ _ => ⟨_, rfl, fun _ => rfl⟩)) ?_
      refine ja_cons ?_
      refine je_lam (fun z => by cases z) (pe_lamD tb rfl (List.mem_cons_of_mem _ (List.mem_cons_of_mem _ List.mem_cons_self)) (fun p hp e => hu p hp e) (cloS_by (sc := defScope (topS 48)) (by decide +kernel)) rfl (fun _ _ _ _ _ _ => ⟨_, rfl, fun _ => rfl⟩)) ?_
      refine ja_nil ?_
      refine ⟨[_, _, _], rfl, Nat.le_of_ble_eq_true rfl, _, rfl, Nat.le_of_ble_eq_true rfl, ?_⟩
      refine jb_cons ?_
      refine js_set 5 sc48.nd rfl (.inl rfl) (je_catS ?_)
      refine je_var 5 rfl (.inl rfl) rfl ⟨_, rfl, je_lstS ?_⟩
      refine ja_cons ?_
      refine je_lam (fun z => by cases z) (pe_lam tb rfl (List.mem_cons_of_mem _ (List.mem_cons_of_mem _ List.mem_cons_self)) (fun p hp e => hu p hp e) (cloS_by (sc := defScope (topS 48)) (by decide +kernel)) (fun _ _ _ _ _ => rfl)) ?_
      refine ja_cons ?_
      refine je_lam (fun z => by cases z) (pe_lamD tb rfl (List.mem_cons_of_mem _ (List.mem_cons_of_mem _ List.mem_cons_self)) (fun p hp e => hu p hp e) (cloS_by (sc := defScope (topS 48)) (by decide +kernel)) rfl (fun _ _ _ _ _ _ => ⟨_, rfl, fun _ => rfl⟩)) ?_
      refine ja_cons ?_
      refine je_lam (fun z => by cases z) (pe_lamD tb rfl (List.mem_cons_of_mem _ (List.mem_cons_of_mem _ List.mem_cons_self)) (fun p hp e => hu p hp e) (cloS_by (sc := defScope (topS 48)) (by decide +kernel)) rfl (fun _ _ _ _ _ _ => ⟨_, rfl, fun _ => rfl⟩)) ?_
      refine ja_cons ?_
      refine je_lam (fun z => by cases z) (pe_lamD tb rfl (List.mem_cons_of_mem _ (List.mem_cons_of_mem _ List.mem_cons_self)) (fun p hp e => hu p hp e) (cloS_by (sc := defScope (topS 48)) (by decide +kernel)) rfl (fun _ _ _ _ _ _ => ⟨_, rfl, fun _ => rfl⟩)) ?_
      refine ja_nil ?_
      refine ⟨[_, _, _, _], rfl, Nat.le_of_ble_eq_true rfl, _, rfl, Nat.le_of_ble_eq_true rfl, ?_⟩
      refine jb_cons ?_
      refine js_par 1 2 rfl sc48.nd rfl rfl (by decide) rfl rfl (by rfl) ?_
      refine ja_cons (je_cat ?_)
      refine je_var 1 rfl (.inl rfl) rfl ⟨_, rfl, ?_⟩
      refine je_lcB (i := 6) rfl sc48.nd (blkOk_by (N := N48) (sc := defScope (topS 48)) (by decide +kernel)) (fun _ _ _ _ _ => pg_name (i := 6) sc48.nd rfl (Or.inl rfl)) ?_
      refine je_var 5 rfl (.inl rfl) rfl ?_
      refine ⟨_, src_sts, Nat.le_of_ble_eq_true rfl, fun j r b' => b' = none ∧ r = List.replicate j (.tuple [.str "fraction", odd]), ⟨rfl, rfl⟩, ?_, ?_⟩
      · rintro j y r b' hy ⟨rfl, rfl⟩
        refine bb_heard (k := 6) T.d42.g T.d42.F sc42 T.d42.b rfl (.inl rfl) hg hr (heardG' T _ rfl rfl rfl) T.hx ?_ (fun _ _ _ _ _ => rfl)
        intro s0 H0 C cl fp
        refine je_var 6 rfl (.inl rfl) rfl ?_
        have yes : ¬ isFr odd = true := by
          rw [od.no]
          exact Bool.false_ne_true
        have tn : TellD .none := ⟨0, by simp only [CR.Good], by decide, by decide⟩
        have ln : ∀ ds, PyData.none = .tuple ds → ds.length < 1000 := fun ds e => by cases e
        have t01 : TellD (.tuple [.int 0, .int 1]) := ⟨1, by simp only [CR.Good, CR.GoodAll] <;> decide +kernel, by decide, by decide⟩
        have l01 : ∀ ds, PyData.tuple [.int 0, .int 1] = .tuple ds → ds.length < 1000 := fun ds e => by
          cases e
          decide
        have hm := List.mem_of_getElem? hy
        simp only [List.cons_append, List.nil_append, List.map_cons, List.map_nil, List.mem_cons, List.not_mem_nil, or_false] at hm
        have er : heardR T.hs (fun z b' => ∃ d, z = Sl.d d ∧ b' = none ∧ List.replicate j (PyData.tuple [.str "fraction", odd]) ++ [d] = List.replicate (j + 1) (PyData.tuple [.str "fraction", odd])) (.ref T.CF) (some ("value", odd)) none :=
          ⟨⟨T.CF, "fraction", some "value"⟩, List.mem_cons_self, rfl, odd, rfl, _, rfl, rfl, by rw [List.replicate_succ']⟩
        clear hy
        rcases hm with rfl | rfl | rfl | rfl | rfl | rfl | rfl | rfl | rfl | rfl | rfl | rfl | rfl
        · refine ⟨_, _, _, rfl, cloS_by (sc := defScope (topS 48)) (by decide +kernel), ?_⟩
          intro A' outer' s' H' HH E' f' c' hr' hg' tk'
          refine je_call (g18 T hS) (.inl rfl) hg' hr' tk' T.d18.g T.d18.k T.d18.b (by decide) ?_
          ac_rfl
          exact callP ⟨odd, rfl, otl, od.len, fun z => absurd z yes, fun _ => er⟩
        · refine ⟨_, _, _, rfl, cloS_by (sc := defScope (topS 48)) (by decide +kernel), ?_⟩
          intro A' outer' s' H' HH E' f' c' hr' hg' tk'
          refine je_call (g27 T hS) (.inl rfl) hg' hr' tk' T.d27.g T.d27.k T.d27.b (by decide) ?_
          ac_rfl
          exact callP ⟨odd, _, rfl, otl, tn, od.len, ln, fun _ => er, fun z => absurd z yes, fun p q e1 _ f _ => absurd (e1 ▸ f.is) yes⟩
        · refine ⟨_, _, _, rfl, cloS_by (sc := defScope (topS 48)) (by decide +kernel), ?_⟩
          intro A' outer' s' H' HH E' f' c' hr' hg' tk'
          refine je_call (g27 T hS) (.inl rfl) hg' hr' tk' T.d27.g T.d27.k T.d27.b (by decide) ?_
          ac_rfl
          exact callP ⟨fr (3, 7), odd, rfl, ok37.tell, otl, fr_len, od.len, fun z => ok37.isF z, fun _ _ => er, fun p q _ e2 _ f => absurd (e2 ▸ f.is) yes⟩
        · refine ⟨_, _, _, rfl, cloS_by (sc := defScope (topS 48)) (by decide +kernel), ?_⟩
          intro A' outer' s' H' HH E' f' c' hr' hg' tk'
          refine je_call (g28 T hS) (.inl rfl) hg' hr' tk' T.d28.g T.d28.k T.d28.b (by decide) ?_
          ac_rfl
          exact callP ⟨odd, _, rfl, otl, tn, od.len, ln, fun _ => er, fun z => absurd z yes, fun p q e1 _ f _ => absurd (e1 ▸ f.is) yes⟩
        · refine ⟨_, _, _, rfl, cloS_by (sc := defScope (topS 48)) (by decide +kernel), ?_⟩
          intro A' outer' s' H' HH E' f' c' hr' hg' tk'
          refine je_call (g28 T hS) (.inl rfl) hg' hr' tk' T.d28.g T.d28.k T.d28.b (by decide) ?_
          ac_rfl
          exact callP ⟨fr (3, 7), odd, rfl, ok37.tell, otl, fr_len, od.len, fun z => ok37.isF z, fun _ _ => er, fun p q _ e2 _ f => absurd (e2 ▸ f.is) yes⟩
        · refine ⟨_, _, _, rfl, cloS_by (sc := defScope (topS 48)) (by decide +kernel), ?_⟩
          intro A' outer' s' H' HH E' f' c' hr' hg' tk'
          refine je_call (g29 T hS) (.inl rfl) hg' hr' tk' T.d29.g T.d29.k T.d29.b (by decide) ?_
          ac_rfl
          exact callP ⟨odd, _, rfl, otl, tn, od.len, ln, fun _ => er, fun z => absurd z yes, fun p q e1 _ f _ => absurd (e1 ▸ f.is) yes⟩
        · refine ⟨_, _, _, rfl, cloS_by (sc := defScope (topS 48)) (by decide +kernel), ?_⟩
          intro A' outer' s' H' HH E' f' c' hr' hg' tk'
          refine je_call (g29 T hS) (.inl rfl) hg' hr' tk' T.d29.g T.d29.k T.d29.b (by decide) ?_
          ac_rfl
          exact callP ⟨fr (3, 7), odd, rfl, ok37.tell, otl, fr_len, od.len, fun z => ok37.isF z, fun _ _ => er, fun p q _ e2 _ f => absurd (e2 ▸ f.is) yes⟩
        · refine ⟨_, _, _, rfl, cloS_by (sc := defScope (topS 48)) (by decide +kernel), ?_⟩
          intro A' outer' s' H' HH E' f' c' hr' hg' tk'
          refine je_call (g30 T hS) (.inl rfl) hg' hr' tk' T.d30.g T.d30.k T.d30.b (by decide) ?_
          ac_rfl
          exact callP ⟨odd, _, rfl, otl, t01, od.len, l01, fun _ => er, fun z => absurd z yes, fun p q e1 _ f _ => absurd (e1 ▸ f.is) yes⟩
        · refine ⟨_, _, _, rfl, cloS_by (sc := defScope (topS 48)) (by decide +kernel), ?_⟩
          intro A' outer' s' H' HH E' f' c' hr' hg' tk'
          refine je_call (g30 T hS) (.inl rfl) hg' hr' tk' T.d30.g T.d30.k T.d30.b (by decide) ?_
          ac_rfl
          exact callP ⟨fr (3, 7), odd, rfl, ok37.tell, otl, fr_len, od.len, fun z => ok37.isF z, fun _ _ => er, fun p q _ e2 _ f => absurd (e2 ▸ f.is) yes⟩
        · refine ⟨_, _, _, rfl, cloS_by (sc := defScope (topS 48)) (by decide +kernel), ?_⟩
          intro A' outer' s' H' HH E' f' c' hr' hg' tk'
          refine je_call (g33 T hS) (.inl rfl) hg' hr' tk' T.d33.g T.d33.k T.d33.b (by decide) ?_
          ac_rfl
          exact callP ⟨odd, _, rfl, otl, tn, od.len, ln, fun _ => er, fun z => absurd z yes, fun p q e1 _ f _ => absurd (e1 ▸ f.is) yes⟩
        · refine ⟨_, _, _, rfl, cloS_by (sc := defScope (topS 48)) (by decide +kernel), ?_⟩
          intro A' outer' s' H' HH E' f' c' hr' hg' tk'
          refine je_call (g33 T hS) (.inl rfl) hg' hr' tk' T.d33.g T.d33.k T.d33.b (by decide) ?_
          ac_rfl
          exact callP ⟨fr (3, 7), odd, rfl, ok37.tell, otl, fr_len, od.len, fun z => ok37.isF z, fun _ _ => er, fun p q _ e2 _ f => absurd (e2 ▸ f.is) yes⟩
        · refine ⟨_, _, _, rfl, cloS_by (sc := defScope (topS 48)) (by decide +kernel), ?_⟩
          intro A' outer' s' H' HH E' f' c' hr' hg' tk'
          refine je_call (g35 T hS) (.inl rfl) hg' hr' tk' T.d35.g T.d35.k T.d35.b (by decide) ?_
          ac_rfl
          exact callP ⟨odd, rfl, otl, od.len, fun p e f => absurd (e ▸ f.is) yes, fun _ => er⟩
        · refine ⟨_, _, _, rfl, cloS_by (sc := defScope (topS 48)) (by decide +kernel), ?_⟩
          intro A' outer' s' H' HH E' f' c' hr' hg' tk'
          refine je_call (g31 T hS) (.inl rfl) hg' hr' tk' T.d31.g T.d31.k T.d31.b (by decide) ?_
          ac_rfl
          exact callP ⟨odd, _, rfl, otl, tn, od.len, fun _ => er, fun z => absurd z yes, fun p t e _ f _ _ => absurd (e ▸ f.is) yes⟩
      · rintro r b' ⟨rfl, rfl⟩
        have hl : (List.replicate 13 (PyData.tuple [.str "fraction", odd])).length = 13 := List.length_replicate
        have sl : 1000 ≤ sizeLine := by decide
        have ln := lo.n
        refine ⟨_, rfl, ?_, ?_⟩
        · show L.length + (List.replicate 13 (PyData.tuple [.str "fraction", odd])).length ≤ sizeLine
          omega
        refine ja_cons (je_cat ?_)
        refine je_var 2 rfl (.inl rfl) rfl ⟨_, rfl, je_rep ?_⟩
        ac_rfl
        refine ⟨by decide, by decide, Nat.le_of_ble_eq_true rfl, _, rfl, ?_, ?_⟩
        · show L.length + (List.replicate 13 [PyData.tuple [.str "fraction", odd]]).flatten.length ≤ sizeLine
          simp
          omega
        refine ja_nil ?_
        refine ⟨_, _, rfl, ?_⟩
        refine jb_nil ?_
        refine ⟨rfl, L ++ List.replicate 13 (.tuple [.str "fraction", odd]), _, _, _, _, rfl, ?_⟩
        have ea : ∀ d ∈ List.replicate 13 (PyData.tuple [.str "fraction", odd]), d = .tuple [.str "fraction", odd] := fun d hd => (List.mem_replicate.mp hd).2
        refine ⟨goodAll_app lo.g (goodAll_iff.mpr fun d hd => ?_), ?_, ?_⟩
        · rw [ea d hd]
          refine ⟨by simp only [CR.Good] <;> decide +kernel, od.good, trivial⟩
        · have hw := wtAll_le (c := 12) (ds := List.replicate 13 (PyData.tuple [.str "fraction", odd])) fun d hd => by
            rw [ea d hd]
            have := od.w
            show (1 + (wt odd + 0)) + 1 ≤ 12
            omega
          rw [hl] at hw
          rw [wtAll_app]
          have := lo.w
          omega
        · rw [List.length_append]
          omega
    · rintro ρ b' ⟨rfl, L, y3, y4, y5, y6, rfl, lo⟩
      refine jb_cons ?_
      refine js_forT 4 .never rfl sc48.nd rfl (.inr rfl) ?_
      ac_rfl
      refine je_add (je_pow ?_)
      ac_rfl
      refine ⟨⟨by decide, by decide, by decide⟩, ?_⟩
      ac_rfl
      refine je_dict0 ?_
      ac_rfl
      refine ⟨[_, _, _, _, _, _, _], rfl, Nat.le_of_ble_eq_true rfl, ?_⟩
      refine ⟨os7, rfl, fun i ρ b' => b' = none ∧ ∃ L y3 y4 y5 y6, ρ = [some (.d (fr (3, 7))), some (.d (.list L)), some (.d (.list L)), y3, y4, y5, y6, none] ∧ Lo (20 + i) L, ⟨rfl, L, _, _, _, _, rfl, lo⟩, ?_, ?_⟩
      · rintro i odd ρ b' hodd ⟨rfl, L, y3, y4, y5, y6, rfl, lo⟩
        refine jb_cons ?_
        refine js_set 1 sc48.nd rfl (.inl rfl) (je_cat ?_)
        refine je_var 1 rfl (.inl rfl) rfl ⟨_, rfl, ?_⟩
        ac_rfl
        refine je_heard (k := 6) T.d42.g T.d42.F sc42 T.d42.b rfl (.inl rfl) hg hr (heardG' T _ rfl rfl rfl) T.hx ?_
        refine je_lam (fun z => by cases z) (pe_lam tb rfl (List.mem_cons_of_mem _ (List.mem_cons_of_mem _ List.mem_cons_self)) (fun p hp e => hu p hp e) (cloS_by (sc := defScope (topS 48)) (by decide +kernel)) (fun _ _ _ _ _ => rfl)) ?_
        refine ⟨_, _, _, rfl, cloS_by (sc := defScope (topS 48)) (by decide +kernel), ?_⟩
        intro A' outer' s' H' HH E' f' c' hr' hg' tk'
        have od := os7_ok odd (List.mem_of_getElem? hodd)
        have otl : TellD odd := ⟨2, od.good, by decide, Nat.le_trans od.w (by decide)⟩
        have yes : ¬ isN odd = true := by
          rw [od.no]
          exact Bool.false_ne_true
        have t0 : isN (.int 0) = true := by decide
        refine je_call (g21 T hS) (.inl rfl) hg' hr' tk' T.d21.g T.d21.k T.d21.b (by decide) ?_
        ac_rfl
        refine callP ⟨odd, .int 0, rfl, otl, ti 0 (by decide), fun _ => ⟨⟨T.CN, "number", some "value"⟩, List.mem_cons_of_mem _ List.mem_cons_self, rfl, odd, rfl, ?_⟩, fun z => absurd z yes, fun i' j' e1 _ h1 _ => absurd (by rw [e1]; exact isN_of h1) yes⟩
        refine ja_cons ?_
        refine je_heard (k := 6) T.d42.g T.d42.F sc42 T.d42.b rfl (.inl rfl) hg hr (heardG' T _ rfl rfl rfl) T.hx ?_
        refine je_lam (fun z => by cases z) (pe_lamD tb rfl (List.mem_cons_of_mem _ (List.mem_cons_of_mem _ List.mem_cons_self)) (fun p hp e => hu p hp e) (cloS_by (sc := defScope (topS 48)) (by decide +kernel)) rfl (fun _ _ _ _ _ _ => ⟨_, rfl, fun _ => rfl⟩)) ?_
        refine ⟨_, _, _, rfl, cloS_by (sc := defScope (topS 48)) (by decide +kernel), ?_⟩
        intro A' outer' s' H' HH E' f' c' hr' hg' tk'
        refine je_call (g21 T hS) (.inl rfl) hg' hr' tk' T.d21.g T.d21.k T.d21.b (by decide) ?_
        ac_rfl
        refine callP ⟨.int 0, odd, rfl, ti 0 (by decide), otl, fun z => absurd (t0.symm.trans z) (by decide), fun _ _ => ⟨⟨T.CN, "number", some "value"⟩, List.mem_cons_of_mem _ List.mem_cons_self, rfl, odd, rfl, ?_⟩, fun i' j' _ e2 _ h2 => absurd (by rw [e2]; exact isN_of h2) yes⟩
        refine ja_nil ?_
        have sl : 1000 ≤ sizeLine := by decide
        have hi : i < 7 := (List.getElem?_eq_some_iff.mp hodd).1
        have ln := lo.n
        refine ⟨[_, _], rfl, Nat.le_of_ble_eq_true rfl, _, rfl, ?_, ?_⟩
        · show L.length + 2 ≤ sizeLine
          omega
        refine jb_cons ?_
        refine js_set 2 sc48.nd rfl (.inl rfl) (je_cat ?_)
        refine je_var 2 rfl (.inl rfl) rfl ⟨_, rfl, je_rep ?_⟩
        ac_rfl
        refine ⟨by decide, by decide, Nat.le_of_ble_eq_true rfl, _, rfl, ?_, ?_⟩
        · show L.length + 2 ≤ sizeLine
          omega
        refine jb_nil ?_
        exact ⟨rfl, L ++ [.tuple [.str "number", odd], .tuple [.str "number", odd]], _, _, _, _, rfl, lo.more od.good od.w⟩
      · rintro ρ b' ⟨rfl, L, y3, y4, y5, y6, rfl, lo⟩
        refine jb_cons ?_
        refine js_forT 4 .never rfl sc48.nd rfl (.inr rfl) ?_
        ac_rfl
        refine je_dict0 ?_
        ac_rfl
        refine je_pow ?_
        ac_rfl
        refine ⟨⟨by decide, by decide, by decide⟩, ?_⟩
        ac_rfl
        refine ⟨[_, _, _, _, _, _, _, _], rfl, Nat.le_of_ble_eq_true rfl, ?_⟩
        refine ⟨os8, rfl, fun i ρ b' => b' = none ∧ ∃ L y3 y4 y5 y6, ρ = [some (.d (fr (3, 7))), some (.d (.list L)), some (.d (.list L)), y3, y4, y5, y6, none] ∧ Lo (27 + i) L, ⟨rfl, L, _, _, _, _, rfl, lo⟩, ?_, ?_⟩
        · rintro i odd ρ b' hodd ⟨rfl, L, y3, y4, y5, y6, rfl, lo⟩
          refine jb_cons ?_
          refine js_set 1 sc48.nd rfl (.inl rfl) (je_cat ?_)
          refine je_var 1 rfl (.inl rfl) rfl ⟨_, rfl, ?_⟩
          ac_rfl
          refine je_heard (k := 6) T.d42.g T.d42.F sc42 T.d42.b rfl (.inl rfl) hg hr (heardG' T _ rfl rfl rfl) T.hx ?_
          refine je_lam (fun z => by cases z) (pe_lam tb rfl (List.mem_cons_of_mem _ (List.mem_cons_of_mem _ List.mem_cons_self)) (fun p hp e => hu p hp e) (cloS_by (sc := defScope (topS 48)) (by decide +kernel)) (fun _ _ _ _ _ => rfl)) ?_
          refine ⟨_, _, _, rfl, cloS_by (sc := defScope (topS 48)) (by decide +kernel), ?_⟩
          intro A' outer' s' H' HH E' f' c' hr' hg' tk'
          have od := os8_ok odd (List.mem_of_getElem? hodd)
          have otl : TellD odd := ⟨2, od.good, by decide, Nat.le_trans od.w (by decide)⟩
          have yes : ∀ t : Int, odd = .int t → -60 ≤ t → t ≤ 60 → False := fun t e lo hi => by
            have no := od.no
            rw [e] at no
            have h : (decide (-60 ≤ t) && decide (t ≤ 60)) = false := no
            rw [decide_eq_true lo, decide_eq_true hi] at h
            cases h
          have z01 : Fra (0, 1) := fra_by (by decide +kernel) (by decide +kernel) (by decide +kernel) (by decide +kernel)
          refine je_call (g31 T hS) (.inl rfl) hg' hr' tk' T.d31.g T.d31.k T.d31.b (by decide) ?_
          ac_rfl
          refine callP ⟨fr (3, 7), odd, rfl, ok37.tell, otl, fr_len, fun z => ok37.isF z, fun _ _ => ⟨⟨T.CN, "number", some "value"⟩, List.mem_cons_of_mem _ List.mem_cons_self, rfl, odd, rfl, ?_⟩, fun p t _ e2 _ lo hi => absurd (yes t e2 lo hi) id⟩
          refine ja_cons ?_
          refine je_heard (k := 6) T.d42.g T.d42.F sc42 T.d42.b rfl (.inl rfl) hg hr (heardG' T _ rfl rfl rfl) T.hx ?_
          refine je_lam (fun z => by cases z) (pe_lamD tb rfl (List.mem_cons_of_mem _ (List.mem_cons_of_mem _ List.mem_cons_self)) (fun p hp e => hu p hp e) (cloS_by (sc := defScope (topS 48)) (by decide +kernel)) rfl (fun _ _ _ _ _ _ => ⟨_, rfl, fun _ => rfl⟩)) ?_
          refine ⟨_, _, _, rfl, cloS_by (sc := defScope (topS 48)) (by decide +kernel), ?_⟩
          intro A' outer' s' H' HH E' f' c' hr' hg' tk'
          refine je_call (g31 T hS) (.inl rfl) hg' hr' tk' T.d31.g T.d31.k T.d31.b (by decide) ?_
          ac_rfl
          refine callP ⟨fr (0, 1), odd, rfl, z01.tell, otl, fr_len, fun z => z01.isF z, fun _ _ => ⟨⟨T.CN, "number", some "value"⟩, List.mem_cons_of_mem _ List.mem_cons_self, rfl, odd, rfl, ?_⟩, fun p t _ e2 _ lo hi => absurd (yes t e2 lo hi) id⟩
          refine ja_nil ?_
          have sl : 1000 ≤ sizeLine := by decide
          have hi : i < 8 := (List.getElem?_eq_some_iff.mp hodd).1
          have ln := lo.n
          refine ⟨[_, _], rfl, Nat.le_of_ble_eq_true rfl, _, rfl, ?_, ?_⟩
          · show L.length + 2 ≤ sizeLine
            omega
          refine jb_cons ?_
          refine js_set 2 sc48.nd rfl (.inl rfl) (je_cat ?_)
          refine je_var 2 rfl (.inl rfl) rfl ⟨_, rfl, je_rep ?_⟩
          ac_rfl
          refine ⟨by decide, by decide, Nat.le_of_ble_eq_true rfl, _, rfl, ?_, ?_⟩
          · show L.length + 2 ≤ sizeLine
            omega
          refine jb_nil ?_
          exact ⟨rfl, L ++ [.tuple [.str "number", odd], .tuple [.str "number", odd]], _, _, _, _, rfl, lo.more od.good od.w⟩
        · rintro ρ b' ⟨rfl, L, y3, y4, y5, y6, rfl, lo⟩
          refine jb_cons ?_
          refine js_set 7 sc48.nd rfl (.inl rfl) (je_pow ?_)
          ac_rfl
          refine ⟨⟨by decide, by decide, by decide⟩, ?_⟩
          have ln : L.length ≤ 10 + 13 * (27 + 8) := lo.n
          have sl : 1000 ≤ sizeLine := by decide
          refine jb_cons ?_
          refine js_set 1 sc48.nd rfl (.inl rfl) (je_cat ?_)
          refine je_var 1 rfl (.inl rfl) rfl ⟨_, rfl, ?_⟩
          ac_rfl
          refine je_call (g21 T hS) (.inl rfl) hg hr tk T.d21.g T.d21.k T.d21.b (by decide) ?_
          ac_rfl
          refine callP ⟨_, _, rfl, ti _ (by decide +kernel), ti _ (by decide +kernel), fun z => absurd z (by decide +kernel), fun _ z => absurd z (by decide +kernel), fun i j e1 e2 _ _ => ?_⟩
          cases e1
          cases e2
          refine ⟨fun z => absurd z (by decide), fun _ => ?_⟩
          ac_rfl
          refine je_call (g27 T hS) (.inl rfl) hg hr tk T.d27.g T.d27.k T.d27.b (by decide) ?_
          ac_rfl
          have b1 : Fra (1, 10 ^ Int.toNat 40) := fra_by (by decide +kernel) (by decide +kernel) (by decide +kernel) (by decide +kernel)
          have b2 : Fra (-1, 10 ^ Int.toNat 40) := fra_by (by decide +kernel) (by decide +kernel) (by decide +kernel) (by decide +kernel)
          have b3 : Fra (1, 10 ^ Int.toNat 40 - 1) := fra_by (by decide +kernel) (by decide +kernel) (by decide +kernel) (by decide +kernel)
          have b4 : Fra (-2, 3) := fra_by (by decide +kernel) (by decide +kernel) (by decide +kernel) (by decide +kernel)
          have z01 : Fra (0, 1) := fra_by (by decide +kernel) (by decide +kernel) (by decide +kernel) (by decide +kernel)
          have z21 : Fra (2, 1) := fra_by (by decide +kernel) (by decide +kernel) (by decide +kernel) (by decide +kernel)
          refine callP ⟨fr (1, 10 ^ Int.toNat 40), fr (-1, 10 ^ Int.toNat 40), rfl, b1.tell, b2.tell, fr_len, fr_len, fun z => b1.isF z, fun _ z => b2.isF z, fun p q e1 e2 f1 f2 => ?_⟩
          obtain rfl := fr_inj e1.symm
          obtain rfl := fr_inj e2.symm
          ac_rfl
          refine je_call (g35 T hS) (.inl rfl) hg hr tk T.d35.g T.d35.k T.d35.b (by decide) ?_
          ac_rfl
          refine callP ⟨fr (-1, 10 ^ Int.toNat 40), rfl, b2.tell, fr_len, fun p e f => ?_, fun z => b2.isF z⟩
          obtain rfl := fr_inj e.symm
          ac_rfl
          refine je_call (g33 T hS) (.inl rfl) hg hr tk T.d33.g T.d33.k T.d33.b (by decide) ?_
          ac_rfl
          refine callP ⟨fr (1, 10 ^ Int.toNat 40), fr (1, 10 ^ Int.toNat 40 - 1), rfl, b1.tell, b3.tell, fr_len, fr_len, fun z => b1.isF z, fun _ z => b3.isF z, fun p q e1 e2 f1 f2 => ?_⟩
          obtain rfl := fr_inj e1.symm
          obtain rfl := fr_inj e2.symm
          ac_rfl
          refine je_call (g31 T hS) (.inl rfl) hg hr tk T.d31.g T.d31.k T.d31.b (by decide) ?_
          ac_rfl
          refine callP ⟨fr (-2, 3), .int (-60), rfl, b4.tell, ti (-60) (by decide), fr_len, fun z => b4.isF z, fun _ z => absurd z (by decide +kernel), fun p t e1 e2 f _ _ => ?_⟩
          obtain rfl := fr_inj e1.symm
          cases e2
          refine ⟨fun z => absurd z.2 (by decide), fun _ => ⟨3, by decide, by decide, by decide, ?_, ?_, ?_⟩⟩
          · exact Nat.lt_of_lt_of_le (by decide : 3 < 2 ^ 2) (Nat.pow_le_pow_right (by decide) (by decide))
          · exact Nat.lt_of_le_of_lt (by decide +kernel : 3 ^ Int.natAbs (-60) ≤ 2 ^ 120) (Nat.pow_lt_pow_right (by decide) (by decide))
          ac_rfl
          refine ⟨[_, _, _, _, _], rfl, Nat.le_of_ble_eq_true rfl, _, rfl, ?_, ?_⟩
          · show L.length + 5 ≤ sizeLine
            omega
          refine jb_cons ?_
          refine js_set 2 sc48.nd rfl (.inl rfl) (je_cat ?_)
          refine je_var 2 rfl (.inl rfl) rfl ⟨_, rfl, ?_⟩
          ac_rfl
          refine ⟨[_, _, _, _, _], rfl, Nat.le_of_ble_eq_true rfl, _, rfl, ?_, ?_⟩
          · show L.length + 5 ≤ sizeLine
            omega
          refine jb_cons ?_
          refine js_set 1 sc48.nd rfl (.inl rfl) (je_cat ?_)
          refine je_var 1 rfl (.inl rfl) rfl ⟨_, rfl, ?_⟩
          ac_rfl
          refine je_call (g31 T hS) (.inl rfl) hg hr tk T.d31.g T.d31.k T.d31.b (by decide) ?_
          ac_rfl
          refine callP ⟨fr (0, 1), .int 0, rfl, z01.tell, ti 0 (by decide), fr_len, fun z => z01.isF z, fun _ z => absurd z (by decide +kernel), fun p t e1 e2 f _ _ => ?_⟩
          obtain rfl := fr_inj e1.symm
          cases e2
          refine ⟨fun z => absurd z.1 (by decide), fun _ => ⟨1, by decide, by decide, by decide, ?_, ?_, ?_⟩⟩
          · exact Nat.lt_of_lt_of_le (by decide : 1 < 2 ^ 1) (Nat.pow_le_pow_right (by decide) (by decide))
          · exact Nat.lt_of_le_of_lt (by decide +kernel : 1 ^ Int.natAbs 0 ≤ 2 ^ 2) (Nat.pow_lt_pow_right (by decide) (by decide))
          refine ja_cons ?_
          refine je_heard (k := 6) T.d42.g T.d42.F sc42 T.d42.b rfl (.inl rfl) hg hr (heardG' T _ rfl rfl rfl) T.hx ?_
          refine je_lam (fun z => by cases z) (pe_lam tb rfl (List.mem_cons_of_mem _ (List.mem_cons_of_mem _ List.mem_cons_self)) (fun p hp e => hu p hp e) (cloS_by (sc := defScope (topS 48)) (by decide +kernel)) (fun _ _ _ _ _ => rfl)) ?_
          refine ⟨_, _, _, rfl, cloS_by (sc := defScope (topS 48)) (by decide +kernel), ?_⟩
          intro A' outer' s' H' HH E' f' c' hr' hg' tk'
          refine je_call (g31 T hS) (.inl rfl) hg' hr' tk' T.d31.g T.d31.k T.d31.b (by decide) ?_
          ac_rfl
          refine callP ⟨fr (0, 1), .int (-1), rfl, z01.tell, ti (-1) (by decide), fr_len, fun z => z01.isF z, fun _ z => absurd z (by decide +kernel), fun p t e1 e2 f _ _ => ?_⟩
          obtain rfl := fr_inj e1.symm
          cases e2
          refine ⟨fun z => ⟨⟨T.CE, "empty", none⟩, List.mem_cons_of_mem _ (List.mem_cons_of_mem _ List.mem_cons_self), rfl, ?_⟩, fun z => absurd ⟨by decide, rfl⟩ z⟩
          ac_rfl
          refine je_call (g31 T hS) (.inl rfl) hg hr tk T.d31.g T.d31.k T.d31.b (by decide) ?_
          ac_rfl
          refine callP ⟨fr (0, 1), .int 60, rfl, z01.tell, ti 60 (by decide), fr_len, fun z => z01.isF z, fun _ z => absurd z (by decide +kernel), fun p t e1 e2 f _ _ => ?_⟩
          obtain rfl := fr_inj e1.symm
          cases e2
          refine ⟨fun z => absurd z.1 (by decide), fun _ => ⟨1, by decide, by decide, by decide, ?_, ?_, ?_⟩⟩
          · exact Nat.lt_of_lt_of_le (by decide : 1 < 2 ^ 1) (Nat.pow_le_pow_right (by decide) (by decide))
          · exact Nat.lt_of_le_of_lt (by decide +kernel : 1 ^ Int.natAbs 60 ≤ 2 ^ 2) (Nat.pow_lt_pow_right (by decide) (by decide))
          ac_rfl
          refine je_call (g31 T hS) (.inl rfl) hg hr tk T.d31.g T.d31.k T.d31.b (by decide) ?_
          ac_rfl
          refine callP ⟨fr (2, 1), .int 60, rfl, z21.tell, ti 60 (by decide), fr_len, fun z => z21.isF z, fun _ z => absurd z (by decide +kernel), fun p t e1 e2 f _ _ => ?_⟩
          obtain rfl := fr_inj e1.symm
          cases e2
          refine ⟨fun z => absurd z.1 (by decide), fun _ => ⟨2, by decide, by decide, by decide, ?_, ?_, ?_⟩⟩
          · exact Nat.lt_of_lt_of_le (by decide : 2 < 2 ^ 2) (Nat.pow_le_pow_right (by decide) (by decide))
          · exact Nat.lt_of_le_of_lt (by decide +kernel : 2 ^ Int.natAbs 60 ≤ 2 ^ 60) (Nat.pow_lt_pow_right (by decide) (by decide))
          ac_rfl
          refine ⟨?_, ?_⟩
          · show (L ++ _).length + 4 ≤ sizeLine
            rw [List.length_append]
            show L.length + 5 + 4 ≤ sizeLine
            omega
          refine jb_cons ?_
          refine js_ret ?_
          refine je_call (g40 T hS) (.inl rfl) hg hr tk T.d40.g T.d40.k T.d40.b (by decide) ?_
          ac_rfl
          refine je_cat ?_
          refine je_var 2 rfl (.inl rfl) rfl ⟨_, rfl, ?_⟩
          ac_rfl
          refine je_pow ?_
          ac_rfl
          refine ⟨⟨by decide, by decide, by decide⟩, ?_⟩
          ac_rfl
          refine ⟨?_, ?_⟩
          · show (L ++ _).length + 4 ≤ sizeLine
            rw [List.length_append]
            show L.length + 5 + 4 ≤ sizeLine
            omega
          have e1 : cut (-10 ^ Int.toNat 40) (10 ^ Int.toNat 40) = (-1, 1) := by decide +kernel
          have e2 : fPlus (1, 10 ^ Int.toNat 40) (-1, 10 ^ Int.toNat 40) = (0, 1) := by decide +kernel
          have e3 : Int.fdiv ((-1, 10 ^ Int.toNat 40) : Int × Int).1 ((-1, 10 ^ Int.toNat 40) : Int × Int).2 = -1 := by decide +kernel
          have e4 : cmpI (1, 10 ^ Int.toNat 40) (1, 10 ^ Int.toNat 40 - 1) = -1 := by decide +kernel
          have e5 : decide (0 < (pwr (-2, 3) (-60)).1) = true := by decide +kernel
          have e6 : pwr (0, 1) 0 = (1, 1) := by decide +kernel
          have e7 : pwr (0, 1) 60 = (0, 1) := by decide +kernel
          have e8 : pwr (2, 1) 60 = (2 ^ Int.toNat 60, 1) := by decide +kernel
          have lw : wtAll L ≤ 40 + 160 * (27 + 8) := lo.w
          rw [e1, e2, e3, e4, e5, e6, e7, e8]
          ac_rfl
          refine callP ⟨4, .list (L ++ [.tuple [.int (-1), .int 1], .tuple [.int 0, .int 1], .int (-1), .int (-1), .bool true] ++ [.tuple [.int 1, .int 1], .tuple [.str "empty", .int 0], .tuple [.int 0, .int 1], .tuple [.int (2 ^ Int.toNat 60), .int 1]]), rfl, ?_, by decide, ?_, qq⟩
          · refine goodAll_app (goodAll_app lo.g ?_) ?_
            · simp only [CR.Good, CR.GoodAll] <;> decide +kernel
            · simp only [CR.Good, CR.GoodAll] <;> decide +kernel
          · show wtAll (_ ++ _ ++ _) + 1 ≤ 25000
            rw [wtAll_app, wtAll_app]
            have w1 : wtAll [PyData.tuple [.int (-1), .int 1], .tuple [.int 0, .int 1], .int (-1), .int (-1), .bool true] ≤ 100 := by decide +kernel
            have w2 : wtAll [PyData.tuple [.int 1, .int 1], .tuple [.str "empty", .int 0], .tuple [.int 0, .int 1], .tuple [.int (2 ^ Int.toNat 60), .int 1]] ≤ 100 := by decide +kernel
            omega
end
end K01

namespace K01
open PySem PySem.Spec PySem.W PySem.SeqAt PyProof.Rows L2 LamX CR
/-! ### what the top has written -/
section
variable {K : PySem.W.Frag} {mg : Str → Option Value} {h : Heap} {x : Str} {i : Nat} {ps : List Str} {f : Addr} {oc kV dc pm cd ct : Value} {od an : Option Addr} {sl : Array (Option Value)}
def mkDf (X : K.In h) (G : h.Ns mainGlobals mg) (a : nsIn K mainGlobals x = some (some (.ref f))) (l : K.lookup f = some ⟨oc, od, .func (fnOf x x (defArgs (topS i)) (defBody (topS i)) (defScope (topS i)) .none kV dc pm an cd ct), sl⟩) (c : codeIn K cd x = true) (k : keepIn K (.ref f) = true)
    (hb : ∀ (kV dc pm : Value) (an : Option Addr) (cd ct : Value) (us : List Value), us.length = ps.length → bindArgs (fnOf x x (defArgs (topS i)) (defBody (topS i)) (defScope (topS i)) .none kV dc pm an cd ct) ⟨us, []⟩ = pure (ps.zip us))
    (hk : ∀ (kV dc pm : Value) (an : Option Addr) (cd ct : Value) (us : List Value), us.length = ps.length → bindArgs (fnOf x x (defArgs (topS i)) (defBody (topS i)) (defScope (topS i)) .none kV dc pm an cd ct) ⟨[], ps.zip us⟩ = pure (ps.zip us)) : Df K mg x i ps :=
  ⟨f, fnOf x x (defArgs (topS i)) (defBody (topS i)) (defScope (topS i)) .none kV dc pm an cd ct, fun_mk l c k, mg_of X G a, .all fun us hl => hb kV dc pm an cd ct us hl, fun s ws _ hl => .of_eq (hk kV dc pm an cd ct ws hl)⟩
end
theorem exm_ab {K : PySem.W.Frag} {S R : Addr} {b : Bool} (h1 : subIn K (.ref S) (.type "BaseException") = some true) (h1' : subIn K (.ref R) (.type "BaseException") = some true) (h2 : isClsIn K R = true) (h3 : typeIn K (.ref R) = some (.type "type")) (h4 : subIn K (.ref S) (.ref R) = some b) : exmOne K (.ref S) (.ref R) = some b := by
  have e1 : (subIn K (.ref R) (.type "BaseException") == some true) = true := by rw [h1'] <;> rfl
  have e2 : ((clsIn K R).isSome && typeIn K (.ref R) == some (.type "type")) = true := by
    have h2' : (clsIn K R).isSome = true := h2
    rw [h2', h3] <;> rfl
  show (if (subIn K (.ref R) (.type "BaseException") == some true) = true then (if ((clsIn K R).isSome && typeIn K (.ref R) == some (.type "type")) = true then subIn K (.ref S) (.ref R) else none) else none) = some b
  rw [if_pos e1, if_pos e2]
  exact h4

theorem law_at {l : OpenLaw} {w : World} {K : PySem.W.Frag} {mg : Str → Option Value} {h : Heap} {fa : Addr} (T : Txt l.prog K mg) (B : Tb T) (D : Df K mg "law" 49 ["script"]) (hfa : mg "law" = some (.ref fa))
    (hb : ∀ (s : Shared) (u : Value), BindsTo s D.fd ⟨[u], []⟩ [("script", u)])
    (hT : ∀ p ∈ [(B.c46, B.P46), (B.c47, B.P47), (B.c48, B.P48)], h.get? p.2 = some { cls := .none, data := .fields #[] } ∧ K.lookup p.2 = none ∧ CodeHd h p.1 p.2) : LawAt l w K 10 63 "script" mg fa h := by
  have e := hfa.symm.trans D.g
  cases e
  refine ⟨D.fd, [(B.c46, B.P46), (B.c47, B.P47), (B.c48, B.P48)], spF K B.L (c49 K), fun p hp => (hT p hp).1, fun p hp => (hT p hp).2.1, fun p hp => (hT p hp).2.2, hb, fun H a ns hl _ hH hS => ?_, fun base _ _ hS tb => ?_⟩
  · refine ⟨⟨H, H, fun _ _ e => e, fun b o e g => by rw [e] at g; cases g⟩, [.st (scrStb K a ns)], none, fun x _ => x = .bl true, fun _ _ _ => False, rfl, ⟨fun p hp => ?_, fun m n e => by cases e⟩, .cons ⟨rfl, hS⟩ .nil, ⟨a, ns, rfl, by omega, fun _ => rfl⟩, fun v x b' A' _ _ _ _ r e => ?_, fun _ _ _ _ _ _ _ _ _ _ z => z⟩
    · rcases List.mem_cons.mp hp with z | hp
      · rw [z]
        exact .nil (hH (B.c46, B.P46) List.mem_cons_self)
      rcases List.mem_cons.mp hp with z | hp
      · rw [z]
        exact .nil (hH (B.c47, B.P47) (List.mem_cons_of_mem _ List.mem_cons_self))
      rcases List.mem_cons.mp hp with z | hp
      · rw [z]
        exact .nil (hH (B.c48, B.P48) (List.mem_cons_of_mem _ (List.mem_cons_of_mem _ List.mem_cons_self)))
      · cases hp
    · subst e
      cases r
      rfl
  · have t46 := tb (B.c46, B.P46) List.mem_cons_self
    have t47 := tb (B.c47, B.P47) (List.mem_cons_of_mem _ List.mem_cons_self)
    have t48 := tb (B.c48, B.P48) (List.mem_cons_of_mem _ (List.mem_cons_of_mem _ List.mem_cons_self))
    exact g49 T B D.F hS t46 t47 (g48 T B hS t48)
theorem law_fin {l : OpenLaw} {w : World} {K : PySem.W.Frag} {mg : Str → Option Value} {h : Heap} {fa CN CF CE : Addr} {c46 P46 c47 P47 c48 P48 : Addr} (hfa : mg "law" = some (.ref fa))
    (eN : Err l.prog K mg "BadNumber" "value" CN) (eF : Err l.prog K mg "BadFraction" "value" CF) (eE : Err0 K mg "Empty" CE) (hx : HdsX K [⟨CF, "fraction", some "value"⟩, ⟨CN, "number", some "value"⟩, ⟨CE, "empty", none⟩])
    (most : ∃ t, mg "MOST_SIZE" = some (.int (10 ^ 40) t)) (times : ∃ t, mg "MOST_TIMES" = some (.int 60 t)) (one : ∃ a, mg "ONE" = some (.ref a) ∧ ∀ H, Rp K H (.ref a) (.tuple [.int 1, .int 1]))
    (babs : mg "abs" = none) (blen : mg "len" = none) (bisi : mg "isinstance" = none) (bint : mg "int" = none) (bbool : mg "bool" = none) (btup : mg "tuple" = none) (ball : mg "all" = none) (brng : mg "range" = none) (bmin : mg "min" = none) (brep : mg "repr" = none)
    (d7 : Df K mg "is_integer" 7 ["value"]) (d8 : Df K mg "is_from" 8 ["value", "least", "most"]) (d9 : Df K mg "is_number" 9 ["value"]) (d10 : Df K mg "need_number" 10 ["number"]) (d11 : Df K mg "need_from" 11 ["value", "least", "most"]) (d12 : Df K mg "common_in" 12 ["number", "far_number"]) (d16 : Df K mg "is_cut" 16 ["value"]) (d17 : Df K mg "is_fraction" 17 ["value"]) (d18 : Df K mg "need_fraction" 18 ["fraction"]) (d19 : Df K mg "need_fractions" 19 ["fraction", "far_fraction"]) (d20 : Df K mg "fraction_in" 20 ["top", "bottom"]) (d21 : Df K mg "fraction_of" 21 ["number", "far_number"]) (d22 : Df K mg "plus_in" 22 ["one", "two"]) (d23 : Df K mg "less_in" 23 ["one", "two"]) (d24 : Df K mg "times_in" 24 ["one", "two"]) (d25 : Df K mg "over_in" 25 ["one", "two"]) (d26 : Df K mg "power_in" 26 ["one", "times"]) (d27 : Df K mg "fraction_plus" 27 ["fraction", "far_fraction"]) (d28 : Df K mg "fraction_less" 28 ["fraction", "far_fraction"]) (d29 : Df K mg "fraction_times" 29 ["fraction", "far_fraction"]) (d30 : Df K mg "fraction_over" 30 ["fraction", "far_fraction"]) (d31 : Df K mg "fraction_power" 31 ["fraction", "times"]) (d32 : Df K mg "compare_in" 32 ["one", "two"]) (d33 : Df K mg "compare" 33 ["fraction", "far_fraction"]) (d34 : Df K mg "floor_in" 34 ["one"]) (d35 : Df K mg "floor_of" 35 ["fraction"]) (d37 : Df K mg "_law_begun" 37 ["script", "turn"]) (d38 : Df K mg "_law_draw" 38 ["m", "span"]) (d39 : Df K mg "_law_of" 39 ["m", "some"]) (d40 : Df K mg "_law_like" 40 ["told", "due"]) (d41 : Df K mg "_law_common" 41 ["near_so", "far_so"]) (d42 : Df K mg "_law_heard" 42 ["call"]) (d43 : Df K mg "_law_cut" 43 ["top", "bottom"]) (d44 : Df K mg "_law_some" 44 ["m"]) (d45 : Df K mg "_law_high" 45 ["base", "often"]) (d46 : Df K mg "_law_two_right" 46 ["m", "near", "far"]) (d47 : Df K mg "_law_made_right" 47 ["m"]) (d48 : Df K mg "_law_refused_right" 48 ["good"])
    (D : Df K mg "law" 49 ["script"]) (hb : ∀ (s : Shared) (u : Value), BindsTo s D.fd ⟨[u], []⟩ [("script", u)])
    (e46 : d46.fd.code = .ref c46) (e47 : d47.fd.code = .ref c47) (e48 : d48.fd.code = .ref c48) (n1 : P46 ≠ P47) (n2 : P46 ≠ P48) (n3 : P47 ≠ P48)
    (hT : ∀ p ∈ [(c46, P46), (c47, P47), (c48, P48)], h.get? p.2 = some { cls := .none, data := .fields #[] } ∧ K.lookup p.2 = none ∧ CodeHd h p.1 p.2) : LawAt l w K 10 63 "script" mg fa h :=
  law_at (T := { CN := CN, CF := CF, CE := CE, eN := eN, eF := eF, eE := eE, hx := hx, most := most, times := times, one := one, babs := babs, blen := blen, bisi := bisi, bint := bint, bbool := bbool, btup := btup, ball := ball, brng := brng, bmin := bmin, brep := brep, d7 := d7, d8 := d8, d9 := d9, d10 := d10, d11 := d11, d12 := d12, d16 := d16, d17 := d17, d18 := d18, d19 := d19, d20 := d20, d21 := d21, d22 := d22, d23 := d23, d24 := d24, d25 := d25, d26 := d26, d27 := d27, d28 := d28, d29 := d29, d30 := d30, d31 := d31, d32 := d32, d33 := d33, d34 := d34, d35 := d35, d37 := d37, d38 := d38, d39 := d39, d40 := d40, d41 := d41, d42 := d42, d43 := d43, d44 := d44, d45 := d45, d46 := d46, d47 := d47, d48 := d48 })
    ⟨c46, P46, c47, P47, c48, P48, e46, e47, e48, n1, n2, n3⟩ D hfa hb hT
theorem tab_at {q : Program} {lo : List Str} {mean : ExcName → Option Value} {mg mb : Str → Option Value} {h : Heap} {K : PySem.W.Frag} {x : Str} {i : Nat} {ps : List Str} {D : Df K mg x i ps} {c P : Addr} {o1 : Value} {o2 : Option Addr} {o3 : Array (Option Value)} {vs : Array Value} (T : Top q lo mean mg mb h) (X : K.In h)
    (hq : ((recsOf q).any fun d => d.name == x) = true) (e : D.fd.code = .ref c) (lc : K.lookup c = some ⟨o1, o2, .fields vs, o3⟩) (hv : vs[11]? = some (.ref P)) : h.get? P = some { cls := .none, data := .fields #[] } ∧ CodeHd h c P := by
  obtain ⟨d, hd, hn⟩ := List.any_eq_true.mp hq
  have hn : d.name = x := beq_iff_eq.mp hn
  obtain ⟨a, o, fd, c', P', h1, h2, h3, h4, h5, h6⟩ := T.tab d hd
  rw [hn, D.g] at h1
  cases h1
  obtain ⟨oc, od, kV, doc, pm, an, cdv, ct, osl, efd, lk, _⟩ := D.F.ex
  have q1 := X _ _ lk
  rw [q1] at h2
  cases h2
  cases h3
  rw [e] at h4
  cases h4
  have C := CodeHd.of h5 h6
  obtain ⟨⟨o', vs', e1, e2, e3, e4⟩, hP⟩ := h6
  have q2 := X _ _ lc
  rw [q2] at e1
  cases e1
  cases e3
  rw [hv] at e4
  cases e4
  exact ⟨hP, C⟩
theorem tri {q : Program} {lo : List Str} {mean : ExcName → Option Value} {mg mb : Str → Option Value} {h : Heap} {K : PySem.W.Frag} {f46 C46 P46 : Addr} {oc46 kV46 dc46 pm46 cd46 ct46 oo46 : Value} {od46 an46 pp46 : Option Addr} {sl46 ss46 : Array (Option Value)} {vs46 : Array Value} {f47 C47 P47 : Addr} {oc47 kV47 dc47 pm47 cd47 ct47 oo47 : Value} {od47 an47 pp47 : Option Addr} {sl47 ss47 : Array (Option Value)} {vs47 : Array Value} {f48 C48 P48 : Addr} {oc48 kV48 dc48 pm48 cd48 ct48 oo48 : Value} {od48 an48 pp48 : Option Addr} {sl48 ss48 : Array (Option Value)} {vs48 : Array Value} (X : K.In h) (G : h.Ns mainGlobals mg) (T : Top q lo mean mg mb h) (hq : ∀ x ∈ (["_law_two_right", "_law_made_right", "_law_refused_right"] : List Str), ((recsOf q).any fun d => d.name == x) = true)
    (a46 : nsIn K mainGlobals "_law_two_right" = some (some (.ref f46))) (l46 : K.lookup f46 = some ⟨oc46, od46, .func (fnOf "_law_two_right" "_law_two_right" (defArgs (topS 46)) (defBody (topS 46)) (defScope (topS 46)) .none kV46 dc46 pm46 an46 cd46 ct46), sl46⟩) (q46 : codeIn K cd46 "_law_two_right" = true) (k46 : keepIn K (.ref f46) = true)
    (x46 : cd46 = .ref C46) (y46 : K.lookup C46 = some ⟨oo46, pp46, .fields vs46, ss46⟩) (v46 : vs46[11]? = some (.ref P46)) (z46 : K.lookup P46 = none)
    (a47 : nsIn K mainGlobals "_law_made_right" = some (some (.ref f47))) (l47 : K.lookup f47 = some ⟨oc47, od47, .func (fnOf "_law_made_right" "_law_made_right" (defArgs (topS 47)) (defBody (topS 47)) (defScope (topS 47)) .none kV47 dc47 pm47 an47 cd47 ct47), sl47⟩) (q47 : codeIn K cd47 "_law_made_right" = true) (k47 : keepIn K (.ref f47) = true)
    (x47 : cd47 = .ref C47) (y47 : K.lookup C47 = some ⟨oo47, pp47, .fields vs47, ss47⟩) (v47 : vs47[11]? = some (.ref P47)) (z47 : K.lookup P47 = none)
    (a48 : nsIn K mainGlobals "_law_refused_right" = some (some (.ref f48))) (l48 : K.lookup f48 = some ⟨oc48, od48, .func (fnOf "_law_refused_right" "_law_refused_right" (defArgs (topS 48)) (defBody (topS 48)) (defScope (topS 48)) .none kV48 dc48 pm48 an48 cd48 ct48), sl48⟩) (q48 : codeIn K cd48 "_law_refused_right" = true) (k48 : keepIn K (.ref f48) = true)
    (x48 : cd48 = .ref C48) (y48 : K.lookup C48 = some ⟨oo48, pp48, .fields vs48, ss48⟩) (v48 : vs48[11]? = some (.ref P48)) (z48 : K.lookup P48 = none)
    (n1 : P46 ≠ P47) (n2 : P46 ≠ P48) (n3 : P47 ≠ P48) : ∃ (d46 : Df K mg "_law_two_right" 46 ["m", "near", "far"]) (d47 : Df K mg "_law_made_right" 47 ["m"]) (d48 : Df K mg "_law_refused_right" 48 ["good"]) (c46 P46 c47 P47 c48 P48 : Addr),
      d46.fd.code = .ref c46 ∧ d47.fd.code = .ref c47 ∧ d48.fd.code = .ref c48 ∧ P46 ≠ P47 ∧ P46 ≠ P48 ∧ P47 ≠ P48 ∧ ∀ p ∈ [(c46, P46), (c47, P47), (c48, P48)], h.get? p.2 = some { cls := .none, data := .fields #[] } ∧ K.lookup p.2 = none ∧ CodeHd h p.1 p.2 := by
  have t46 := tab_at (D := mkDf (x := "_law_two_right") (i := 46) (ps := ["m", "near", "far"]) X G a46 l46 q46 k46 (fun _ _ _ _ _ _ us hl => match us, hl with | [_, _, _], _ => rfl) (fun _ _ _ _ _ _ us hl => match us, hl with | [_, _, _], _ => rfl)) T X (hq _ (by simp)) x46 y46 v46
  have t47 := tab_at (D := mkDf (x := "_law_made_right") (i := 47) (ps := ["m"]) X G a47 l47 q47 k47 (fun _ _ _ _ _ _ us hl => match us, hl with | [_], _ => rfl) (fun _ _ _ _ _ _ us hl => match us, hl with | [_], _ => rfl)) T X (hq _ (by simp)) x47 y47 v47
  have t48 := tab_at (D := mkDf (x := "_law_refused_right") (i := 48) (ps := ["good"]) X G a48 l48 q48 k48 (fun _ _ _ _ _ _ us hl => match us, hl with | [_], _ => rfl) (fun _ _ _ _ _ _ us hl => match us, hl with | [_], _ => rfl)) T X (hq _ (by simp)) x48 y48 v48
  refine ⟨mkDf X G a46 l46 q46 k46 (fun _ _ _ _ _ _ us hl => match us, hl with | [_, _, _], _ => rfl) (fun _ _ _ _ _ _ us hl => match us, hl with | [_, _, _], _ => rfl), mkDf X G a47 l47 q47 k47 (fun _ _ _ _ _ _ us hl => match us, hl with | [_], _ => rfl) (fun _ _ _ _ _ _ us hl => match us, hl with | [_], _ => rfl), mkDf X G a48 l48 q48 k48 (fun _ _ _ _ _ _ us hl => match us, hl with | [_], _ => rfl) (fun _ _ _ _ _ _ us hl => match us, hl with | [_], _ => rfl), C46, P46, C47, P47, C48, P48, x46, x47, x48, n1, n2, n3, fun p hp => ?_⟩
  rcases List.mem_cons.mp hp with e | hp
  · rw [e]
    exact ⟨t46.1, z46, t46.2⟩
  rcases List.mem_cons.mp hp with e | hp
  · rw [e]
    exact ⟨t47.1, z47, t47.2⟩
  rcases List.mem_cons.mp hp with e | hp
  · rw [e]
    exact ⟨t48.1, z48, t48.2⟩
  · cases hp
end K01

namespace K01
open PySem PySem.Spec PySem.W PySem.SeqAt PyProof.Rows L2 LamX CR
section
variable {P : Program} {K : PySem.W.Frag} {mg : Str → Option Value} {h : Heap}
theorem one_of (X : K.In h) (G : h.Ns mainGlobals mg) {a : Addr} {dd : Option Addr} {t1 t2 : Tok} {n : Nat} {sl : Array (Option Value)} (e : nsIn K mainGlobals "ONE" = some (some (.ref a))) (l : K.lookup a = some ⟨.type "tuple", dd, .seq #[.int 1 t1, .int 1 t2] n, sl⟩) : ∃ a, mg "ONE" = some (.ref a) ∧ ∀ H, Rp K H (.ref a) (.tuple [.int 1, .int 1]) :=
  ⟨a, mg_of X G e, fun H => .tup (.inr ⟨_, _, _, l, rfl, rfl, (by decide : 2 ≤ sizeLine), (show Vals [V.int 1, V.int 1] [Value.int 1 t1, Value.int 1 t2] from .cons ⟨t1, rfl⟩ (.cons ⟨t2, rfl⟩ .nil))⟩) (.cons (.int 1) (.cons (.int 1) .nil))⟩
theorem most_of (X : K.In h) (G : h.Ns mainGlobals mg) {t : Tok} (e : nsIn K mainGlobals "MOST_SIZE" = some (some (.int 10000000000000000000000000000000000000000 t))) : ∃ t, mg "MOST_SIZE" = some (.int (10 ^ 40) t) := by
  have z : (10 : Int) ^ 40 = 10000000000000000000000000000000000000000 := by decide
  rw [z]
  exact ⟨t, mg_of X G e⟩
theorem times_of (X : K.In h) (G : h.Ns mainGlobals mg) {t : Tok} (e : nsIn K mainGlobals "MOST_TIMES" = some (some (.int 60 t))) : ∃ t, mg "MOST_TIMES" = some (.int 60 t) := ⟨t, mg_of X G e⟩
theorem errs {CN CF CE : Addr} (aN : nsIn K mainGlobals "BadNumber" = some (some (.ref CN))) (aF : nsIn K mainGlobals "BadFraction" = some (some (.ref CF))) (aE : nsIn K mainGlobals "Empty" = some (some (.ref CE)))
    (eN : Err P K mg "BadNumber" "value" CN) (eF : Err P K mg "BadFraction" "value" CF) (eE : Err0 K mg "Empty" CE)
    (bN : subIn K (.ref CN) (.type "BaseException") = some true) (bF : subIn K (.ref CF) (.type "BaseException") = some true) (bE : subIn K (.ref CE) (.type "BaseException") = some true)
    (iN : isClsIn K CN = true) (iF : isClsIn K CF = true) (iE : isClsIn K CE = true) (tN : typeIn K (.ref CN) = some (.type "type")) (tF : typeIn K (.ref CF) = some (.type "type")) (tE : typeIn K (.ref CE) = some (.type "type"))
    (sNN : subIn K (.ref CN) (.ref CN) = some true) (sNF : subIn K (.ref CN) (.ref CF) = some false) (sNE : subIn K (.ref CN) (.ref CE) = some false)
    (sFN : subIn K (.ref CF) (.ref CN) = some false) (sFF : subIn K (.ref CF) (.ref CF) = some true) (sFE : subIn K (.ref CF) (.ref CE) = some false)
    (sEN : subIn K (.ref CE) (.ref CN) = some false) (sEF : subIn K (.ref CE) (.ref CF) = some false) (sEE : subIn K (.ref CE) (.ref CE) = some true) :
    ∃ CN CF CE, Err P K mg "BadNumber" "value" CN ∧ Err P K mg "BadFraction" "value" CF ∧ Err0 K mg "Empty" CE ∧ HdsX K [⟨CF, "fraction", some "value"⟩, ⟨CN, "number", some "value"⟩, ⟨CE, "empty", none⟩] := by
  have nFN : CF ≠ CN := fun z => by rw [z, sNN] at sFN; cases sFN
  have nFE : CF ≠ CE := fun z => by rw [z, sEE] at sFE; cases sFE
  have nNE : CN ≠ CE := fun z => by rw [z, sEE] at sNE; cases sNE
  refine ⟨CN, CF, CE, eN, eF, eE, ?_, ?_⟩
  · refine List.pairwise_cons.mpr ⟨fun g hg => ?_, List.pairwise_cons.mpr ⟨fun g hg => ?_, List.pairwise_cons.mpr ⟨fun g hg => (by cases hg), .nil⟩⟩⟩
    · simp only [List.mem_cons, List.not_mem_nil, or_false] at hg
      rcases hg with rfl | rfl
      · exact nFN
      · exact nFE
    · simp only [List.mem_cons, List.not_mem_nil, or_false] at hg
      subst hg
      exact nNE
  · intro a ha g hg
    simp only [List.mem_cons, List.not_mem_nil, or_false] at ha hg
    rcases ha with rfl | rfl | rfl <;> rcases hg with rfl | rfl | rfl
    · rw [decide_eq_true rfl]; exact exm_ab bF bF iF tF sFF
    · rw [decide_eq_false nFN]; exact exm_ab bF bN iN tN sFN
    · rw [decide_eq_false nFE]; exact exm_ab bF bE iE tE sFE
    · rw [decide_eq_false nFN.symm]; exact exm_ab bN bF iF tF sNF
    · rw [decide_eq_true rfl]; exact exm_ab bN bN iN tN sNN
    · rw [decide_eq_false nNE]; exact exm_ab bN bE iE tE sNE
    · rw [decide_eq_false nFE.symm]; exact exm_ab bE bF iF tF sEF
    · rw [decide_eq_false nNE.symm]; exact exm_ab bE bN iN tN sEN
    · rw [decide_eq_true rfl]; exact exm_ab bE bE iE tE sEE
end
theorem law_all {l : OpenLaw} {w : World} {K : PySem.W.Frag} {mg : Str → Option Value} {h : Heap} {fa CN CF CE aO : Addr} {tM tT t1 t2 : Tok} {nO : Nat} {ddO : Option Addr} {slO : Array (Option Value)} {q : Program}
    {f7 : Addr} {oc7 kV7 dc7 pm7 cd7 ct7 : Value} {od7 an7 : Option Addr} {sl7 : Array (Option Value)}
    {f8 : Addr} {oc8 kV8 dc8 pm8 cd8 ct8 : Value} {od8 an8 : Option Addr} {sl8 : Array (Option Value)}
    {f9 : Addr} {oc9 kV9 dc9 pm9 cd9 ct9 : Value} {od9 an9 : Option Addr} {sl9 : Array (Option Value)}
    {f10 : Addr} {oc10 kV10 dc10 pm10 cd10 ct10 : Value} {od10 an10 : Option Addr} {sl10 : Array (Option Value)}
    {f11 : Addr} {oc11 kV11 dc11 pm11 cd11 ct11 : Value} {od11 an11 : Option Addr} {sl11 : Array (Option Value)}
    {f12 : Addr} {oc12 kV12 dc12 pm12 cd12 ct12 : Value} {od12 an12 : Option Addr} {sl12 : Array (Option Value)}
    {f16 : Addr} {oc16 kV16 dc16 pm16 cd16 ct16 : Value} {od16 an16 : Option Addr} {sl16 : Array (Option Value)}
    {f17 : Addr} {oc17 kV17 dc17 pm17 cd17 ct17 : Value} {od17 an17 : Option Addr} {sl17 : Array (Option Value)}
    {f18 : Addr} {oc18 kV18 dc18 pm18 cd18 ct18 : Value} {od18 an18 : Option Addr} {sl18 : Array (Option Value)}
    {f19 : Addr} {oc19 kV19 dc19 pm19 cd19 ct19 : Value} {od19 an19 : Option Addr} {sl19 : Array (Option Value)}
    {f20 : Addr} {oc20 kV20 dc20 pm20 cd20 ct20 : Value} {od20 an20 : Option Addr} {sl20 : Array (Option Value)}
    {f21 : Addr} {oc21 kV21 dc21 pm21 cd21 ct21 : Value} {od21 an21 : Option Addr} {sl21 : Array (Option Value)}
    {f22 : Addr} {oc22 kV22 dc22 pm22 cd22 ct22 : Value} {od22 an22 : Option Addr} {sl22 : Array (Option Value)}
    {f23 : Addr} {oc23 kV23 dc23 pm23 cd23 ct23 : Value} {od23 an23 : Option Addr} {sl23 : Array (Option Value)}
    {f24 : Addr} {oc24 kV24 dc24 pm24 cd24 ct24 : Value} {od24 an24 : Option Addr} {sl24 : Array (Option Value)}
    {f25 : Addr} {oc25 kV25 dc25 pm25 cd25 ct25 : Value} {od25 an25 : Option Addr} {sl25 : Array (Option Value)}
    {f26 : Addr} {oc26 kV26 dc26 pm26 cd26 ct26 : Value} {od26 an26 : Option Addr} {sl26 : Array (Option Value)}
    {f27 : Addr} {oc27 kV27 dc27 pm27 cd27 ct27 : Value} {od27 an27 : Option Addr} {sl27 : Array (Option Value)}
    {f28 : Addr} {oc28 kV28 dc28 pm28 cd28 ct28 : Value} {od28 an28 : Option Addr} {sl28 : Array (Option Value)}
    {f29 : Addr} {oc29 kV29 dc29 pm29 cd29 ct29 : Value} {od29 an29 : Option Addr} {sl29 : Array (Option Value)}
    {f30 : Addr} {oc30 kV30 dc30 pm30 cd30 ct30 : Value} {od30 an30 : Option Addr} {sl30 : Array (Option Value)}
    {f31 : Addr} {oc31 kV31 dc31 pm31 cd31 ct31 : Value} {od31 an31 : Option Addr} {sl31 : Array (Option Value)}
    {f32 : Addr} {oc32 kV32 dc32 pm32 cd32 ct32 : Value} {od32 an32 : Option Addr} {sl32 : Array (Option Value)}
    {f33 : Addr} {oc33 kV33 dc33 pm33 cd33 ct33 : Value} {od33 an33 : Option Addr} {sl33 : Array (Option Value)}
    {f34 : Addr} {oc34 kV34 dc34 pm34 cd34 ct34 : Value} {od34 an34 : Option Addr} {sl34 : Array (Option Value)}
    {f35 : Addr} {oc35 kV35 dc35 pm35 cd35 ct35 : Value} {od35 an35 : Option Addr} {sl35 : Array (Option Value)}
    {f37 : Addr} {oc37 kV37 dc37 pm37 cd37 ct37 : Value} {od37 an37 : Option Addr} {sl37 : Array (Option Value)}
    {f38 : Addr} {oc38 kV38 dc38 pm38 cd38 ct38 : Value} {od38 an38 : Option Addr} {sl38 : Array (Option Value)}
    {f39 : Addr} {oc39 kV39 dc39 pm39 cd39 ct39 : Value} {od39 an39 : Option Addr} {sl39 : Array (Option Value)}
    {f40 : Addr} {oc40 kV40 dc40 pm40 cd40 ct40 : Value} {od40 an40 : Option Addr} {sl40 : Array (Option Value)}
    {f41 : Addr} {oc41 kV41 dc41 pm41 cd41 ct41 : Value} {od41 an41 : Option Addr} {sl41 : Array (Option Value)}
    {f42 : Addr} {oc42 kV42 dc42 pm42 cd42 ct42 : Value} {od42 an42 : Option Addr} {sl42 : Array (Option Value)}
    {f43 : Addr} {oc43 kV43 dc43 pm43 cd43 ct43 : Value} {od43 an43 : Option Addr} {sl43 : Array (Option Value)}
    {f44 : Addr} {oc44 kV44 dc44 pm44 cd44 ct44 : Value} {od44 an44 : Option Addr} {sl44 : Array (Option Value)}
    {f45 : Addr} {oc45 kV45 dc45 pm45 cd45 ct45 : Value} {od45 an45 : Option Addr} {sl45 : Array (Option Value)}
    {f46 C46 P46 : Addr} {oc46 kV46 dc46 pm46 cd46 ct46 oo46 : Value} {od46 an46 pp46 : Option Addr} {sl46 ss46 : Array (Option Value)} {vs46 : Array Value}
    {f47 C47 P47 : Addr} {oc47 kV47 dc47 pm47 cd47 ct47 oo47 : Value} {od47 an47 pp47 : Option Addr} {sl47 ss47 : Array (Option Value)} {vs47 : Array Value}
    {f48 C48 P48 : Addr} {oc48 kV48 dc48 pm48 cd48 ct48 oo48 : Value} {od48 an48 pp48 : Option Addr} {sl48 ss48 : Array (Option Value)} {vs48 : Array Value}
    {f49 : Addr} {oc49 kV49 dc49 pm49 cd49 ct49 : Value} {od49 an49 : Option Addr} {sl49 : Array (Option Value)}
    (X : K.In h) (G : h.Ns mainGlobals mg) (hTop : ∃ (lo : List Str) (mean : ExcName → Option Value) (mb : Str → Option Value), Top q lo mean mg mb h) (hfa : mg "law" = some (.ref fa))
    (hq : ∀ x ∈ (["_law_two_right", "_law_made_right", "_law_refused_right"] : List Str), ((recsOf q).any fun d => d.name == x) = true)
    (a7 : nsIn K mainGlobals "is_integer" = some (some (.ref f7))) (l7 : K.lookup f7 = some ⟨oc7, od7, .func (fnOf "is_integer" "is_integer" (defArgs (topS 7)) (defBody (topS 7)) (defScope (topS 7)) .none kV7 dc7 pm7 an7 cd7 ct7), sl7⟩) (q7 : codeIn K cd7 "is_integer" = true) (k7 : keepIn K (.ref f7) = true)
    (a8 : nsIn K mainGlobals "is_from" = some (some (.ref f8))) (l8 : K.lookup f8 = some ⟨oc8, od8, .func (fnOf "is_from" "is_from" (defArgs (topS 8)) (defBody (topS 8)) (defScope (topS 8)) .none kV8 dc8 pm8 an8 cd8 ct8), sl8⟩) (q8 : codeIn K cd8 "is_from" = true) (k8 : keepIn K (.ref f8) = true)
    (a9 : nsIn K mainGlobals "is_number" = some (some (.ref f9))) (l9 : K.lookup f9 = some ⟨oc9, od9, .func (fnOf "is_number" "is_number" (defArgs (topS 9)) (defBody (topS 9)) (defScope (topS 9)) .none kV9 dc9 pm9 an9 cd9 ct9), sl9⟩) (q9 : codeIn K cd9 "is_number" = true) (k9 : keepIn K (.ref f9) = true)
    (a10 : nsIn K mainGlobals "need_number" = some (some (.ref f10))) (l10 : K.lookup f10 = some ⟨oc10, od10, .func (fnOf "need_number" "need_number" (defArgs (topS 10)) (defBody (topS 10)) (defScope (topS 10)) .none kV10 dc10 pm10 an10 cd10 ct10), sl10⟩) (q10 : codeIn K cd10 "need_number" = true) (k10 : keepIn K (.ref f10) = true)
    (a11 : nsIn K mainGlobals "need_from" = some (some (.ref f11))) (l11 : K.lookup f11 = some ⟨oc11, od11, .func (fnOf "need_from" "need_from" (defArgs (topS 11)) (defBody (topS 11)) (defScope (topS 11)) .none kV11 dc11 pm11 an11 cd11 ct11), sl11⟩) (q11 : codeIn K cd11 "need_from" = true) (k11 : keepIn K (.ref f11) = true)
    (a12 : nsIn K mainGlobals "common_in" = some (some (.ref f12))) (l12 : K.lookup f12 = some ⟨oc12, od12, .func (fnOf "common_in" "common_in" (defArgs (topS 12)) (defBody (topS 12)) (defScope (topS 12)) .none kV12 dc12 pm12 an12 cd12 ct12), sl12⟩) (q12 : codeIn K cd12 "common_in" = true) (k12 : keepIn K (.ref f12) = true)
    (a16 : nsIn K mainGlobals "is_cut" = some (some (.ref f16))) (l16 : K.lookup f16 = some ⟨oc16, od16, .func (fnOf "is_cut" "is_cut" (defArgs (topS 16)) (defBody (topS 16)) (defScope (topS 16)) .none kV16 dc16 pm16 an16 cd16 ct16), sl16⟩) (q16 : codeIn K cd16 "is_cut" = true) (k16 : keepIn K (.ref f16) = true)
    (a17 : nsIn K mainGlobals "is_fraction" = some (some (.ref f17))) (l17 : K.lookup f17 = some ⟨oc17, od17, .func (fnOf "is_fraction" "is_fraction" (defArgs (topS 17)) (defBody (topS 17)) (defScope (topS 17)) .none kV17 dc17 pm17 an17 cd17 ct17), sl17⟩) (q17 : codeIn K cd17 "is_fraction" = true) (k17 : keepIn K (.ref f17) = true)
    (a18 : nsIn K mainGlobals "need_fraction" = some (some (.ref f18))) (l18 : K.lookup f18 = some ⟨oc18, od18, .func (fnOf "need_fraction" "need_fraction" (defArgs (topS 18)) (defBody (topS 18)) (defScope (topS 18)) .none kV18 dc18 pm18 an18 cd18 ct18), sl18⟩) (q18 : codeIn K cd18 "need_fraction" = true) (k18 : keepIn K (.ref f18) = true)
    (a19 : nsIn K mainGlobals "need_fractions" = some (some (.ref f19))) (l19 : K.lookup f19 = some ⟨oc19, od19, .func (fnOf "need_fractions" "need_fractions" (defArgs (topS 19)) (defBody (topS 19)) (defScope (topS 19)) .none kV19 dc19 pm19 an19 cd19 ct19), sl19⟩) (q19 : codeIn K cd19 "need_fractions" = true) (k19 : keepIn K (.ref f19) = true)
    (a20 : nsIn K mainGlobals "fraction_in" = some (some (.ref f20))) (l20 : K.lookup f20 = some ⟨oc20, od20, .func (fnOf "fraction_in" "fraction_in" (defArgs (topS 20)) (defBody (topS 20)) (defScope (topS 20)) .none kV20 dc20 pm20 an20 cd20 ct20), sl20⟩) (q20 : codeIn K cd20 "fraction_in" = true) (k20 : keepIn K (.ref f20) = true)
    (a21 : nsIn K mainGlobals "fraction_of" = some (some (.ref f21))) (l21 : K.lookup f21 = some ⟨oc21, od21, .func (fnOf "fraction_of" "fraction_of" (defArgs (topS 21)) (defBody (topS 21)) (defScope (topS 21)) .none kV21 dc21 pm21 an21 cd21 ct21), sl21⟩) (q21 : codeIn K cd21 "fraction_of" = true) (k21 : keepIn K (.ref f21) = true)
    (a22 : nsIn K mainGlobals "plus_in" = some (some (.ref f22))) (l22 : K.lookup f22 = some ⟨oc22, od22, .func (fnOf "plus_in" "plus_in" (defArgs (topS 22)) (defBody (topS 22)) (defScope (topS 22)) .none kV22 dc22 pm22 an22 cd22 ct22), sl22⟩) (q22 : codeIn K cd22 "plus_in" = true) (k22 : keepIn K (.ref f22) = true)
    (a23 : nsIn K mainGlobals "less_in" = some (some (.ref f23))) (l23 : K.lookup f23 = some ⟨oc23, od23, .func (fnOf "less_in" "less_in" (defArgs (topS 23)) (defBody (topS 23)) (defScope (topS 23)) .none kV23 dc23 pm23 an23 cd23 ct23), sl23⟩) (q23 : codeIn K cd23 "less_in" = true) (k23 : keepIn K (.ref f23) = true)
    (a24 : nsIn K mainGlobals "times_in" = some (some (.ref f24))) (l24 : K.lookup f24 = some ⟨oc24, od24, .func (fnOf "times_in" "times_in" (defArgs (topS 24)) (defBody (topS 24)) (defScope (topS 24)) .none kV24 dc24 pm24 an24 cd24 ct24), sl24⟩) (q24 : codeIn K cd24 "times_in" = true) (k24 : keepIn K (.ref f24) = true)
    (a25 : nsIn K mainGlobals "over_in" = some (some (.ref f25))) (l25 : K.lookup f25 = some ⟨oc25, od25, .func (fnOf "over_in" "over_in" (defArgs (topS 25)) (defBody (topS 25)) (defScope (topS 25)) .none kV25 dc25 pm25 an25 cd25 ct25), sl25⟩) (q25 : codeIn K cd25 "over_in" = true) (k25 : keepIn K (.ref f25) = true)
    (a26 : nsIn K mainGlobals "power_in" = some (some (.ref f26))) (l26 : K.lookup f26 = some ⟨oc26, od26, .func (fnOf "power_in" "power_in" (defArgs (topS 26)) (defBody (topS 26)) (defScope (topS 26)) .none kV26 dc26 pm26 an26 cd26 ct26), sl26⟩) (q26 : codeIn K cd26 "power_in" = true) (k26 : keepIn K (.ref f26) = true)
    (a27 : nsIn K mainGlobals "fraction_plus" = some (some (.ref f27))) (l27 : K.lookup f27 = some ⟨oc27, od27, .func (fnOf "fraction_plus" "fraction_plus" (defArgs (topS 27)) (defBody (topS 27)) (defScope (topS 27)) .none kV27 dc27 pm27 an27 cd27 ct27), sl27⟩) (q27 : codeIn K cd27 "fraction_plus" = true) (k27 : keepIn K (.ref f27) = true)
    (a28 : nsIn K mainGlobals "fraction_less" = some (some (.ref f28))) (l28 : K.lookup f28 = some ⟨oc28, od28, .func (fnOf "fraction_less" "fraction_less" (defArgs (topS 28)) (defBody (topS 28)) (defScope (topS 28)) .none kV28 dc28 pm28 an28 cd28 ct28), sl28⟩) (q28 : codeIn K cd28 "fraction_less" = true) (k28 : keepIn K (.ref f28) = true)
    (a29 : nsIn K mainGlobals "fraction_times" = some (some (.ref f29))) (l29 : K.lookup f29 = some ⟨oc29, od29, .func (fnOf "fraction_times" "fraction_times" (defArgs (topS 29)) (defBody (topS 29)) (defScope (topS 29)) .none kV29 dc29 pm29 an29 cd29 ct29), sl29⟩) (q29 : codeIn K cd29 "fraction_times" = true) (k29 : keepIn K (.ref f29) = true)
    (a30 : nsIn K mainGlobals "fraction_over" = some (some (.ref f30))) (l30 : K.lookup f30 = some ⟨oc30, od30, .func (fnOf "fraction_over" "fraction_over" (defArgs (topS 30)) (defBody (topS 30)) (defScope (topS 30)) .none kV30 dc30 pm30 an30 cd30 ct30), sl30⟩) (q30 : codeIn K cd30 "fraction_over" = true) (k30 : keepIn K (.ref f30) = true)
    (a31 : nsIn K mainGlobals "fraction_power" = some (some (.ref f31))) (l31 : K.lookup f31 = some ⟨oc31, od31, .func (fnOf "fraction_power" "fraction_power" (defArgs (topS 31)) (defBody (topS 31)) (defScope (topS 31)) .none kV31 dc31 pm31 an31 cd31 ct31), sl31⟩) (q31 : codeIn K cd31 "fraction_power" = true) (k31 : keepIn K (.ref f31) = true)
    (a32 : nsIn K mainGlobals "compare_in" = some (some (.ref f32))) (l32 : K.lookup f32 = some ⟨oc32, od32, .func (fnOf "compare_in" "compare_in" (defArgs (topS 32)) (defBody (topS 32)) (defScope (topS 32)) .none kV32 dc32 pm32 an32 cd32 ct32), sl32⟩) (q32 : codeIn K cd32 "compare_in" = true) (k32 : keepIn K (.ref f32) = true)
    (a33 : nsIn K mainGlobals "compare" = some (some (.ref f33))) (l33 : K.lookup f33 = some ⟨oc33, od33, .func (fnOf "compare" "compare" (defArgs (topS 33)) (defBody (topS 33)) (defScope (topS 33)) .none kV33 dc33 pm33 an33 cd33 ct33), sl33⟩) (q33 : codeIn K cd33 "compare" = true) (k33 : keepIn K (.ref f33) = true)
    (a34 : nsIn K mainGlobals "floor_in" = some (some (.ref f34))) (l34 : K.lookup f34 = some ⟨oc34, od34, .func (fnOf "floor_in" "floor_in" (defArgs (topS 34)) (defBody (topS 34)) (defScope (topS 34)) .none kV34 dc34 pm34 an34 cd34 ct34), sl34⟩) (q34 : codeIn K cd34 "floor_in" = true) (k34 : keepIn K (.ref f34) = true)
    (a35 : nsIn K mainGlobals "floor_of" = some (some (.ref f35))) (l35 : K.lookup f35 = some ⟨oc35, od35, .func (fnOf "floor_of" "floor_of" (defArgs (topS 35)) (defBody (topS 35)) (defScope (topS 35)) .none kV35 dc35 pm35 an35 cd35 ct35), sl35⟩) (q35 : codeIn K cd35 "floor_of" = true) (k35 : keepIn K (.ref f35) = true)
    (a37 : nsIn K mainGlobals "_law_begun" = some (some (.ref f37))) (l37 : K.lookup f37 = some ⟨oc37, od37, .func (fnOf "_law_begun" "_law_begun" (defArgs (topS 37)) (defBody (topS 37)) (defScope (topS 37)) .none kV37 dc37 pm37 an37 cd37 ct37), sl37⟩) (q37 : codeIn K cd37 "_law_begun" = true) (k37 : keepIn K (.ref f37) = true)
    (a38 : nsIn K mainGlobals "_law_draw" = some (some (.ref f38))) (l38 : K.lookup f38 = some ⟨oc38, od38, .func (fnOf "_law_draw" "_law_draw" (defArgs (topS 38)) (defBody (topS 38)) (defScope (topS 38)) .none kV38 dc38 pm38 an38 cd38 ct38), sl38⟩) (q38 : codeIn K cd38 "_law_draw" = true) (k38 : keepIn K (.ref f38) = true)
    (a39 : nsIn K mainGlobals "_law_of" = some (some (.ref f39))) (l39 : K.lookup f39 = some ⟨oc39, od39, .func (fnOf "_law_of" "_law_of" (defArgs (topS 39)) (defBody (topS 39)) (defScope (topS 39)) .none kV39 dc39 pm39 an39 cd39 ct39), sl39⟩) (q39 : codeIn K cd39 "_law_of" = true) (k39 : keepIn K (.ref f39) = true)
    (a40 : nsIn K mainGlobals "_law_like" = some (some (.ref f40))) (l40 : K.lookup f40 = some ⟨oc40, od40, .func (fnOf "_law_like" "_law_like" (defArgs (topS 40)) (defBody (topS 40)) (defScope (topS 40)) .none kV40 dc40 pm40 an40 cd40 ct40), sl40⟩) (q40 : codeIn K cd40 "_law_like" = true) (k40 : keepIn K (.ref f40) = true)
    (a41 : nsIn K mainGlobals "_law_common" = some (some (.ref f41))) (l41 : K.lookup f41 = some ⟨oc41, od41, .func (fnOf "_law_common" "_law_common" (defArgs (topS 41)) (defBody (topS 41)) (defScope (topS 41)) .none kV41 dc41 pm41 an41 cd41 ct41), sl41⟩) (q41 : codeIn K cd41 "_law_common" = true) (k41 : keepIn K (.ref f41) = true)
    (a42 : nsIn K mainGlobals "_law_heard" = some (some (.ref f42))) (l42 : K.lookup f42 = some ⟨oc42, od42, .func (fnOf "_law_heard" "_law_heard" (defArgs (topS 42)) (defBody (topS 42)) (defScope (topS 42)) .none kV42 dc42 pm42 an42 cd42 ct42), sl42⟩) (q42 : codeIn K cd42 "_law_heard" = true) (k42 : keepIn K (.ref f42) = true)
    (a43 : nsIn K mainGlobals "_law_cut" = some (some (.ref f43))) (l43 : K.lookup f43 = some ⟨oc43, od43, .func (fnOf "_law_cut" "_law_cut" (defArgs (topS 43)) (defBody (topS 43)) (defScope (topS 43)) .none kV43 dc43 pm43 an43 cd43 ct43), sl43⟩) (q43 : codeIn K cd43 "_law_cut" = true) (k43 : keepIn K (.ref f43) = true)
    (a44 : nsIn K mainGlobals "_law_some" = some (some (.ref f44))) (l44 : K.lookup f44 = some ⟨oc44, od44, .func (fnOf "_law_some" "_law_some" (defArgs (topS 44)) (defBody (topS 44)) (defScope (topS 44)) .none kV44 dc44 pm44 an44 cd44 ct44), sl44⟩) (q44 : codeIn K cd44 "_law_some" = true) (k44 : keepIn K (.ref f44) = true)
    (a45 : nsIn K mainGlobals "_law_high" = some (some (.ref f45))) (l45 : K.lookup f45 = some ⟨oc45, od45, .func (fnOf "_law_high" "_law_high" (defArgs (topS 45)) (defBody (topS 45)) (defScope (topS 45)) .none kV45 dc45 pm45 an45 cd45 ct45), sl45⟩) (q45 : codeIn K cd45 "_law_high" = true) (k45 : keepIn K (.ref f45) = true)
    (a46 : nsIn K mainGlobals "_law_two_right" = some (some (.ref f46))) (l46 : K.lookup f46 = some ⟨oc46, od46, .func (fnOf "_law_two_right" "_law_two_right" (defArgs (topS 46)) (defBody (topS 46)) (defScope (topS 46)) .none kV46 dc46 pm46 an46 cd46 ct46), sl46⟩) (q46 : codeIn K cd46 "_law_two_right" = true) (k46 : keepIn K (.ref f46) = true) (x46 : cd46 = .ref C46) (y46 : K.lookup C46 = some ⟨oo46, pp46, .fields vs46, ss46⟩) (v46 : vs46[11]? = some (.ref P46)) (z46 : K.lookup P46 = none)
    (a47 : nsIn K mainGlobals "_law_made_right" = some (some (.ref f47))) (l47 : K.lookup f47 = some ⟨oc47, od47, .func (fnOf "_law_made_right" "_law_made_right" (defArgs (topS 47)) (defBody (topS 47)) (defScope (topS 47)) .none kV47 dc47 pm47 an47 cd47 ct47), sl47⟩) (q47 : codeIn K cd47 "_law_made_right" = true) (k47 : keepIn K (.ref f47) = true) (x47 : cd47 = .ref C47) (y47 : K.lookup C47 = some ⟨oo47, pp47, .fields vs47, ss47⟩) (v47 : vs47[11]? = some (.ref P47)) (z47 : K.lookup P47 = none)
    (a48 : nsIn K mainGlobals "_law_refused_right" = some (some (.ref f48))) (l48 : K.lookup f48 = some ⟨oc48, od48, .func (fnOf "_law_refused_right" "_law_refused_right" (defArgs (topS 48)) (defBody (topS 48)) (defScope (topS 48)) .none kV48 dc48 pm48 an48 cd48 ct48), sl48⟩) (q48 : codeIn K cd48 "_law_refused_right" = true) (k48 : keepIn K (.ref f48) = true) (x48 : cd48 = .ref C48) (y48 : K.lookup C48 = some ⟨oo48, pp48, .fields vs48, ss48⟩) (v48 : vs48[11]? = some (.ref P48)) (z48 : K.lookup P48 = none)
    (a49 : nsIn K mainGlobals "law" = some (some (.ref f49))) (l49 : K.lookup f49 = some ⟨oc49, od49, .func (fnOf "law" "law" (defArgs (topS 49)) (defBody (topS 49)) (defScope (topS 49)) .none kV49 dc49 pm49 an49 cd49 ct49), sl49⟩) (q49 : codeIn K cd49 "law" = true) (k49 : keepIn K (.ref f49) = true)
    (n1 : P46 ≠ P47) (n2 : P46 ≠ P48) (n3 : P47 ≠ P48)
    (b0 : nsIn K mainGlobals "abs" = some none) (b1 : nsIn K mainGlobals "len" = some none) (b2 : nsIn K mainGlobals "isinstance" = some none) (b3 : nsIn K mainGlobals "int" = some none) (b4 : nsIn K mainGlobals "bool" = some none) (b5 : nsIn K mainGlobals "tuple" = some none) (b6 : nsIn K mainGlobals "all" = some none) (b7 : nsIn K mainGlobals "range" = some none) (b8 : nsIn K mainGlobals "min" = some none) (b9 : nsIn K mainGlobals "repr" = some none)
    (cM : nsIn K mainGlobals "MOST_SIZE" = some (some (.int 10000000000000000000000000000000000000000 tM))) (cT : nsIn K mainGlobals "MOST_TIMES" = some (some (.int 60 tT))) (eO : nsIn K mainGlobals "ONE" = some (some (.ref aO))) (lO : K.lookup aO = some ⟨.type "tuple", ddO, .seq #[.int 1 t1, .int 1 t2] nO, slO⟩)
    (aN : nsIn K mainGlobals "BadNumber" = some (some (.ref CN))) (aF : nsIn K mainGlobals "BadFraction" = some (some (.ref CF))) (aE : nsIn K mainGlobals "Empty" = some (some (.ref CE)))
    (eN : Err l.prog K mg "BadNumber" "value" CN) (eF : Err l.prog K mg "BadFraction" "value" CF) (eE : Err0 K mg "Empty" CE)
    (bN : subIn K (.ref CN) (.type "BaseException") = some true) (bF : subIn K (.ref CF) (.type "BaseException") = some true) (bE : subIn K (.ref CE) (.type "BaseException") = some true)
    (iN : isClsIn K CN = true) (iF : isClsIn K CF = true) (iE : isClsIn K CE = true) (tN : typeIn K (.ref CN) = some (.type "type")) (tF : typeIn K (.ref CF) = some (.type "type")) (tE : typeIn K (.ref CE) = some (.type "type"))
    (sNN : subIn K (.ref CN) (.ref CN) = some true) (sNF : subIn K (.ref CN) (.ref CF) = some false) (sNE : subIn K (.ref CN) (.ref CE) = some false)
    (sFN : subIn K (.ref CF) (.ref CN) = some false) (sFF : subIn K (.ref CF) (.ref CF) = some true) (sFE : subIn K (.ref CF) (.ref CE) = some false)
    (sEN : subIn K (.ref CE) (.ref CN) = some false) (sEF : subIn K (.ref CE) (.ref CF) = some false) (sEE : subIn K (.ref CE) (.ref CE) = some true) : LawAt l w K 10 63 "script" mg fa h := by
  obtain ⟨lo, mean, mb, TT⟩ := hTop
  obtain ⟨CN, CF, CE, eN, eF, eE, hx⟩ := errs aN aF aE eN eF eE bN bF bE iN iF iE tN tF tE sNN sNF sNE sFN sFF sFE sEN sEF sEE
  have d7 : Df K mg "is_integer" 7 ["value"] := mkDf X G a7 l7 q7 k7 (fun _ _ _ _ _ _ us hl => match us, hl with | [_], _ => rfl) (fun _ _ _ _ _ _ us hl => match us, hl with | [_], _ => rfl)
  have d8 : Df K mg "is_from" 8 ["value", "least", "most"] := mkDf X G a8 l8 q8 k8 (fun _ _ _ _ _ _ us hl => match us, hl with | [_, _, _], _ => rfl) (fun _ _ _ _ _ _ us hl => match us, hl with | [_, _, _], _ => rfl)
  have d9 : Df K mg "is_number" 9 ["value"] := mkDf X G a9 l9 q9 k9 (fun _ _ _ _ _ _ us hl => match us, hl with | [_], _ => rfl) (fun _ _ _ _ _ _ us hl => match us, hl with | [_], _ => rfl)
  have d10 : Df K mg "need_number" 10 ["number"] := mkDf X G a10 l10 q10 k10 (fun _ _ _ _ _ _ us hl => match us, hl with | [_], _ => rfl) (fun _ _ _ _ _ _ us hl => match us, hl with | [_], _ => rfl)
  have d11 : Df K mg "need_from" 11 ["value", "least", "most"] := mkDf X G a11 l11 q11 k11 (fun _ _ _ _ _ _ us hl => match us, hl with | [_, _, _], _ => rfl) (fun _ _ _ _ _ _ us hl => match us, hl with | [_, _, _], _ => rfl)
  have d12 : Df K mg "common_in" 12 ["number", "far_number"] := mkDf X G a12 l12 q12 k12 (fun _ _ _ _ _ _ us hl => match us, hl with | [_, _], _ => rfl) (fun _ _ _ _ _ _ us hl => match us, hl with | [_, _], _ => rfl)
  have d16 : Df K mg "is_cut" 16 ["value"] := mkDf X G a16 l16 q16 k16 (fun _ _ _ _ _ _ us hl => match us, hl with | [_], _ => rfl) (fun _ _ _ _ _ _ us hl => match us, hl with | [_], _ => rfl)
  have d17 : Df K mg "is_fraction" 17 ["value"] := mkDf X G a17 l17 q17 k17 (fun _ _ _ _ _ _ us hl => match us, hl with | [_], _ => rfl) (fun _ _ _ _ _ _ us hl => match us, hl with | [_], _ => rfl)
  have d18 : Df K mg "need_fraction" 18 ["fraction"] := mkDf X G a18 l18 q18 k18 (fun _ _ _ _ _ _ us hl => match us, hl with | [_], _ => rfl) (fun _ _ _ _ _ _ us hl => match us, hl with | [_], _ => rfl)
  have d19 : Df K mg "need_fractions" 19 ["fraction", "far_fraction"] := mkDf X G a19 l19 q19 k19 (fun _ _ _ _ _ _ us hl => match us, hl with | [_, _], _ => rfl) (fun _ _ _ _ _ _ us hl => match us, hl with | [_, _], _ => rfl)
  have d20 : Df K mg "fraction_in" 20 ["top", "bottom"] := mkDf X G a20 l20 q20 k20 (fun _ _ _ _ _ _ us hl => match us, hl with | [_, _], _ => rfl) (fun _ _ _ _ _ _ us hl => match us, hl with | [_, _], _ => rfl)
  have d21 : Df K mg "fraction_of" 21 ["number", "far_number"] := mkDf X G a21 l21 q21 k21 (fun _ _ _ _ _ _ us hl => match us, hl with | [_, _], _ => rfl) (fun _ _ _ _ _ _ us hl => match us, hl with | [_, _], _ => rfl)
  have d22 : Df K mg "plus_in" 22 ["one", "two"] := mkDf X G a22 l22 q22 k22 (fun _ _ _ _ _ _ us hl => match us, hl with | [_, _], _ => rfl) (fun _ _ _ _ _ _ us hl => match us, hl with | [_, _], _ => rfl)
  have d23 : Df K mg "less_in" 23 ["one", "two"] := mkDf X G a23 l23 q23 k23 (fun _ _ _ _ _ _ us hl => match us, hl with | [_, _], _ => rfl) (fun _ _ _ _ _ _ us hl => match us, hl with | [_, _], _ => rfl)
  have d24 : Df K mg "times_in" 24 ["one", "two"] := mkDf X G a24 l24 q24 k24 (fun _ _ _ _ _ _ us hl => match us, hl with | [_, _], _ => rfl) (fun _ _ _ _ _ _ us hl => match us, hl with | [_, _], _ => rfl)
  have d25 : Df K mg "over_in" 25 ["one", "two"] := mkDf X G a25 l25 q25 k25 (fun _ _ _ _ _ _ us hl => match us, hl with | [_, _], _ => rfl) (fun _ _ _ _ _ _ us hl => match us, hl with | [_, _], _ => rfl)
  have d26 : Df K mg "power_in" 26 ["one", "times"] := mkDf X G a26 l26 q26 k26 (fun _ _ _ _ _ _ us hl => match us, hl with | [_, _], _ => rfl) (fun _ _ _ _ _ _ us hl => match us, hl with | [_, _], _ => rfl)
  have d27 : Df K mg "fraction_plus" 27 ["fraction", "far_fraction"] := mkDf X G a27 l27 q27 k27 (fun _ _ _ _ _ _ us hl => match us, hl with | [_, _], _ => rfl) (fun _ _ _ _ _ _ us hl => match us, hl with | [_, _], _ => rfl)
  have d28 : Df K mg "fraction_less" 28 ["fraction", "far_fraction"] := mkDf X G a28 l28 q28 k28 (fun _ _ _ _ _ _ us hl => match us, hl with | [_, _], _ => rfl) (fun _ _ _ _ _ _ us hl => match us, hl with | [_, _], _ => rfl)
  have d29 : Df K mg "fraction_times" 29 ["fraction", "far_fraction"] := mkDf X G a29 l29 q29 k29 (fun _ _ _ _ _ _ us hl => match us, hl with | [_, _], _ => rfl) (fun _ _ _ _ _ _ us hl => match us, hl with | [_, _], _ => rfl)
  have d30 : Df K mg "fraction_over" 30 ["fraction", "far_fraction"] := mkDf X G a30 l30 q30 k30 (fun _ _ _ _ _ _ us hl => match us, hl with | [_, _], _ => rfl) (fun _ _ _ _ _ _ us hl => match us, hl with | [_, _], _ => rfl)
  have d31 : Df K mg "fraction_power" 31 ["fraction", "times"] := mkDf X G a31 l31 q31 k31 (fun _ _ _ _ _ _ us hl => match us, hl with | [_, _], _ => rfl) (fun _ _ _ _ _ _ us hl => match us, hl with | [_, _], _ => rfl)
  have d32 : Df K mg "compare_in" 32 ["one", "two"] := mkDf X G a32 l32 q32 k32 (fun _ _ _ _ _ _ us hl => match us, hl with | [_, _], _ => rfl) (fun _ _ _ _ _ _ us hl => match us, hl with | [_, _], _ => rfl)
  have d33 : Df K mg "compare" 33 ["fraction", "far_fraction"] := mkDf X G a33 l33 q33 k33 (fun _ _ _ _ _ _ us hl => match us, hl with | [_, _], _ => rfl) (fun _ _ _ _ _ _ us hl => match us, hl with | [_, _], _ => rfl)
  have d34 : Df K mg "floor_in" 34 ["one"] := mkDf X G a34 l34 q34 k34 (fun _ _ _ _ _ _ us hl => match us, hl with | [_], _ => rfl) (fun _ _ _ _ _ _ us hl => match us, hl with | [_], _ => rfl)
  have d35 : Df K mg "floor_of" 35 ["fraction"] := mkDf X G a35 l35 q35 k35 (fun _ _ _ _ _ _ us hl => match us, hl with | [_], _ => rfl) (fun _ _ _ _ _ _ us hl => match us, hl with | [_], _ => rfl)
  have d37 : Df K mg "_law_begun" 37 ["script", "turn"] := mkDf X G a37 l37 q37 k37 (fun _ _ _ _ _ _ us hl => match us, hl with | [_, _], _ => rfl) (fun _ _ _ _ _ _ us hl => match us, hl with | [_, _], _ => rfl)
  have d38 : Df K mg "_law_draw" 38 ["m", "span"] := mkDf X G a38 l38 q38 k38 (fun _ _ _ _ _ _ us hl => match us, hl with | [_, _], _ => rfl) (fun _ _ _ _ _ _ us hl => match us, hl with | [_, _], _ => rfl)
  have d39 : Df K mg "_law_of" 39 ["m", "some"] := mkDf X G a39 l39 q39 k39 (fun _ _ _ _ _ _ us hl => match us, hl with | [_, _], _ => rfl) (fun _ _ _ _ _ _ us hl => match us, hl with | [_, _], _ => rfl)
  have d40 : Df K mg "_law_like" 40 ["told", "due"] := mkDf X G a40 l40 q40 k40 (fun _ _ _ _ _ _ us hl => match us, hl with | [_, _], _ => rfl) (fun _ _ _ _ _ _ us hl => match us, hl with | [_, _], _ => rfl)
  have d41 : Df K mg "_law_common" 41 ["near_so", "far_so"] := mkDf X G a41 l41 q41 k41 (fun _ _ _ _ _ _ us hl => match us, hl with | [_, _], _ => rfl) (fun _ _ _ _ _ _ us hl => match us, hl with | [_, _], _ => rfl)
  have d42 : Df K mg "_law_heard" 42 ["call"] := mkDf X G a42 l42 q42 k42 (fun _ _ _ _ _ _ us hl => match us, hl with | [_], _ => rfl) (fun _ _ _ _ _ _ us hl => match us, hl with | [_], _ => rfl)
  have d43 : Df K mg "_law_cut" 43 ["top", "bottom"] := mkDf X G a43 l43 q43 k43 (fun _ _ _ _ _ _ us hl => match us, hl with | [_, _], _ => rfl) (fun _ _ _ _ _ _ us hl => match us, hl with | [_, _], _ => rfl)
  have d44 : Df K mg "_law_some" 44 ["m"] := mkDf X G a44 l44 q44 k44 (fun _ _ _ _ _ _ us hl => match us, hl with | [_], _ => rfl) (fun _ _ _ _ _ _ us hl => match us, hl with | [_], _ => rfl)
  have d45 : Df K mg "_law_high" 45 ["base", "often"] := mkDf X G a45 l45 q45 k45 (fun _ _ _ _ _ _ us hl => match us, hl with | [_, _], _ => rfl) (fun _ _ _ _ _ _ us hl => match us, hl with | [_, _], _ => rfl)
  obtain ⟨d46, d47, d48, c46, P46, c47, P47, c48, P48, e46, e47, e48, n1, n2, n3, hT⟩ := tri X G TT hq a46 l46 q46 k46 x46 y46 v46 z46 a47 l47 q47 k47 x47 y47 v47 z47 a48 l48 q48 k48 x48 y48 v48 z48 n1 n2 n3
  exact law_fin hfa eN eF eE hx (most_of X G cM) (times_of X G cT) (one_of X G eO lO) (mg_none_of X G b0) (mg_none_of X G b1) (mg_none_of X G b2) (mg_none_of X G b3) (mg_none_of X G b4) (mg_none_of X G b5) (mg_none_of X G b6) (mg_none_of X G b7) (mg_none_of X G b8) (mg_none_of X G b9) d7 d8 d9 d10 d11 d12 d16 d17 d18 d19 d20 d21 d22 d23 d24 d25 d26 d27 d28 d29 d30 d31 d32 d33 d34 d35 d37 d38 d39 d40 d41 d42 d43 d44 d45 d46 d47 d48 (mkDf X G a49 l49 q49 k49 (fun _ _ _ _ _ _ us hl => match us, hl with | [_], _ => rfl) (fun _ _ _ _ _ _ us hl => match us, hl with | [_], _ => rfl)) (fun s u => .of_eq rfl) e46 e47 e48 n1 n2 n3 hT
end K01

open PySem PySem.W PyProof.Rows
set_option maxHeartbeats 0 in
theorem PySem.Challenge.cw_cutrooms_k01_whole_fractions_holds : PySem.Challenge.rw_cutrooms_k01_whole_fractions.Holds := by
  w_on; o_law; k_head; (case hw => w_witness2)
  k_fill
  refine CR.walkG (l := PySem.Challenge.rw_cutrooms_k01_whole_fractions) (n := 63) (k := 10) (x := "script") rfl (by decide) rfl ⟨rfl, by decide, by decide⟩ (by first | rfl | decide +kernel) (fun w h Y => PySem.W.km_in_of Y) ?F
  case F =>
    intro w mg fa h Y KX G hTop hmg
    refine' K01.law_all KX G hTop hmg ?hq ?a7 ?l7 ?q7 ?k7 ?a8 ?l8 ?q8 ?k8 ?a9 ?l9 ?q9 ?k9 ?a10 ?l10 ?q10 ?k10 ?a11 ?l11 ?q11 ?k11 ?a12 ?l12 ?q12 ?k12 ?a16 ?l16 ?q16 ?k16 ?a17 ?l17 ?q17 ?k17 ?a18 ?l18 ?q18 ?k18 ?a19 ?l19 ?q19 ?k19 ?a20 ?l20 ?q20 ?k20 ?a21 ?l21 ?q21 ?k21 ?a22 ?l22 ?q22 ?k22 ?a23 ?l23 ?q23 ?k23 ?a24 ?l24 ?q24 ?k24 ?a25 ?l25 ?q25 ?k25 ?a26 ?l26 ?q26 ?k26 ?a27 ?l27 ?q27 ?k27 ?a28 ?l28 ?q28 ?k28 ?a29 ?l29 ?q29 ?k29 ?a30 ?l30 ?q30 ?k30 ?a31 ?l31 ?q31 ?k31 ?a32 ?l32 ?q32 ?k32 ?a33 ?l33 ?q33 ?k33 ?a34 ?l34 ?q34 ?k34 ?a35 ?l35 ?q35 ?k35 ?a37 ?l37 ?q37 ?k37 ?a38 ?l38 ?q38 ?k38 ?a39 ?l39 ?q39 ?k39 ?a40 ?l40 ?q40 ?k40 ?a41 ?l41 ?q41 ?k41 ?a42 ?l42 ?q42 ?k42 ?a43 ?l43 ?q43 ?k43 ?a44 ?l44 ?q44 ?k44 ?a45 ?l45 ?q45 ?k45 ?a46 ?l46 ?q46 ?k46 ?x46 ?y46 ?v46 ?z46 ?a47 ?l47 ?q47 ?k47 ?x47 ?y47 ?v47 ?z47 ?a48 ?l48 ?q48 ?k48 ?x48 ?y48 ?v48 ?z48 ?a49 ?l49 ?q49 ?k49 ?n1 ?n2 ?n3 ?b0 ?b1 ?b2 ?b3 ?b4 ?b5 ?b6 ?b7 ?b8 ?b9 ?cM ?cT ?eO ?lO ?aN ?aF ?aE ?eN ?eF ?eE ?bN ?bF ?bE ?iN ?iF ?iE ?tN ?tF ?tE ?sNN ?sNF ?sNE ?sFN ?sFF ?sFE ?sEN ?sEF ?sEE
    (case a7 => k_is); (case l7 => k_is); (case q7 => k_is); (case k7 => k_is); (case a8 => k_is); (case l8 => k_is)
    (case q8 => k_is); (case k8 => k_is); (case a9 => k_is); (case l9 => k_is); (case q9 => k_is); (case k9 => k_is)
    (case a10 => k_is); (case l10 => k_is); (case q10 => k_is); (case k10 => k_is); (case a11 => k_is); (case l11 => k_is)
    (case q11 => k_is); (case k11 => k_is); (case a12 => k_is); (case l12 => k_is); (case q12 => k_is); (case k12 => k_is)
    (case a16 => k_is); (case l16 => k_is); (case q16 => k_is); (case k16 => k_is); (case a17 => k_is); (case l17 => k_is)
    (case q17 => k_is); (case k17 => k_is); (case a18 => k_is); (case l18 => k_is); (case q18 => k_is); (case k18 => k_is)
    (case a19 => k_is); (case l19 => k_is); (case q19 => k_is); (case k19 => k_is); (case a20 => k_is); (case l20 => k_is)
    (case q20 => k_is); (case k20 => k_is); (case a21 => k_is); (case l21 => k_is); (case q21 => k_is); (case k21 => k_is)
    (case a22 => k_is); (case l22 => k_is); (case q22 => k_is); (case k22 => k_is); (case a23 => k_is); (case l23 => k_is)
    (case q23 => k_is); (case k23 => k_is); (case a24 => k_is); (case l24 => k_is); (case q24 => k_is); (case k24 => k_is)
    (case a25 => k_is); (case l25 => k_is); (case q25 => k_is); (case k25 => k_is); (case a26 => k_is); (case l26 => k_is)
    (case q26 => k_is); (case k26 => k_is); (case a27 => k_is); (case l27 => k_is); (case q27 => k_is); (case k27 => k_is)
    (case a28 => k_is); (case l28 => k_is); (case q28 => k_is); (case k28 => k_is); (case a29 => k_is); (case l29 => k_is)
    (case q29 => k_is); (case k29 => k_is); (case a30 => k_is); (case l30 => k_is); (case q30 => k_is); (case k30 => k_is)
    (case a31 => k_is); (case l31 => k_is); (case q31 => k_is); (case k31 => k_is); (case a32 => k_is); (case l32 => k_is)
    (case q32 => k_is); (case k32 => k_is); (case a33 => k_is); (case l33 => k_is); (case q33 => k_is); (case k33 => k_is)
    (case a34 => k_is); (case l34 => k_is); (case q34 => k_is); (case k34 => k_is); (case a35 => k_is); (case l35 => k_is)
    (case q35 => k_is); (case k35 => k_is); (case a37 => k_is); (case l37 => k_is); (case q37 => k_is); (case k37 => k_is)
    (case a38 => k_is); (case l38 => k_is); (case q38 => k_is); (case k38 => k_is); (case a39 => k_is); (case l39 => k_is)
    (case q39 => k_is); (case k39 => k_is); (case a40 => k_is); (case l40 => k_is); (case q40 => k_is); (case k40 => k_is)
    (case a41 => k_is); (case l41 => k_is); (case q41 => k_is); (case k41 => k_is); (case a42 => k_is); (case l42 => k_is)
    (case q42 => k_is); (case k42 => k_is); (case a43 => k_is); (case l43 => k_is); (case q43 => k_is); (case k43 => k_is)
    (case a44 => k_is); (case l44 => k_is); (case q44 => k_is); (case k44 => k_is); (case a45 => k_is); (case l45 => k_is)
    (case q45 => k_is); (case k45 => k_is); (case a46 => k_is); (case l46 => k_is); (case q46 => k_is); (case k46 => k_is)
    (case x46 => rfl); (case y46 => k_is); (case v46 => rfl); (case z46 => first | rfl | kernel_rfl); (case a47 => k_is); (case l47 => k_is)
    (case q47 => k_is); (case k47 => k_is); (case x47 => rfl); (case y47 => k_is); (case v47 => rfl); (case z47 => first | rfl | kernel_rfl)
    (case a48 => k_is); (case l48 => k_is); (case q48 => k_is); (case k48 => k_is); (case x48 => rfl); (case y48 => k_is)
    (case v48 => rfl); (case z48 => first | rfl | kernel_rfl); (case a49 => k_is); (case l49 => k_is); (case q49 => k_is); (case k49 => k_is)
    (case n1 => decide); (case n2 => decide); (case n3 => decide); (case b0 => k_is); (case b1 => k_is); (case b2 => k_is)
    (case b3 => k_is); (case b4 => k_is); (case b5 => k_is); (case b6 => k_is); (case b7 => k_is); (case b8 => k_is)
    (case b9 => k_is); (case cM => k_is); (case cT => k_is); (case eO => k_is); (case lO => k_is); (case aN => k_is)
    (case aF => k_is); (case aE => k_is); (case bN => k_is); (case bF => k_is); (case bE => k_is); (case iN => k_is)
    (case iF => k_is); (case iE => k_is); (case tN => k_is); (case tF => k_is); (case tE => k_is); (case sNN => k_is)
    (case sNF => k_is); (case sNE => k_is); (case sFN => k_is); (case sFF => k_is); (case sFE => k_is); (case sEN => k_is)
    (case sEF => k_is); (case sEE => k_is)
    case hq =>
      intro x hx
      simp only [List.mem_cons, List.not_mem_nil, or_false] at hx
      rcases hx with rfl | rfl | rfl <;> decide +kernel
    case eN =>
      refine' CR.Err.of (PySem.W.mg_of KX G ?a) (PySem.W.mg_none_of KX G ?hsup) ?kC ?exC ?tyC ?hdC ?ga ?gg (K01.exm_ab ?e1 ?e2 ?e3 ?e4 ?e5) ?hfn ?hsa ?iC ?tF ?hC ?hbm ?hal ?lf ?hcd ?hcode ?hvs ?hfile ?hcell ?hopq ?hp ?hp2 ?hbody ?hk ?hco ?hgen ?hnc ?hs1 ?hs2 ?hs3 ?hs4 ?hpd ?hps ?hbind ?htop ?hmsg
      (case a => k_is); (case hsup => k_is); (case kC => k_is); (case exC => k_is); (case tyC => k_is); (case hdC => k_is); (case ga => k_is); (case gg => k_is); (case e1 => k_is); (case e2 => k_is); (case e3 => k_is); (case e4 => k_is); (case e5 => k_is)
      (case hfn => k_is); (case hsa => k_is); (case iC => k_is); (case tF => k_is); (case hC => k_is); (case hbm => decide +kernel); (case lf => k_is); (case hcd => k_is); (case hcode => k_is); (case hvs => rfl); (case hfile => first | rfl | decide +kernel); (case hcell => k_is); (case hopq => k_is)
      (case hp => rfl); (case hp2 => rfl); (case hbody => exact ⟨_, _, _, _, _, _, _, _, _, _, _, _, _, _, _, _, rfl⟩); (case hk => rfl); (case hco => rfl); (case hgen => rfl); (case hnc => decide +kernel); (case hs1 => rfl); (case hs2 => rfl); (case hs3 => rfl); (case hs4 => rfl); (case hpd => decide); (case hps => decide)
      (case hbind => exact fun s self v => .of_eq rfl); (case htop => first | rfl | decide +kernel); (case hmsg => decide)
      (case hal => first | rfl | kernel_rfl)
    case eF =>
      refine' CR.Err.of (PySem.W.mg_of KX G ?a) (PySem.W.mg_none_of KX G ?hsup) ?kC ?exC ?tyC ?hdC ?ga ?gg (K01.exm_ab ?e1 ?e2 ?e3 ?e4 ?e5) ?hfn ?hsa ?iC ?tF ?hC ?hbm ?hal ?lf ?hcd ?hcode ?hvs ?hfile ?hcell ?hopq ?hp ?hp2 ?hbody ?hk ?hco ?hgen ?hnc ?hs1 ?hs2 ?hs3 ?hs4 ?hpd ?hps ?hbind ?htop ?hmsg
      (case a => k_is); (case hsup => k_is); (case kC => k_is); (case exC => k_is); (case tyC => k_is); (case hdC => k_is); (case ga => k_is); (case gg => k_is); (case e1 => k_is); (case e2 => k_is); (case e3 => k_is); (case e4 => k_is); (case e5 => k_is)
      (case hfn => k_is); (case hsa => k_is); (case iC => k_is); (case tF => k_is); (case hC => k_is); (case hbm => decide +kernel); (case lf => k_is); (case hcd => k_is); (case hcode => k_is); (case hvs => rfl); (case hfile => first | rfl | decide +kernel); (case hcell => k_is); (case hopq => k_is)
      (case hp => rfl); (case hp2 => rfl); (case hbody => exact ⟨_, _, _, _, _, _, _, _, _, _, _, _, _, _, _, _, rfl⟩); (case hk => rfl); (case hco => rfl); (case hgen => rfl); (case hnc => decide +kernel); (case hs1 => rfl); (case hs2 => rfl); (case hs3 => rfl); (case hs4 => rfl); (case hpd => decide); (case hps => decide)
      (case hbind => exact fun s self v => .of_eq rfl); (case htop => first | rfl | decide +kernel); (case hmsg => decide)
      (case hal => first | rfl | kernel_rfl)
    case eE =>
      refine' ⟨PySem.W.mg_of KX G ?a, ?b, ?c, ?d, K01.exm_ab ?e1 ?e2 ?e3 ?e4 ?e5, ?f⟩
      (case a => k_is); (case b => k_is); (case c => k_is); (case d => k_is); (case e1 => k_is); (case e2 => k_is); (case e3 => k_is); (case e4 => k_is); (case e5 => k_is); (case f => first | k_exc | rfl | kernel_rfl)
