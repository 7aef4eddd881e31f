import PyProof.Rows.All
import Wide.All
import OpenK.AllK
import Wide.FinOn
import PyProof.EqAt
import PyProof.EqKinds
import PyProof.TupleCall
import Open.SpecLaws
import KE.OsGo
import HandS.ForSpec
import HandS.Dict
import HandS.WordsDict
import HandS.ExcSuper
import HandS.Steps
import PySem.Challenge.RW_threadwalk_s02_at
set_option Elab.async false
set_option linter.all false
set_option maxRecDepth 100000
set_option maxHeartbeats 4000000
/-! # threadwalk: a proof by hand. Parts: the refusal's own error; words over the layer; the mathematics (reading a drawing, the walk, the answers); the defs of the program one by one; the end. -/
namespace PySem
namespace RefX
open PySem.W PySem.Calls PyProof.Rows PySem.HandSPX
/-! ### the text of __init__ -/
def iA : Arguments := { posonlyargs := [], args := [{ arg := "self", annotation := none, pos := ⟨87, 17, 87, 21⟩ }, { arg := "code", annotation := none, pos := ⟨87, 23, 87, 27⟩ }], vararg := none, kwonlyargs := [], kw_defaults := [], kwarg := none, defaults := [] }
def iB : List Stmt := [.Expr (.Call (.Attribute (.Name "Exception" ⟨88, 8, 88, 17⟩) "__init__" ⟨88, 8, 88, 26⟩) [.Name "self" ⟨88, 27, 88, 31⟩] [] ⟨88, 8, 88, 32⟩) ⟨88, 8, 88, 32⟩,
  .Assign [.Attribute (.Name "self" ⟨89, 8, 89, 12⟩) "code" ⟨89, 8, 89, 17⟩] (.Name "code" ⟨89, 20, 89, 24⟩) ⟨89, 8, 89, 24⟩]
def iS : Scope := { kind := .function, names := [(PySem.Str.ofString "self", .local), (PySem.Str.ofString "code", .local), (PySem.Str.ofString "Exception", .globalImplicit)], isGenerator := false, isCoroutine := false, more := [] }
/-- what the written part says of Refused, at C, and of its __init__, at fI -/
structure RefTxt (K : Frag) (mg : Str → Option Value) (C fI : Addr) : Prop where
  gC : mg "Refused" = some (.ref C)
  cls : ∃ nm q N bs sn sub ab col dd k0 k1 k2 k3 k5, K.lookup C = some (excClassObj nm q C N bs PySem.ESX.exTail true sn sub ab col dd k0 k1 k2 k3 k5 "Exception.__new__")
  sa : findIn K (.ref C) "__setattr__" = some (some (.builtin "object.__setattr__"))
  ga : findIn K (.ref C) "__getattribute__" = some (some (.builtin "BaseException.__getattribute__"))
  gg : findIn K (.ref C) "__getattr__" = some none
  noN : findIn K (.ref C) "code" = some none
  iC : findIn K (.ref C) "__init__" = some (some (.ref fI))
  tC : typeIn K (.ref fI) = some (.type "function")
  kC : keepIn K (.ref C) = true
  exC : subIn K (.ref C) (.type "BaseException") = some true
  tyC : typeIn K (.ref C) = some (.type "type")
  hdC : hasDictIn K C = true
  te : exmOne K (.ref C) (.ref C) = some true
  nE : mg "Exception" = none
  vE : findCls K (.type "Exception") (.type "type") "__init__" = some (.val (.builtin "Exception.__init__"))
  fn : ∃ (oc : Value) (od : Option Addr) (doc pm : Value) (an : Option Addr) (cdv ct : Value) (osl : Array (Option Value)),
    K.lookup fI = some ⟨oc, od, .func (fnOf "__init__" "Refused.__init__" iA iB iS .none .none doc pm an cdv ct), osl⟩ ∧ codeIn K cdv "Refused.__init__" = true
theorem typ_E : typeOf (.type "Exception") = pure (.type "type") := by kernel_rfl
theorem one_size (v : Value) : [v].length ≤ sizeLine := by
  rw [sizeLine_eq]
  exact (by decide : 1 ≤ 16777216)
theorem kept_but {K : Frag} {h h' : Heap} {x : Addr} (X : K.In h) (hx : K.lookup x = none) (k : ∀ b o, b ≠ x → h.get? b = some o → h'.get? b = some o) : K.In h' := fun a o e =>
  k a o (fun z => by rw [z, hx] at e; cases e) (X a o e)
theorem ldC {M : Model} {s : Shared} {name : Str} {scope : Scope} {L a : Addr} {cd : Value} {m : Str → Option Value} {x : Str} {pos : Pos} {v : Value} {Q : Value → Shared → Prop} {A : Around} {E : Value → Shared → Prop} (hn : s.heap.Ns L m) (hv : m x = some v) (h : Q v s)
    (hk : scope.kind = .function := by rfl) (hl : (envOfC name scope L a cd).kindOf x = some .local := by rfl) (hd : (x == ("__debug__" : Str)) = false := by decide) :
    wpAny M A (eval (.Name x pos) (envOfC name scope L a cd)) Q E s := wpAny_Name (wpAny_loadName_local hk hl hn hv h) hd
/-- what __init__ leaves of a fresh exception at x -/
structure InitEnd (h h' : Heap) (x C dx t1 : Addr) (v : Value) : Prop where
  keep : ∀ b o, b ≠ x → h.get? b = some o → h'.get? b = some o
  obj : h'.get? x = some { cls := .ref C, dict := some dx, data := .fields #[.ref t1, .none, .none, .none, .bool false, .none] }
  dbig : h.objs.size ≤ dx
  dne : dx ≠ x
  ns : h'.Ns1 dx (fun y => if y = "code" then some v else none)
/-- a made Refused -/
structure OwnMade (h h' : Heap) (e C d : Addr) (v : Value) : Prop where
  keep : ∀ b o, h.get? b = some o → h'.get? b = some o
  new : h.objs.size ≤ e
  obj : ∃ oe vs, h'.get? e = some oe ∧ oe.cls = .ref C ∧ oe.dict = some d ∧ oe.data = .fields vs ∧ vs[1]? = some .none
  dbig : h.objs.size ≤ d
  dne : d ≠ e
  ns : h'.Ns1 d (fun y => if y = "code" then some v else none)
section
variable {prog : Program} {w : World} {A : Around} {E : Value → Shared → Prop} {R : Result → Shared → Prop} {s : Shared} {K : Frag} {mg : Str → Option Value} {C fI : Addr}
theorem ref_init (T : RefTxt K mg C fI) {base : Heap} (M : L2.Mod K mg base) (hbs : ∀ b o, base.get? b = some o → s.heap.get? b = some o) {x t0 : Addr} {v : Value} (X : K.In s.heap) (hlim : s.heap.NoLimit) (hx : s.heap.get? x = some (excO C t0)) (hnx : K.lookup x = none) (hroom : A.depth < recursionLimit)
    (hq : ∀ h' tk dx t1, InitEnd s.heap h' x C dx t1 v → R (.ok (.ret .none)) { s with heap := h', toks := tk }) :
    codeAny (model prog w) A (.call (.ref fI) ⟨[.ref x, v], []⟩) R s := by
  obtain ⟨oc, od, doc, pm, an, cdv, ct, osl, ho, hcd⟩ := T.fn
  obtain ⟨nm, q, N, bs, sn, sub, ab, col, dd, k0, k1, k2, k3, k5, hC⟩ := T.cls
  have hcl : clsIn K C = some { name := nm, bases := bs, mro := .ref C :: PySem.ESX.exTail, ns := N, qualname := q, hasDict := true, slotNames := sn, subclasses := sub, abstract := ab, collection := col, hasDel := false } := by unfold clsIn; rw [hC] <;> rfl
  refine Att.call_fn (binds := [("self", .ref x), ("code", v)]) X hlim ho hcd hroom (BindsTo.of_eq (by first | rfl | with_unfolding_all rfl)) (by first | rfl | decide | with_unfolding_all rfl) (fun s₁ IC => ?_) rfl rfl rfl
  obtain ⟨h₁, tk₁, rfl⟩ := IC.toInCall.same
  have k : ∀ b o, s.heap.get? b = some o → h₁.get? b = some o := IC.toInCall.keep
  have hn := IC.toInCall.ns
  have hxL : s.heap.objs.size ≠ x := Nat.ne_of_gt (Heap.lt_size hx)
  have X₁ : K.In h₁ := X.keeps k
  have hx₁ := k _ _ hx
  -- Exception.__init__(self)
  obtain ⟨mb, hb1, hb2⟩ := M.blt
  show wpAny _ _ (execs _ _) _ _ _
  refine wpAny_execs_cons (wpAny_Expr_any (PySem.W.methodCall_KW (pl := _) (Calls.Name_function_global (by first | rfl | with_unfolding_all rfl) (by first | rfl | with_unfolding_all rfl)
    (Calls.loadGlobal_builtin (mg := mg) (mb := mb) (v := .type "Exception") (M.glob.keeps fun b o q => k b o (hbs b o q)) T.nE (hb1.keeps fun b o q => k b o (hbs b o q)) ((hb2 "Exception" (by decide)).trans PyProof.Rows.Boot.«Exception») ?_)) (by first | rfl | with_unfolding_all rfl)) (by first | rfl | with_unfolding_all rfl) (by first | rfl | with_unfolding_all rfl))
  refine PySem.W.method_type IC.toInCall.fr X typ_E (by decide +kernel) T.vE (by decide +kernel) ?_
  refine PyProof.Rows.callWith_method1 (spliced_more (ldC (v := .ref x) hn (by first | rfl | with_unfolding_all rfl | kernel_rfl) (spliced_none ?_)))
  refine wpAny_call (PySem.HandSPX.init_base F.excBase_Exception (fun _ => rfl) (X₁ _ _ hC) hx₁ (by rw [sizeLine_eq]; decide) fun h₂ t₂ k₂ hx₂ => ?_)
  have X₂ : K.In h₂ := kept_but X₁ hnx k₂
  have hn₂ := hn.at fun o q => k₂ _ o hxL q
  -- self.code = code
  show wpAny _ _ (execs _ _) _ _ _
  refine wpAny_execs_cons (plainObj_wpAny_Assign_Attribute ?_)
  refine ldC (v := v) hn₂ (by first | rfl | with_unfolding_all rfl | kernel_rfl) (ldC (v := .ref x) hn₂ (by first | rfl | with_unfolding_all rfl | kernel_rfl) ?_)
  refine set_plain X₂ (ox := excO C t₂) (od := none) ⟨hx₂, rfl, rfl, trivial⟩ T.sa ?_
  refine PySem.ESX.osa_new X₂ hx₂ hcl rfl rfl T.noN (fun h₃ tk₃ dx k₃ dn dne hx₃ hn₃ => ?_)
  show wpAny _ _ (execs _ _) _ _ _
  have z2 : s.heap.objs.size < h₂.objs.size := hn₂.lt
  exact wpAny_execs_nil (hq h₃ tk₃ dx t₂ ⟨fun b o hb e => k₃ b o hb (k₂ b o hb (k b o e)), hx₃, Nat.le_of_lt (Nat.lt_of_lt_of_le z2 dn), dne, hn₃⟩)
theorem ref_made (T : RefTxt K mg C fI) {base : Heap} (M : L2.Mod K mg base) (hbs : ∀ b o, base.get? b = some o → s.heap.get? b = some o) {v : Value} (X : K.In s.heap) (hlim : s.heap.NoLimit) (hroom : A.depth + 1 < recursionLimit)
    (hq : ∀ h' tk e d, OwnMade s.heap h' e C d v → R (.ok (.ret (.ref e))) { s with heap := h', toks := tk }) :
    codeAny (model prog w) A (.call (.ref C) ⟨[v], []⟩) R s := by
  obtain ⟨nm, q, N, bs, sn, sub, ab, col, dd, k0, k1, k2, k3, k5, hC⟩ := T.cls
  obtain ⟨hp, g, dr, tk, os⟩ := s
  have k : ∀ b o, hp.get? b = some o → ((hp.push (kdv_tup [v])).push (excO C hp.objs.size)).get? b = some o := fun b o e => Heap.get?_push_of_some _ (Heap.get?_push_of_some _ e)
  have hget : ((hp.push (kdv_tup [v])).push (excO C hp.objs.size)).get? (hp.objs.size + 1) = some (excO C hp.objs.size) := by heap_get
  have hnx : K.lookup (hp.objs.size + 1) = none := by
    cases e : K.lookup (hp.objs.size + 1) with
    | none => rfl
    | some o =>
      have z : hp.get? (hp.objs.size + 1) = some o := X _ _ e
      exact absurd (Nat.lt_of_succ_lt (Heap.lt_size z)) (Nat.lt_irrefl _)
  refine call_own F.excBase_Exception (fun _ => rfl) (X _ _ hC) (looks_findIn X T.iC) (fun self => bind_fn X self T.tC) (one_size v) ?_
  refine ref_init (s := ⟨(hp.push (kdv_tup [v])).push (excO C hp.objs.size), g, dr, tk, os⟩) T M (fun b o q => k b o (hbs b o q)) (X.keeps k) (hlim.keeps k) hget hnx ?_ fun h' tk' dx t1 ⟨k', hx, dn, dne, hns⟩ => ?_
  · show A.depth + 1 < recursionLimit
    exact hroom
  · have old : ∀ b o, hp.get? b = some o → h'.get? b = some o := fun b o e => k' b o (Nat.ne_of_lt (Nat.lt_succ_of_lt (Heap.lt_size e))) (k b o e)
    have z : hp.objs.size + 1 + 1 ≤ dx := by
      first
        | (simpa only [Heap.size_push] using dn)
        | exact dn
        | (have q := dn; rw [Heap.size_push, Heap.size_push] at q; exact q)
    exact ⟨rfl, hq h' tk' (hp.objs.size + 1) dx ⟨old, Nat.le_succ _, ⟨_, _, hx, rfl, rfl, rfl, rfl⟩, Nat.le_trans (Nat.le_trans (Nat.le_succ _) (Nat.le_succ _)) z, dne, hns⟩⟩
end
end RefX
end PySem
namespace L2
open PySem PySem.Spec PyProof.Rows
theorem relO_ref {v : V} {v' : Value} (r : RelV v v') (f : Str) : RelO (List.lookup f [(("code" : Str), v)]) (if f = "code" then some v' else none) := by
  by_cases hw : f = "code"
  · subst hw
    rw [if_pos rfl]
    have q : List.lookup ("code" : Str) [(("code" : Str), v)] = some v := by simp [List.lookup]
    rw [q]
    exact r
  · rw [if_neg hw]
    have qw : (f == ("code" : Str)) = false := by simpa using hw
    have q2 : List.lookup f [(("code" : Str), v)] = none := by simp [List.lookup, qw]
    rw [q2]
    trivial
section
variable {X : Cx} {C fI : Addr}
/-- Refused(e) -/
def tMkRef (C : Addr) (ta : TA) : St → Hp → XK → Prop := fun σ H Q => ta σ H fun vs H1 => ∃ v, vs = [v] ∧ ∀ d, H1 d = none → Q (.ref C) (some d) (upd H1 d (.xd [(("code" : Str), v)]))
theorem pmk_ref {a : Expr} {ta : TA} {p pos : Pos} {k : Nat} (T : PySem.RefX.RefTxt X.K X.mg C fI) (hr : Room k X.A) (ha : PA X [a] ta) (hg : Gl X "Refused" := by rfl)
    (he : starEach (a :: []) X.env = (false, eval a X.env) :: starEach [] X.env := by rfl) (hpl : (backTo pos (starEach [] X.env)).any (·.1) = false := by rfl) :
    PMk X (.Call (.Name "Refused" p) [a] [] pos) (tMkRef C ta) := by
  intro pins s σ H Q I h
  refine wpAny_Call_Name_kw (ld_glob I hg T.gC ?_)
  refine PySem.W.callWith_K (h₀ := X.base) I.ok.mod.kin T.kC (thn (ha.run pos pins s σ H _ I h) fun us s1 hh => ?_) he hpl
  obtain ⟨vs, H1, I1, r1, v, ev, q1⟩ := hh
  subst ev
  refine ⟨I1.kIn, ?_⟩
  cases r1 with
  | cons rv rn =>
    rename_i v' us'
    cases rn
    show wpAny _ _ (call (.ref C) [v']) _ _ _
    have hlim := I1.nolimit
    obtain ⟨hp, g, dr, tk, os⟩ := s1
    refine wpAny_call (PySem.RefX.ref_made T I1.ok.mod I1.bk I1.kIn hlim (by have := hr.dp; omega) fun h' tk' e d M => ?_)
    show MkP X pins σ Q (.ref e) ⟨h', g, dr, tk', os⟩
    obtain ⟨oe, fv, hoe, hc, hd, hdat, h1⟩ := M.obj
    have hns := M.ns
    obtain ⟨G', g1, g2⟩ := restrict h' fun b => decide (b ≠ e)
    have gk : ∀ b, b ≠ e → G'.get? b = h'.get? b := fun b hb => g1 b (decide_eq_true hb)
    have ge : G'.get? e = none := g2 e (by simp)
    have old : ∀ b o, hp.get? b = some o → G'.get? b = some o := fun b o q => (gk b (Nat.ne_of_lt (Nat.lt_of_lt_of_le (Heap.lt_size q) M.new))).trans (M.keep b o q)
    have ob : ObjOk X.prog X.w (upd H1 d (.xd [(("code" : Str), v)])) G' d (.xd [(("code" : Str), v)]) :=
      ⟨_, hns.at (fun o q => (gk d M.dne).trans q), fun f => relO_ref rv f⟩
    have J : Inv X pins σ (upd H1 d (.xd [(("code" : Str), v)])) ⟨G', g, dr, tk', os⟩ := I1.laid (t' := tk') old M.dbig ob
    refine ⟨e, oe, fv, ⟨G', g, dr, tk', os⟩, _, .ref C, some d, rfl, J, fun b o q => ?_, ge, hoe, ⟨hc, hd⟩, hdat, h1, ?_, rfl, I1.bare, raises_own T.exC T.tyC, q1 d (I1.hok.fresh M.dbig)⟩
    · by_cases hb : b = e
      · have q' : G'.get? b = some o := q
        rw [hb, ge] at q'; cases q'
      · exact (gk b hb).symm.trans q
    · rw [upd_ne (Ne.symm M.dne)]
      exact I1.hok.fresh M.new
/-- raise Refused(e) -/
def tRaiseRef (C : Addr) (W : WX) (ta : TA) : TS := fun _ σ H => tMkRef C ta σ H fun cls d H' => W cls d σ H'
theorem ps_raiseRef {a : Expr} {ta : TA} {W : WX} {p pos pos2 : Pos} {k : Nat} (hc : X.calm = true) (T : PySem.RefX.RefTxt X.K X.mg C fI) (hr : Room k X.A) (tk : Takes X W) (ha : PA X [a] ta) (hg : Gl X "Refused" := by rfl)
    (he : starEach (a :: []) X.env = (false, eval a X.env) :: starEach [] X.env := by rfl) (hpl : (backTo pos (starEach [] X.env)).any (·.1) = false := by rfl) :
    PS X (.Raise (some (.Call (.Name "Refused" p) [a] [] pos)) none pos2) (tRaiseRef C W ta) := ps_raise hc tk (pmk_ref T hr ha hg he hpl)
/-- low.by, low the exception that the suite holds (at a; its class cls, its dict d) -/
def tCodeRef (C : Addr) (a : Addr) (cls : Value) (d : Option Addr) (te : TE) : TE := fun σ H Q => te σ H fun x H1 => x = .ref a ∧ cls = .ref C ∧ ∃ (dd : Addr) (v : V), d = some dd ∧ H1 dd = some (.xd [(("code" : Str), v)]) ∧ Q v H1
theorem pe_codeRef {a : Addr} {oe : Obj} {cls : Value} {d : Option Addr} {pn : List (Addr × Obj)} {e : Expr} {te : TE} {pos : Pos} (T : PySem.RefX.RefTxt X.K X.mg C fI) (hz : Zc cls d oe) (hf : ∃ vs, oe.data = .fields vs) (he : PE (X.suite a ((a, oe) :: pn)) e te)
    (hb : attributeBase e "code" X.env (eval e X.env) = eval e X.env := by rfl) :
    PE (X.suite a ((a, oe) :: pn)) (.Attribute e "code" pos) (tCodeRef C a cls d te) := by
  refine ⟨fun pins s σ H Q I h => ?_⟩
  refine attr_of hb (thn (he.run pins s σ H _ I h) fun u s1 hh => ?_)
  obtain ⟨x, H1, I1, rx, ex, ec, dd, v, ed, ea, q⟩ := hh
  subst ex
  obtain rfl : u = Value.ref a := rx
  subst ec
  subst ed
  obtain ⟨ha, _⟩ := I1.pin (a, oe) (List.mem_append_left _ List.mem_cons_self)
  obtain ⟨vs, hd⟩ := hf
  have hx : ObjOk X.prog X.w H1 s1.heap dd (.xd [(("code" : Str), v)]) := I1.hok dd _ ea
  obtain ⟨mA, hns, hr⟩ := hx
  obtain ⟨od, ho, hl⟩ := lookIn_ns hns
  have l : List.lookup ("code" : Str) [(("code" : Str), v)] = some v := by simp [List.lookup]
  obtain ⟨u, hu, ru⟩ := RelO.some_of (v := v) (o := mA "code") (by rw [← l]; exact hr "code")
  have J : PySem.W.InstAt s1.heap a oe C (some od) := ⟨ha, hz.1, by unfold PySem.W.notCls; rw [hd] <;> rfl, by rw [hz.2]; exact ho⟩
  exact HandSPX.exc_get I1.kIn J T.ga T.gg T.exC (PySem.W.findObj_own T.hdC T.noN rfl (by rw [hl, hu])) (handed_of ru) ⟨v, H1, I1.tok _, ru, q⟩
end
end L2


/-! ### Short words over the layer -/
namespace Tw
open PySem PySem.Spec PyProof.Rows L2
/-- a module's constant that is a whole number -/
def Cn (mg : Str → Option Value) (x : Str) (i : Int) : Prop := ∃ u, mg x = some u ∧ RelV (.int i) u
theorem pe_cn {X : Cx} {x : Str} {i : Int} {pos : Pos} (h : Cn X.mg x i) (hg : Gl X x := by rfl) (hd : (x == ("__debug__" : Str)) = false := by decide) : PE X (.Name x pos) (tC (.int i)) := by
  obtain ⟨u, h1, h2⟩ := h
  exact pe_glob hg h1 h2 hd
abbrev vN (n : Nat) : V := .int (n : Int)
abbrev vI (l : List Int) : List V := l.map V.int
abbrev vNs (l : List Nat) : List V := l.map vN
section
variable {σ : L2.St} {H : Hp} {ta tb tc : TE} {t u : TT} {i j : Int} {a b : Bool} {K : PySem.W.Frag} {v x y : V} {D : Ends} {t1 t2 : TS}
theorem val_var' {k : Nat} (h : σ[k]? = some (some v)) : Val (tVar k) σ H v := val_var h
theorem val_add (ha : Val ta σ H (.int i)) (hb : Val tb σ H (.int j)) : Val (tOp (rI0 fun i j => .int (i + j)) ta tb) σ H (.int (i + j)) := val_op ha hb fun Q q => ⟨_, _, rfl, rfl, q⟩
theorem val_sub (ha : Val ta σ H (.int i)) (hb : Val tb σ H (.int j)) : Val (tOp (rI0 fun i j => .int (i - j)) ta tb) σ H (.int (i - j)) := val_op ha hb fun Q q => ⟨_, _, rfl, rfl, q⟩
theorem val_mul (ha : Val ta σ H (.int i)) (hb : Val tb σ H (.int j)) (hi : -1000000000000 < i ∧ i < 1000000000000) : Val (tOp (rI CMul fun i j => .int (i * j)) ta tb) σ H (.int (i * j)) :=
  val_op ha hb fun Q q => ⟨_, _, rfl, rfl, .inl ⟨by omega, by omega⟩, q⟩
theorem val_div (ha : Val ta σ H (.int i)) (hb : Val tb σ H (.int j)) (hj : 0 < j ∧ j < 1000000) : Val (tOp (rI CDiv fun i j => .int (i / j)) ta tb) σ H (.int (i / j)) :=
  val_op ha hb fun Q q => ⟨_, _, rfl, rfl, ⟨hj.1, by omega⟩, q⟩
theorem val_mod (ha : Val ta σ H (.int i)) (hb : Val tb σ H (.int j)) (hj : 0 < j) : Val (tOp (rI (fun _ j => 0 < j) fun i j => .int (i % j)) ta tb) σ H (.int (i % j)) :=
  val_op ha hb fun Q q => ⟨_, _, rfl, rfl, hj, q⟩
theorem val_ix {p : Addr} {xs : List V} {n : Nat} (ha : Val ta σ H (.ref p)) (hb : Val tb σ H (.int i)) (hl : SqL K H p xs) (hi : i = (n : Int)) (hx : xs[n]? = some v) : Val (tOp (rIxL K) ta tb) σ H v :=
  val_op ha hb fun Q q => ⟨p, xs, i, v, rfl, rfl, hl, at_of hi hx, q⟩
theorem val_len {p : Addr} {xs : List V} (ha : Val ta σ H (.ref p)) (hl : SqL K H p xs) : Val (tCB (fun xs H Q => ∃ p ys, xs = [.ref p] ∧ (SqL K H p ys ∨ SqT K H p ys) ∧ Q (.int ys.length) H) (tCons ta tNil)) σ H (.int xs.length) := by
  intro Q q
  refine ha _ ?_
  exact ⟨p, xs, rfl, .inl hl, q⟩
theorem val_test (ha : Val ta σ H (.bl a)) : Ans (tTest ta) σ H a := fun Q q => ha _ ⟨a, rfl, q⟩
theorem val_eq (ha : Val ta σ H (.int i)) (hb : Val tb σ H (.int j)) : Val (tOp rEq ta tb) σ H (.bl (decide (i = j))) := val_op ha hb fun Q q => ⟨rfl, by
  have e : decide (V.int i = V.int j) = decide (i = j) := by simp
  rw [e]; exact q⟩
theorem val_ne (ha : Val ta σ H (.int i)) (hb : Val tb σ H (.int j)) : Val (tOp rNe ta tb) σ H (.bl (!decide (i = j))) := val_op ha hb fun Q q => ⟨rfl, by
  have e : decide (V.int i = V.int j) = decide (i = j) := by simp
  rw [e]; exact q⟩
theorem val_lt (ha : Val ta σ H (.int i)) (hb : Val tb σ H (.int j)) : Val (tOp (rI0 fun i j => .bl (decide (i < j))) ta tb) σ H (.bl (decide (i < j))) := val_op ha hb fun Q q => ⟨_, _, rfl, rfl, q⟩
theorem val_le (ha : Val ta σ H (.int i)) (hb : Val tb σ H (.int j)) : Val (tOp (rI0 fun i j => .bl (decide (i ≤ j))) ta tb) σ H (.bl (decide (i ≤ j))) := val_op ha hb fun Q q => ⟨_, _, rfl, rfl, q⟩
theorem val_gt (ha : Val ta σ H (.int i)) (hb : Val tb σ H (.int j)) : Val (tOp (rI0 fun i j => .bl (decide (j < i))) ta tb) σ H (.bl (decide (j < i))) := val_op ha hb fun Q q => ⟨_, _, rfl, rfl, q⟩
theorem val_ge (ha : Val ta σ H (.int i)) (hb : Val tb σ H (.int j)) : Val (tOp (rI0 fun i j => .bl (decide (j ≤ i))) ta tb) σ H (.bl (decide (j ≤ i))) := val_op ha hb fun Q q => ⟨_, _, rfl, rfl, q⟩
theorem val_or (ha : Val ta σ H (.bl a)) (hb : Val tb σ H (.bl b)) : Val (tOrV ta tb) σ H (.bl (a || b)) := by
  intro Q q
  refine ha _ ⟨a, rfl, ?_⟩
  cases a with
  | true => exact iteT q
  | false => exact iteF (hb _ q)
theorem val_and (ha : Val ta σ H (.bl a)) (hb : Val tb σ H (.bl b)) : Val (tAndV ta tb) σ H (.bl (a && b)) := by
  intro Q q
  refine ha _ ⟨a, rfl, ?_⟩
  cases a with
  | true => exact iteT (hb _ q)
  | false => exact iteF q
theorem val_chain {r r' : R2} {z : V} (ha : Val ta σ H x) (hb : Val tb σ H y) (hc : Val tc σ H z) (h1 : ∀ Q : VK, Q (.bl a) H → r x y H Q) (h2 : ∀ Q : VK, Q (.bl b) H → r' y z H Q) : Val (tChain r r' ta tb tc) σ H (.bl (a && b)) := by
  intro Q q
  refine ha _ ?_
  refine hb _ ?_
  refine h1 _ ⟨a, rfl, ?_⟩
  cases a with
  | true => exact iteT (hc _ (h2 _ q))
  | false => exact iteF q
theorem ans_or2 (h1 : Ans t σ H a) (h2 : Ans u σ H b) : Ans (tOr t u) σ H (a || b) := by
  cases a with
  | true => exact ans_or1 h1
  | false => exact ans_or h1 h2
theorem ans_B (ha : Val ta σ H (.bl a)) : Ans (tB ta) σ H a := ans_val ha
theorem st_ifs (h : Ans t σ H a) (h1 : a = true → t1 D σ H) (h2 : a = false → t2 D σ H) : tIfS t t1 t2 D σ H := by
  cases a with
  | true => exact st_yes h (h1 rfl)
  | false => exact st_no h (h2 rfl)
theorem st_aug' {k : Nat} {f : Int → Int → Int} (hx : σ[k]? = some (some (.int i))) (h : Val ta σ H (.int j)) (q : D.nx (σ.set k (some (.int (f i j)))) H) : tAug k ta (ipI f) D σ H :=
  ⟨_, hx, h _ ⟨_, _, rfl, rfl, q⟩⟩
end
/-- for x in range(e) -/
theorem st_rng {σ : L2.St} {H : Hp} {te : TE} {g : TG} {tb : TS} {D : Ends} {n : Nat} (h : Val te σ H (.int (n : Int))) (hn : n ≤ 1000000) (Pv : Nat → L2.St → Hp → Prop) (h0 : Pv 0 σ H)
    (hs : ∀ i σ H, i < n → Pv i σ H → g (.int (i : Int)) σ H fun σ2 H2 => tb { D with nx := Pv (i + 1), ct := Pv (i + 1), bk := D.nx } σ2 H2) (hd : ∀ σ H, Pv n σ H → D.nx σ H) : tFor (iRng1 (tCons te tNil)) g tb D σ H := by
  refine h _ ?_
  refine ⟨(n : Int), rfl, by omega, by omega, ?_⟩
  have e : ((n : Int)).toNat = n := Int.toNat_natCast n
  rw [e]
  refine for_range (lo := 0) Pv h0 (fun i σ H hi p => ?_) hd
  have ez : (0 : Int) + (i : Int) = (i : Int) := by omega
  rw [ez]
  exact hs i σ H hi p
theorem lk_here {k : Str} {v : V} {r : List (Str × V)} : List.lookup k ((k, v) :: r) = some v := by
  have e : (k == k) = true := beq_self_eq_true k
  simp only [List.lookup, e]
theorem lk_past {k g : Str} {v : V} {r : List (Str × V)} (h : (k == g) = false) : List.lookup k ((g, v) :: r) = List.lookup k r := by
  simp only [List.lookup, h]
theorem put_here {f : Str} {v x : V} {r : List (Str × V)} : putF f v ((f, x) :: r) = (f, v) :: r := if_pos rfl
theorem put_past {f g : Str} {v x : V} {r : List (Str × V)} (h : ¬ g = f) : putF f v ((g, x) :: r) = (g, x) :: putF f v r := if_neg h
theorem map_at {α : Type} {f : α → V} {l : List α} {i : Nat} {x : α} (h : l[i]? = some x) : (l.map f)[i]? = some (f x) := by rw [List.getElem?_map, h]; rfl
end Tw

/-! The program's reading of a drawing, as plain functions. -/
namespace Tw
/-- a level line's signs from place j on; b: the border -/
def lvl (b : Bool) : Nat → List Int → Bool
  | _, [] => true
  | j, c :: r => (if j % 2 = 0 then decide (c = 43) else (decide (c = 45) || (!b && decide (c = 32)))) && lvl b (j + 1) r
/-- a line of squares, n signs long, from place j on -/
def upr (n : Nat) : Nat → List Int → Bool
  | _, [] => true
  | j, c :: r => (if j % 2 = 1 then decide (c = 32) else (decide (c = 124) || (!(decide (j = 0) || decide (j + 1 = n)) && decide (c = 32)))) && upr n (j + 1) r
def isSideM (n : Nat) : Bool := decide (n % 2 = 1) && (decide (1 ≤ n / 2) && decide (n / 2 ≤ 10))
def lineStep (acc : List (List Int)) (c : Int) : List (List Int) := if c = 10 then acc ++ [[]] else acc.dropLast ++ [acc.getLastD [] ++ [c]]
def linesM (t : List Int) : List (List Int) := t.foldl lineStep [[]]
def len0 (L : List (List Int)) : Nat := (L.headD []).length
def goodLine (L : List (List Int)) (y : Nat) (l : List Int) : Bool :=
  decide (l.length = len0 L) && (if y % 2 = 1 then upr l.length 0 l else lvl (decide (y = 0) || decide (y + 1 = L.length)) 0 l)
def allGood (L : List (List Int)) : Nat → List (List Int) → Bool
  | _, [] => true
  | y, l :: r => goodLine L y l && allGood L (y + 1) r
def drawn (A : List (List Int)) : Bool := decide (A.getLastD [] = []) && (isSideM A.dropLast.length && (isSideM (len0 A.dropLast) && allGood A.dropLast 0 A.dropLast))
def readM (t : List Int) : Option (List (List Int)) := if drawn (linesM t) = true then some (linesM t).dropLast else none
def cell (L : List (List Int)) (y x : Nat) : Int := (L.getD y []).getD x 0
def wd (L : List (List Int)) : Nat := len0 L / 2
def hg (L : List (List Int)) : Nat := L.length / 2
def hasP (L : List (List Int)) (s k : Nat) : Bool :=
  let x := 2 * (s % wd L) + 1
  let y := 2 * (s / wd L) + 1
  if k = 0 then decide (cell L (y - 1) x = 32) else if k = 1 then decide (cell L y (x + 1) = 32) else if k = 2 then decide (cell L (y + 1) x = 32) else decide (cell L y (x - 1) = 32)
/-- the four places that are looked at lie within the drawing -/
def Lies (L : List (List Int)) : Prop := 1 ≤ wd L ∧ wd L ≤ 1000 ∧ hg L ≤ 1000 ∧ L.length = 2 * hg L + 1 ∧ ∀ l ∈ L, l.length = 2 * wd L + 1
end Tw

/-! Geometry of a garden: sides lead back, and no two sides lead to one square. -/
namespace Tw
open Maze

theorem div_of {w q r : Nat} (hr : r < w) : (w * q + r) / w = q := by
  rw [Nat.mul_add_div (by omega), Nat.div_eq_of_lt hr]; omega
theorem mod_of {w q r : Nat} (hr : r < w) : (w * q + r) % w = r := by
  rw [Nat.mul_add_mod, Nat.mod_eq_of_lt hr]

structure Sized (D : Garden) : Prop where
  w1 : 1 ≤ D.wide
  h1 : 1 ≤ D.high
  w10 : D.wide ≤ 10
  h10 : D.high ≤ 10

theorem split (D : Garden) (hw : 1 ≤ D.wide) (s : Nat) : ∃ q r, r < D.wide ∧ s = D.wide * q + r ∧ D.row s = q ∧ D.col s = r := by
  refine ⟨s / D.wide, s % D.wide, Nat.mod_lt _ (by omega), (Nat.div_add_mod s D.wide).symm, rfl, rfl⟩

theorem row_of {D : Garden} {q r : Nat} (hr : r < D.wide) : D.row (D.wide * q + r) = q := div_of hr
theorem col_of {D : Garden} {q r : Nat} (hr : r < D.wide) : D.col (D.wide * q + r) = r := mod_of hr

theorem lt_rows {w h q r : Nat} (hr : r < w) (hq : q < h) : w * q + r < w * h := by
  have : w * q + w ≤ w * h := by
    have := Nat.mul_le_mul_left w (show q + 1 ≤ h from hq)
    rw [Nat.mul_add, Nat.mul_one] at this; exact this
  omega
theorem rows_lt {w h q r : Nat} (h1 : w * q + r < w * h) : q < h := by
  apply Nat.lt_of_not_le; intro hq
  have := Nat.mul_le_mul_left w hq
  omega

/-- the four cases of a side -/
theorem goes_iff {D : Garden} {q r k t : Nat} (hr : r < D.wide) (hk : k < 4) : D.goes (D.wide * q + r) k = some t ↔
    (k = 0 ∧ 0 < q ∧ t = D.wide * (q - 1) + r ∧ D.hedge (D.uprights + ((q - 1) * D.wide + r)) = false) ∨
    (k = 1 ∧ r + 1 < D.wide ∧ t = D.wide * q + (r + 1) ∧ D.hedge (q * (D.wide - 1) + r) = false) ∨
    (k = 2 ∧ q + 1 < D.high ∧ t = D.wide * (q + 1) + r ∧ D.hedge (D.uprights + (q * D.wide + r)) = false) ∨
    (k = 3 ∧ 0 < r ∧ t = D.wide * q + (r - 1) ∧ D.hedge (q * (D.wide - 1) + (r - 1)) = false) := by
  have hk : k = 0 ∨ k = 1 ∨ k = 2 ∨ k = 3 := by omega
  rcases hk with rfl | rfl | rfl | rfl
  · simp only [Garden.goes, Garden.beyond, Garden.sideOf, row_of hr, col_of hr, if_true]
    by_cases h : 0 < q
    · have e : D.wide * q + r - D.wide = D.wide * (q - 1) + r := by
        obtain ⟨q', rfl⟩ : ∃ q', q = q' + 1 := ⟨q - 1, by omega⟩
        rw [Nat.mul_add]; simp; omega
      simp [h, e]
      constructor
      · rintro ⟨a, b⟩; exact ⟨b.symm, a⟩
      · rintro ⟨a, b⟩; exact ⟨b, a.symm⟩
    · simp [h]
  · simp only [Garden.goes, Garden.beyond, Garden.sideOf, row_of hr, col_of hr, if_true]
    by_cases h : r + 1 < D.wide
    · simp [h]
      constructor
      · rintro ⟨a, b⟩; exact ⟨by omega, a⟩
      · rintro ⟨a, b⟩; exact ⟨b, by omega⟩
    · simp [h]
  · simp only [Garden.goes, Garden.beyond, Garden.sideOf, row_of hr, col_of hr, if_true]
    by_cases h : q + 1 < D.high
    · have e : D.wide * q + r + D.wide = D.wide * (q + 1) + r := by rw [Nat.mul_add]; omega
      simp [h, e]
      constructor
      · rintro ⟨a, b⟩; exact ⟨b.symm, a⟩
      · rintro ⟨a, b⟩; exact ⟨b, a.symm⟩
    · simp [h]
  · simp only [Garden.goes, Garden.beyond, Garden.sideOf, row_of hr, col_of hr, if_true]
    by_cases h : 0 < r
    · have e : D.wide * q + r - 1 = D.wide * q + (r - 1) := by omega
      simp [h, e]
      constructor
      · rintro ⟨a, b⟩; exact ⟨b.symm, a⟩
      · rintro ⟨a, b⟩; exact ⟨b, a.symm⟩
    · simp [h]

/-- a side leads to a square of the garden, and back -/
theorem goes_back {D : Garden} (S : Sized D) {s k t : Nat} (hs : s < D.squares) (hk : k < 4) (h : D.goes s k = some t) : t < D.squares ∧ D.goes t ((k + 2) % 4) = some s := by
  obtain ⟨q, r, hr, rfl, _, _⟩ := split D S.w1 s
  have hq := rows_lt hs
  rcases (goes_iff hr hk).mp h with ⟨rfl, a, rfl, e⟩ | ⟨rfl, a, rfl, e⟩ | ⟨rfl, a, rfl, e⟩ | ⟨rfl, a, rfl, e⟩
  · refine ⟨lt_rows hr (by omega), (goes_iff hr (by omega)).mpr (.inr (.inr (.inl ⟨rfl, by omega, ?_, e⟩)))⟩
    rw [Nat.sub_add_cancel a]
  · refine ⟨lt_rows a (by omega), (goes_iff a (by omega)).mpr (.inr (.inr (.inr ⟨rfl, by omega, ?_, ?_⟩)))⟩
    · rw [Nat.add_sub_cancel]
    · rw [Nat.add_sub_cancel]; exact e
  · refine ⟨lt_rows hr (by omega), (goes_iff hr (by omega)).mpr (.inl ⟨rfl, by omega, ?_, ?_⟩)⟩
    · rw [Nat.add_sub_cancel]
    · rw [Nat.add_sub_cancel]; exact e
  · have hr' : r - 1 < D.wide := by omega
    refine ⟨lt_rows hr' (by omega), (goes_iff hr' (by omega)).mpr (.inr (.inl ⟨rfl, by omega, ?_, e⟩))⟩
    rw [Nat.sub_add_cancel a]

theorem goes_one {D : Garden} (S : Sized D) {s k k' t : Nat} (hk : k < 4) (hk' : k' < 4) (h : D.goes s k = some t) (h' : D.goes s k' = some t) : k = k' := by
  obtain ⟨q, r, hr, rfl, _, _⟩ := split D S.w1 s
  have w1 := S.w1
  have e1 : 0 < q → D.wide * q = D.wide * (q - 1) + D.wide := fun h => by
    obtain ⟨q', rfl⟩ : ∃ q', q = q' + 1 := ⟨q - 1, by omega⟩
    rw [Nat.mul_add]; simp
  have e2 : D.wide * (q + 1) = D.wide * q + D.wide := by rw [Nat.mul_add]; simp
  rcases (goes_iff hr hk).mp h with ⟨rfl, a, b, e⟩ | ⟨rfl, a, b, e⟩ | ⟨rfl, a, b, e⟩ | ⟨rfl, a, b, e⟩ <;>
  rcases (goes_iff hr hk').mp h' with ⟨rfl, a', b', e'⟩ | ⟨rfl, a', b', e'⟩ | ⟨rfl, a', b', e'⟩ | ⟨rfl, a', b', e'⟩ <;>
  first | rfl | (exfalso; first | (have := e1 a; omega) | (have := e1 a'; omega) | omega)

/-- the square beside, as the program reckons it -/
def beside (w s : Int) (k : Nat) : Int := if k = 0 then s - w else if k = 1 then s + 1 else if k = 2 then s + w else s - 1

theorem goes_beside {D : Garden} (S : Sized D) {s k t : Nat} (hk : k < 4) (h : D.goes s k = some t) : beside D.wide s k = t := by
  obtain ⟨q, r, hr, rfl, _, _⟩ := split D S.w1 s
  have e1 : 0 < q → D.wide * q = D.wide * (q - 1) + D.wide := fun h => by
    obtain ⟨q', rfl⟩ : ∃ q', q = q' + 1 := ⟨q - 1, by omega⟩
    rw [Nat.mul_add]; simp
  have e2 : D.wide * (q + 1) = D.wide * q + D.wide := by rw [Nat.mul_add]; simp
  rcases (goes_iff hr hk).mp h with ⟨rfl, a, rfl, e⟩ | ⟨rfl, a, rfl, e⟩ | ⟨rfl, a, rfl, e⟩ | ⟨rfl, a, rfl, e⟩
  · have e3 := e1 a
    show ((D.wide * q + r : Nat) : Int) - (D.wide : Int) = _
    rw [e3]; omega
  · show ((D.wide * q + r : Nat) : Int) + 1 = _
    omega
  · show ((D.wide * q + r : Nat) : Int) + (D.wide : Int) = _
    rw [e2]; omega
  · show ((D.wide * q + r : Nat) : Int) - 1 = _
    omega

end Tw

/-! The walk: the program's way of keeping it, and the specification's. -/
namespace Tw
open Maze

/-- how the program keeps a walk -/
structure Wk where
  squares : List Nat
  thread : List Nat
  gone : List (Nat × Nat)
  seen : List (Nat × Nat)
  turn : Bool
def Wk.here (W : Wk) : Nat := W.thread.getLastD 0
def Wk.before (W : Wk) : Nat := W.thread.getD (W.thread.length - 2) 0
def Wk.sees (W : Wk) (u : Nat) : Bool := W.seen.any fun p => decide (p.1 = u)
def Wk.seenAt (W : Wk) (u : Nat) : Option Nat := (W.seen.find? fun p => decide (p.1 = u)).map (·.2)
def Wk.went (W : Wk) (s k : Nat) : Bool := W.gone.any fun p => decide (p = (s, k))
def goneAdd (g : List (Nat × Nat)) (p : Nat × Nat) : List (Nat × Nat) := if (g.any fun q => decide (q = p)) = true then g else g ++ [p]
def sides : List Nat := [0, 1, 2, 3]
def sideTo (hp : Nat → Nat → Bool) (w here other : Nat) : Nat := (sides.find? fun k => hp here k && decide (beside w here k = (other : Int))).getD 4
def freshM (hp : Nat → Nat → Bool) (W : Wk) : Option Nat := sides.find? fun k => hp W.here k && !W.went W.here k
def nextSide (hp : Nat → Nat → Bool) (w : Nat) (W : Wk) : Nat := match (if W.turn = true then none else freshM hp W) with
  | some k => k
  | none => if W.thread.length = 1 then 4 else sideTo hp w W.here W.before
def stepM (w : Nat) (W : Wk) (k : Nat) : Wk :=
  let there := (beside w W.here k).toNat
  let seen' := if W.sees there = true then W.seen else W.seen ++ [(there, W.squares.length)]
  if W.went W.here k = true then ⟨W.squares ++ [there], W.thread.dropLast, W.gone, seen', false⟩
  else ⟨W.squares ++ [there], W.thread ++ [there], goneAdd (goneAdd W.gone (W.here, k)) (there, (k + 2) % 4), seen', W.sees there⟩
def initM (s : Nat) : Wk := ⟨[s], [s], [], [(s, 0)], false⟩
def goM (hp : Nat → Nat → Bool) (w : Nat) : Nat → Wk → Wk
  | 0, W => W
  | n + 1, W => if nextSide hp w W < 4 then goM hp w n (stepM w W (nextSide hp w W)) else W

/-! ### the specification's thread -/
theorem e_div {s k : Nat} (hk : k < 4) : (4 * s + k) / 4 = s := by omega
theorem e_mod {s k : Nat} (hk : k < 4) : (4 * s + k) % 4 = k := by omega
theorem comes_of {D : Garden} {s k t : Nat} (hk : k < 4) (h : D.goes s k = some t) : D.comes (4 * s + k) = t := by
  simp [Garden.comes, e_div hk, e_mod hk, h]
theorem reverse_of {D : Garden} {s k t : Nat} (hk : k < 4) (h : D.goes s k = some t) : D.reverse (4 * s + k) = 4 * t + (k + 2) % 4 := by
  rw [Garden.reverse, comes_of hk h]; congr 1; omega
theorem isStep_of {D : Garden} {s k : Nat} (hs : s < D.squares) (hk : k < 4) : D.isStep (4 * s + k) = (D.goes s k).isSome := by
  simp only [Garden.isStep, e_div hk, e_mod hk]
  rw [decide_eq_true (by omega)]; rfl

def base (D : Garden) (z : Thread) : Nat := match z.turn with
  | none => z.at_
  | some k => D.comes (4 * z.at_ + k)
def Path (D : Garden) (gone : List Nat) (s0 : Nat) : Nat → List Nat → Prop
  | b, [] => b = s0 ∧ b < D.squares
  | b, k :: r => b < D.squares ∧ k < 4 ∧ ∃ t, D.goes b k = some t ∧ ¬ (4 * b + k) ∈ gone ∧ (4 * t + (k + 2) % 4) ∈ gone ∧ Path D gone s0 t r
def edges (D : Garden) : Nat → List Nat → List Nat
  | _, [] => []
  | b, k :: r => (4 * b + k) :: edges D (D.comes (4 * b + k)) r
theorem backFrom_eq (D : Garden) (b : Nat) (r : List Nat) : ∃ l, D.backFrom b r = b :: l := by cases r <;> exact ⟨_, rfl⟩
theorem Path.lt {D : Garden} {gone : List Nat} {s0 b : Nat} {r : List Nat} (h : Path D gone s0 b r) : b < D.squares := by
  cases r with
  | nil => exact h.2
  | cons k r => exact h.1
theorem Path.more {D : Garden} {gone : List Nat} {s0 e : Nat} : ∀ {b : Nat} {r : List Nat}, Path D gone s0 b r → ¬ e ∈ edges D b r → Path D (e :: gone) s0 b r
  | _, [], h, _ => h
  | b, k :: r, ⟨hb, hk, t, g, n, m, p⟩, he => by
    have ec := comes_of hk g
    simp only [edges, List.mem_cons, not_or, ec] at he
    refine ⟨hb, hk, t, g, fun q => ?_, List.mem_cons_of_mem _ m, p.more he.2⟩
    rcases List.mem_cons.mp q with q | q
    · exact he.1 q.symm
    · exact n q
/-- of an edge of the path: where it starts, that it isn't gone, that its reverse is -/
theorem Path.edge {D : Garden} {gone : List Nat} {s0 : Nat} : ∀ {b : Nat} {r : List Nat}, Path D gone s0 b r → ∀ e ∈ edges D b r, ∃ s k t, s ∈ D.backFrom b r ∧ s < D.squares ∧ k < 4 ∧ e = 4 * s + k ∧ D.goes s k = some t ∧ ¬ e ∈ gone ∧ (4 * t + (k + 2) % 4) ∈ gone
  | _, [], _, e, he => by simp [edges] at he
  | b, k :: r, ⟨hb, hk, t, g, n, m, p⟩, e, he => by
    have ec := comes_of hk g
    simp only [edges, List.mem_cons, ec] at he
    rcases he with rfl | he
    · exact ⟨b, k, t, List.mem_cons_self, hb, hk, rfl, g, n, m⟩
    · obtain ⟨s, k', t', h1, h2⟩ := p.edge e he
      refine ⟨s, k', t', ?_, h2⟩
      simp only [Garden.backFrom, ec]
      exact List.mem_cons_of_mem _ h1
theorem Path.mem_lt {D : Garden} {gone : List Nat} {s0 : Nat} : ∀ {b : Nat} {r : List Nat}, Path D gone s0 b r → ∀ x ∈ D.backFrom b r, x < D.squares
  | b, [], h, x, hx => by
    simp [Garden.backFrom] at hx
    rw [hx]; exact h.lt
  | b, k :: r, ⟨hb, hk, t, g, n, m, p⟩, x, hx => by
    simp only [Garden.backFrom, comes_of hk g, List.mem_cons] at hx
    rcases hx with rfl | hx
    · exact hb
    · exact p.mem_lt x hx

structure Ti (D : Garden) (s0 : Nat) (z : Thread) : Prop where
  lt : z.at_ < D.squares
  turn : ∀ k, z.turn = some k → k < 4 ∧ ∃ b, D.goes z.at_ k = some b ∧ ¬ (4 * z.at_ + k) ∈ z.gone ∧ (4 * b + (k + 2) % 4) ∈ z.gone ∧ ¬ (4 * z.at_ + k) ∈ edges D (base D z) z.back
  path : Path D z.gone s0 (base D z) z.back
  pnd : (D.backFrom (base D z) z.back).Nodup
  pseen : ∀ x ∈ D.backFrom (base D z) z.back, x ∈ z.seen
  at_seen : z.at_ ∈ z.seen
  seen_nd : z.seen.Nodup
  gone_nd : z.gone.Nodup
  gone_ok : ∀ e ∈ z.gone, e < 4 * D.squares

theorem Ti.init {D : Garden} {s0 : Nat} (h : s0 < D.squares) : Ti D s0 (threadBegin s0) where
  lt := h
  turn := fun k e => by simp [threadBegin] at e
  path := ⟨rfl, h⟩
  pnd := by simp [threadBegin, base, Garden.backFrom]
  pseen := by simp [threadBegin, base, Garden.backFrom]
  at_seen := by simp [threadBegin]
  seen_nd := by simp [threadBegin]
  gone_nd := by simp [threadBegin]
  gone_ok := by simp [threadBegin]

/-- what a step of the specification is: one of four -/
inductive Stp (D : Garden) (z : Thread) : Nat → Thread → Prop
  | turn {k b : Nat} (h : z.turn = some k) (hk : k < 4) (g : D.goes z.at_ k = some b) : Stp D z k ⟨b, z.seen, (4 * z.at_ + k) :: z.gone, z.back, none⟩
  | ring {k t : Nat} (h : z.turn = none) (hk : k < 4) (g : D.goes z.at_ k = some t) (f : D.fresh z = some k) (hs : t ∈ z.seen) : Stp D z k ⟨t, z.seen, (4 * z.at_ + k) :: z.gone, z.back, some ((k + 2) % 4)⟩
  | new {k t : Nat} (h : z.turn = none) (hk : k < 4) (g : D.goes z.at_ k = some t) (f : D.fresh z = some k) (hs : ¬ t ∈ z.seen) : Stp D z k ⟨t, t :: z.seen, (4 * z.at_ + k) :: z.gone, ((k + 2) % 4) :: z.back, none⟩
  | back {k b : Nat} {r : List Nat} (h : z.turn = none) (hk : k < 4) (g : D.goes z.at_ k = some b) (f : D.fresh z = none) (hb : z.back = k :: r) : Stp D z k ⟨b, z.seen, (4 * z.at_ + k) :: z.gone, r, none⟩

theorem fresh_some {D : Garden} {z : Thread} (hz : z.at_ < D.squares) {k : Nat} (f : D.fresh z = some k) :
    k < 4 ∧ ∃ t, D.goes z.at_ k = some t ∧ ¬ (4 * z.at_ + k) ∈ z.gone ∧ ¬ (4 * t + (k + 2) % 4) ∈ z.gone := by
  have hk : k < 4 := by
    have := List.mem_of_find?_eq_some f
    simp at this; omega
  have q := List.find?_some f
  simp only [isStep_of hz hk, Bool.and_eq_true, Bool.not_eq_true', Option.isSome_iff_exists] at q
  obtain ⟨⟨t, g⟩, q1, q2⟩ := q
  rw [reverse_of hk g] at q2
  refine ⟨hk, t, g, fun m => ?_, fun m => ?_⟩
  · rw [List.contains_iff_mem.mpr m] at q1; cases q1
  · rw [List.contains_iff_mem.mpr m] at q2; cases q2

theorem step_none {D : Garden} {z : Thread} (h : D.threadStep z = none) : z.turn = none ∧ D.fresh z = none ∧ z.back = [] := by
  unfold Garden.threadStep at h
  cases ht : z.turn with
  | some k => rw [ht] at h; cases h
  | none =>
    rw [ht] at h
    cases hf : D.fresh z with
    | some k =>
      rw [hf] at h
      dsimp only at h
      split at h <;> cases h
    | none =>
      rw [hf] at h
      cases hb : z.back with
      | nil => exact ⟨rfl, rfl, rfl⟩
      | cons k r => rw [hb] at h; cases h

theorem step_some {D : Garden} {s0 : Nat} {z y : Thread} (T : Ti D s0 z) (h : D.threadStep z = some y) : ∃ k, Stp D z k y := by
  unfold Garden.threadStep at h
  cases ht : z.turn with
  | some k =>
    rw [ht] at h
    obtain ⟨hk, b, g, _⟩ := T.turn k ht
    refine ⟨k, ?_⟩
    have e := Option.some.inj h
    rw [← e, comes_of hk g]
    exact .turn ht hk g
  | none =>
    rw [ht] at h
    have eb : base D z = z.at_ := by simp [base, ht]
    cases hf : D.fresh z with
    | some k =>
      rw [hf] at h
      obtain ⟨hk, t, g, _⟩ := fresh_some T.lt hf
      dsimp only at h
      rw [comes_of hk g] at h
      refine ⟨k, ?_⟩
      split at h
      · rename_i c
        have e := Option.some.inj h
        rw [← e]
        exact .ring ht hk g hf (List.contains_iff_mem.mp c)
      · rename_i c
        have e := Option.some.inj h
        rw [← e]
        exact .new ht hk g hf fun m => c (List.contains_iff_mem.mpr m)
    | none =>
      rw [hf] at h
      cases hb : z.back with
      | nil => rw [hb] at h; cases h
      | cons k r =>
        rw [hb] at h
        have p := T.path
        rw [hb, eb] at p
        obtain ⟨_, hk, b, g, _⟩ := p
        refine ⟨k, ?_⟩
        have e := Option.some.inj h
        rw [← e, comes_of hk g]
        have q := Stp.back ht hk g hf hb
        exact q

theorem stp_step {D : Garden} {z y : Thread} {k : Nat} (h : Stp D z k y) : D.threadStep z = some y := by
  unfold Garden.threadStep
  cases h with
  | turn h hk g => rw [h]; simp [comes_of hk g]
  | ring h hk g f hs =>
    rw [h, f]
    dsimp only
    rw [comes_of hk g, if_pos (List.contains_iff_mem.mpr hs)]
  | new h hk g f hs =>
    rw [h, f]
    dsimp only
    rw [comes_of hk g, if_neg fun q => hs (List.contains_iff_mem.mp q)]
  | back h hk g f hb =>
    rw [h, f, hb]
    simp [comes_of hk g]

theorem stp_gone {D : Garden} {z y : Thread} {k : Nat} (h : Stp D z k y) : y.gone = (4 * z.at_ + k) :: z.gone ∧ k < 4 ∧ D.goes z.at_ k = some y.at_ := by
  cases h with
  | turn h hk g => exact ⟨rfl, hk, g⟩
  | ring h hk g f hs => exact ⟨rfl, hk, g⟩
  | new h hk g f hs => exact ⟨rfl, hk, g⟩
  | back h hk g f hb => exact ⟨rfl, hk, g⟩

/-- the step isn't gone before; where it's fresh its reverse isn't either -/
theorem stp_not {D : Garden} {s0 : Nat} {z y : Thread} {k : Nat} (T : Ti D s0 z) (h : Stp D z k y) : ¬ (4 * z.at_ + k) ∈ z.gone := by
  cases h with
  | turn h hk g => obtain ⟨_, b, _, n, _⟩ := T.turn _ h; exact n
  | ring h hk g f hs => exact (fresh_some T.lt f).2.choose_spec.2.1
  | new h hk g f hs => exact (fresh_some T.lt f).2.choose_spec.2.1
  | back h hk g f hb =>
    have p := T.path
    have eb : base D z = z.at_ := by simp [base, h]
    rw [hb, eb] at p
    obtain ⟨_, _, _, _, n, _⟩ := p
    exact n

theorem Ti.step {D : Garden} (S : Sized D) {s0 : Nat} {z y : Thread} {k : Nat} (T : Ti D s0 z) (h : Stp D z k y) : Ti D s0 y := by
  have hn := stp_not T h
  have hg := stp_gone h
  have gnd : y.gone.Nodup := by rw [hg.1]; exact List.nodup_cons.mpr ⟨hn, T.gone_nd⟩
  have gok : ∀ e ∈ y.gone, e < 4 * D.squares := by
    rw [hg.1]; intro e he
    rcases List.mem_cons.mp he with rfl | he
    · have := T.lt; have := hg.2.1; omega
    · exact T.gone_ok e he
  have ylt : y.at_ < D.squares := (goes_back S T.lt hg.2.1 hg.2.2).1
  have gb := (goes_back S T.lt hg.2.1 hg.2.2).2
  cases h with
  | @turn b h hk g =>
    obtain ⟨_, b', g', n, m, ne⟩ := T.turn _ h
    have e : b' = b := by rw [g] at g'; exact (Option.some.inj g').symm
    subst e
    have eb : base D z = b' := by simp [base, h, comes_of hk g]
    have p := T.path; have pn := T.pnd; have ps := T.pseen
    rw [eb] at p pn ps ne
    exact { lt := ylt, turn := fun _ q => by simp at q, path := p.more ne, pnd := pn, pseen := ps,
            at_seen := ps _ (by obtain ⟨l, e⟩ := backFrom_eq D b' z.back; rw [e]; exact List.mem_cons_self), seen_nd := T.seen_nd, gone_nd := gnd, gone_ok := gok }
  | @ring t h hk g f hs =>
    obtain ⟨_, t', g', n, n'⟩ := fresh_some T.lt f
    have e : t' = t := by rw [g] at g'; exact (Option.some.inj g').symm
    subst e
    have eb : base D z = z.at_ := by simp [base, h]
    have p := T.path; have pn := T.pnd; have ps := T.pseen
    rw [eb] at p pn ps
    have hk2 : (k + 2) % 4 < 4 := Nat.mod_lt _ (by omega)
    have ec : D.comes (4 * t' + (k + 2) % 4) = z.at_ := comes_of hk2 gb
    have eb2 : base D ⟨t', z.seen, (4 * z.at_ + k) :: z.gone, z.back, some ((k + 2) % 4)⟩ = z.at_ := ec
    have ne : ¬ (4 * z.at_ + k) ∈ edges D z.at_ z.back := fun m => by
      obtain ⟨s, k', t2, _, _, hk', e1, g2, _, m2⟩ := p.edge _ m
      have es : s = z.at_ := by omega
      have ek : k' = k := by omega
      subst es; subst ek
      rw [g] at g2
      have et := Option.some.inj g2
      subst et
      exact n' m2
    refine { lt := ylt, turn := fun j q => ?_, path := ?_, pnd := ?_, pseen := ?_, at_seen := hs, seen_nd := T.seen_nd, gone_nd := gnd, gone_ok := gok }
    · obtain rfl : (k + 2) % 4 = j := Option.some.inj q
      refine ⟨hk2, z.at_, gb, fun m => ?_, ?_, fun m => ?_⟩
      · rcases List.mem_cons.mp m with q | q
        · omega
        · exact n' q
      · have : ((k + 2) % 4 + 2) % 4 = k := by omega
        rw [this]; exact List.mem_cons_self
      · rw [eb2] at m
        obtain ⟨s, k', t2, _, _, hk', e1, g2, _, m2⟩ := p.edge _ m
        have es : s = t' := by simp only at e1; omega
        have ek : k' = (k + 2) % 4 := by simp only at e1; omega
        subst es; subst ek
        rw [gb] at g2
        have et := Option.some.inj g2
        subst et
        have : ((k + 2) % 4 + 2) % 4 = k := by omega
        rw [this] at m2
        exact n m2
    · rw [eb2]; exact p.more ne
    · rw [eb2]; exact pn
    · rw [eb2]; exact ps
  | @new t h hk g f hs =>
    obtain ⟨_, t', g', n, n'⟩ := fresh_some T.lt f
    have e : t' = t := by rw [g] at g'; exact (Option.some.inj g').symm
    subst e
    have eb : base D z = z.at_ := by simp [base, h]
    have p := T.path; have pn := T.pnd; have ps := T.pseen
    rw [eb] at p pn ps
    have hk2 : (k + 2) % 4 < 4 := Nat.mod_lt _ (by omega)
    have ec : D.comes (4 * t' + (k + 2) % 4) = z.at_ := comes_of hk2 gb
    have ne : ¬ (4 * z.at_ + k) ∈ edges D z.at_ z.back := fun m => by
      obtain ⟨s, k', t2, _, _, hk', e1, g2, _, m2⟩ := p.edge _ m
      have es : s = z.at_ := by omega
      have ek : k' = k := by omega
      subst es; subst ek
      rw [g] at g2
      have et := Option.some.inj g2
      subst et
      exact n' m2
    have tne : t' ≠ z.at_ := fun q => hs (q ▸ T.at_seen)
    have ebf : D.backFrom t' (((k + 2) % 4) :: z.back) = t' :: D.backFrom z.at_ z.back := by simp only [Garden.backFrom, ec]
    refine { lt := ylt, turn := fun j q => by simp at q, path := ?_, pnd := ?_, pseen := ?_, at_seen := List.mem_cons_self, seen_nd := List.nodup_cons.mpr ⟨hs, T.seen_nd⟩, gone_nd := gnd, gone_ok := gok }
    · refine ⟨ylt, hk2, z.at_, gb, fun m => ?_, ?_, p.more ne⟩
      · rcases List.mem_cons.mp m with q | q
        · have : t' = z.at_ := by omega
          exact tne this
        · exact n' q
      · have : ((k + 2) % 4 + 2) % 4 = k := by omega
        rw [this]; exact List.mem_cons_self
    · show (D.backFrom t' (((k + 2) % 4) :: z.back)).Nodup
      rw [ebf]
      exact List.nodup_cons.mpr ⟨fun m => hs (ps _ m), pn⟩
    · show ∀ x ∈ D.backFrom t' (((k + 2) % 4) :: z.back), x ∈ t' :: z.seen
      rw [ebf]
      intro x hx
      rcases List.mem_cons.mp hx with rfl | hx
      · exact List.mem_cons_self
      · exact List.mem_cons_of_mem _ (ps x hx)
  | @back b r h hk g f hb =>
    have eb : base D z = z.at_ := by simp [base, h]
    have p := T.path; have pn := T.pnd; have ps := T.pseen
    rw [eb, hb] at p pn ps
    obtain ⟨_, _, b', g', n, m, p⟩ := p
    have e : b' = b := by rw [g] at g'; exact (Option.some.inj g').symm
    subst e
    have ebf : D.backFrom z.at_ (k :: r) = z.at_ :: D.backFrom b' r := by simp only [Garden.backFrom, comes_of hk g]
    rw [ebf] at pn ps
    have ne : ¬ (4 * z.at_ + k) ∈ edges D b' r := fun m => by
      obtain ⟨s, k', t2, hm, _, hk', e1, _⟩ := p.edge _ m
      have es : s = z.at_ := by omega
      subst es
      exact (List.nodup_cons.mp pn).1 hm
    exact { lt := ylt, turn := fun j q => by simp at q, path := p.more ne, pnd := (List.nodup_cons.mp pn).2, pseen := fun x hx => ps x (List.mem_cons_of_mem _ hx),
            at_seen := ps _ (List.mem_cons_of_mem _ (by obtain ⟨l, e⟩ := backFrom_eq D b' r; rw [e]; exact List.mem_cons_self)), seen_nd := T.seen_nd, gone_nd := gnd, gone_ok := gok }

end Tw

/-! The program's walk beside the specification's. -/
namespace Tw
open Maze

theorem find_same {α : Type} {p q : α → Bool} : ∀ {l : List α}, (∀ a ∈ l, p a = q a) → l.find? p = l.find? q
  | [], _ => rfl
  | a :: r, h => by
    rw [List.find?_cons, List.find?_cons, h a List.mem_cons_self, find_same fun b hb => h b (List.mem_cons_of_mem _ hb)]
theorem find_only {α : Type} {p : α → Bool} {k : α} : ∀ {l : List α}, k ∈ l → p k = true → (∀ a ∈ l, p a = true → a = k) → l.find? p = some k
  | [], h, _, _ => by cases h
  | a :: r, h, hk, hu => by
    rw [List.find?_cons]
    cases ha : p a with
    | true => rw [hu a List.mem_cons_self ha]
    | false =>
      rcases List.mem_cons.mp h with rfl | h
      · rw [hk] at ha; cases ha
      · exact find_only h hk fun b hb => hu b (List.mem_cons_of_mem _ hb)
theorem sides_lt {k : Nat} (h : k ∈ sides) : k < 4 := by
  simp [sides] at h; omega
theorem sides_mem {k : Nat} (h : k < 4) : k ∈ sides := by
  simp [sides]; omega

structure Fits (D : Garden) (hp : Nat → Nat → Bool) : Prop where
  S : Sized D
  hp : ∀ s, s < D.squares → ∀ k, k < 4 → hp s k = (D.goes s k).isSome

theorem before_end {l : List Nat} {b a : Nat} : (l ++ [b, a]).getD ((l ++ [b, a]).length - 2) 0 = b := by
  simp [List.getD_eq_getElem?_getD]
theorem lying_none {D : Garden} {z : Thread} (h : z.turn = none) : D.lying z = (D.backFrom z.at_ z.back).reverse := by
  unfold Garden.lying; rw [h]
theorem lying_some {D : Garden} {z : Thread} {k : Nat} (h : z.turn = some k) : D.lying z = (D.backFrom (base D z) z.back).reverse ++ [z.at_] := by
  unfold Garden.lying base; rw [h]
theorem lying_last {D : Garden} (z : Thread) : ∃ l, D.lying z = l ++ [z.at_] := by
  cases h : z.turn with
  | none =>
    obtain ⟨l, e⟩ := backFrom_eq D z.at_ z.back
    exact ⟨l.reverse, by rw [lying_none h, e, List.reverse_cons]⟩
  | some k => exact ⟨_, lying_some h⟩

theorem sideTo_of {D : Garden} {hp : Nat → Nat → Bool} (F : Fits D hp) {s k b : Nat} (hs : s < D.squares) (hk : k < 4) (g : D.goes s k = some b) : sideTo hp D.wide s b = k := by
  unfold sideTo
  rw [find_only (k := k) (sides_mem hk)]
  · rfl
  · rw [F.hp s hs k hk, g, goes_beside F.S hk g]; simp
  · intro j hj h
    have hj4 := sides_lt hj
    rw [F.hp s hs j hj4] at h
    simp only [Bool.and_eq_true, decide_eq_true_eq, Option.isSome_iff_exists] at h
    obtain ⟨⟨t, gt⟩, hb⟩ := h
    rw [goes_beside F.S hj4 gt] at hb
    have : t = b := by omega
    subst this
    exact goes_one F.S hj4 hk gt g

structure Rel (D : Garden) (hist : List Thread) (z : Thread) (W : Wk) : Prop where
  last : ∃ pre, hist = pre ++ [z]
  squares : W.squares = hist.map fun (y : Thread) => y.at_
  thread : W.thread = D.lying z
  gone : ∀ s k t, s < D.squares → k < 4 → D.goes s k = some t → (W.went s k = true ↔ (4 * s + k ∈ z.gone ∨ 4 * t + (k + 2) % 4 ∈ z.gone))
  seen1 : W.seen.map (·.1) = z.seen.reverse
  seen2 : ∀ u, W.seenAt u = W.squares.findIdx? (· == u)
  turn : W.turn = z.turn.isSome
  len : hist.length = z.gone.length + 1
  glen : W.gone.length ≤ 2 * z.gone.length

theorem Rel.init {D : Garden} (s : Nat) : Rel D [threadBegin s] (threadBegin s) (initM s) where
  last := ⟨[], rfl⟩
  squares := rfl
  thread := rfl
  gone := fun _ _ _ _ _ _ => by simp [initM, Wk.went, threadBegin]
  seen1 := rfl
  seen2 := fun u => by
    simp only [Wk.seenAt, initM, List.find?_cons, List.find?_nil, List.findIdx?_cons, List.findIdx?_nil]
    by_cases h : s = u
    · simp [h]
    · simp [h]
  turn := rfl
  len := rfl
  glen := by simp [initM]

section
variable {D : Garden} {hp : Nat → Nat → Bool} {s0 : Nat} {hist : List Thread} {z y : Thread} {W : Wk} {k : Nat}

theorem Rel.here (R : Rel D hist z W) : W.here = z.at_ := by
  obtain ⟨l, e⟩ := lying_last (D := D) z
  rw [Wk.here, R.thread, e]; simp

theorem Rel.fresh (F : Fits D hp) (T : Ti D s0 z) (R : Rel D hist z W) : freshM hp W = D.fresh z := by
  unfold freshM Garden.fresh
  refine find_same fun j hj => ?_
  have hj4 := sides_lt hj
  rw [R.here, F.hp _ T.lt j hj4, isStep_of T.lt hj4]
  cases g : D.goes z.at_ j with
  | none => rfl
  | some t =>
    have q := R.gone _ j t T.lt hj4 g
    rw [reverse_of hj4 g]
    simp only [Option.isSome_some, Bool.true_and]
    rw [← Bool.not_or]
    congr 1
    rw [Bool.eq_iff_iff, q, Bool.or_eq_true, List.contains_iff_mem, List.contains_iff_mem]

theorem Rel.sees (R : Rel D hist z W) (u : Nat) : W.sees u = true ↔ u ∈ z.seen := by
  rw [← List.mem_reverse, ← R.seen1, Wk.sees, List.any_eq_true, List.mem_map]
  constructor
  · rintro ⟨p, h1, h2⟩; exact ⟨p, h1, of_decide_eq_true h2⟩
  · rintro ⟨p, h1, h2⟩; exact ⟨p, h1, decide_eq_true h2⟩

/-- where the specification goes on the program goes on by the same side -/
theorem Rel.next (F : Fits D hp) (T : Ti D s0 z) (R : Rel D hist z W) (h : Stp D z k y) : nextSide hp D.wide W = k := by
  unfold nextSide
  rw [R.turn, R.fresh F T]
  cases h with
  | @turn b h hk g =>
    rw [h]
    obtain ⟨l, e⟩ := backFrom_eq D (base D z) z.back
    have eb : base D z = b := by simp [base, h, comes_of hk g]
    have et : W.thread = l.reverse ++ [b, z.at_] := by rw [R.thread, lying_some h, e, eb]; simp
    have el : ¬ W.thread.length = 1 := by rw [et]; simp
    simp only [Option.isSome_some, if_true]
    rw [if_neg el, R.here]
    have ebf : W.before = b := by unfold Wk.before; rw [et]; exact before_end
    rw [ebf]
    exact sideTo_of F T.lt hk g
  | ring h hk g f hs => rw [h, f]; rfl
  | new h hk g f hs => rw [h, f]; rfl
  | @back b r h hk g f hb =>
    rw [h, f]
    obtain ⟨l, e⟩ := backFrom_eq D b r
    have et : W.thread = l.reverse ++ [b, z.at_] := by
      rw [R.thread, lying_none h, hb]
      simp only [Garden.backFrom, comes_of hk g, e]
      simp
    have el : ¬ W.thread.length = 1 := by rw [et]; simp
    have ebf : W.before = b := by unfold Wk.before; rw [et]; exact before_end
    simp only [Option.isSome_none, Bool.false_eq_true, if_false]
    rw [if_neg el, R.here, ebf]
    exact sideTo_of F T.lt hk g
theorem Rel.done (F : Fits D hp) (T : Ti D s0 z) (R : Rel D hist z W) (h : D.threadStep z = none) : nextSide hp D.wide W = 4 := by
  obtain ⟨h1, h2, h3⟩ := step_none h
  unfold nextSide
  rw [R.turn, R.fresh F T, h1, h2]
  have et : W.thread.length = 1 := by
    rw [R.thread, lying_none h1, h3]; rfl
  simp [et]

theorem went_add {g : List (Nat × Nat)} {p q : Nat × Nat} : ((goneAdd g p).any fun x => decide (x = q)) = true ↔ ((g.any fun x => decide (x = q)) = true ∨ q = p) := by
  unfold goneAdd
  split
  · rename_i h
    constructor
    · exact .inl
    · rintro (h' | rfl)
      · exact h'
      · exact h
  · rw [List.any_append, Bool.or_eq_true]
    simp only [List.any_cons, List.any_nil, Bool.or_false, decide_eq_true_eq]
    constructor
    · rintro (h | rfl)
      · exact .inl h
      · exact .inr rfl
    · rintro (h | rfl)
      · exact .inl h
      · exact .inr rfl
theorem goneAdd_len {g : List (Nat × Nat)} {p : Nat × Nat} : (goneAdd g p).length ≤ g.length + 1 := by
  unfold goneAdd; split <;> simp

theorem findIdx_snoc {l : List Nat} {a u : Nat} : (l ++ [a]).findIdx? (· == u) = (match l.findIdx? (· == u) with
    | some i => some i
    | none => if a = u then some l.length else none) := by
  rw [List.findIdx?_append]
  cases h : l.findIdx? (· == u) with
  | some i => rfl
  | none => 
    simp only [Option.none_or, List.findIdx?_cons, List.findIdx?_nil]
    by_cases e : a = u
    · simp [e]
    · simp [e]

theorem seenAt_sees {W : Wk} {u : Nat} (h : W.seenAt u = none) : W.sees u = false := by
  unfold Wk.seenAt at h
  rw [Option.map_eq_none_iff, List.find?_eq_none] at h
  unfold Wk.sees
  rw [List.any_eq_false]
  exact h
theorem sees_seenAt {W : Wk} {u : Nat} (h : W.sees u = false) : W.seenAt u = none := by
  unfold Wk.sees at h
  rw [List.any_eq_false] at h
  unfold Wk.seenAt
  rw [Option.map_eq_none_iff, List.find?_eq_none]
  exact h

/-- one step of both -/
theorem Rel.step (F : Fits D hp) (T : Ti D s0 z) (R : Rel D hist z W) (h : Stp D z k y) : Rel D (hist ++ [y]) y (stepM D.wide W k) := by
  obtain ⟨eg, hk, g⟩ := stp_gone h
  have there : (beside D.wide W.here k).toNat = y.at_ := by rw [R.here, goes_beside F.S hk g]; rfl
  have gb := goes_back F.S T.lt hk g
  have sq : (stepM D.wide W k).squares = W.squares ++ [y.at_] := by
    unfold stepM; rw [there]; dsimp only; split <;> rfl
  have se : (stepM D.wide W k).seen = if W.sees y.at_ = true then W.seen else W.seen ++ [(y.at_, W.squares.length)] := by
    unfold stepM; rw [there]; dsimp only; split <;> rfl
  have q := R.sees y.at_
  have qg := R.gone _ k _ T.lt hk g
  -- of each kind of step: the squares seen; the thread; the passages gone; whether one must turn
  have kinds : (W.went z.at_ k = true ∧ (4 * y.at_ + (k + 2) % 4) ∈ z.gone ∧ y.turn = none ∧ y.seen = z.seen ∧ y.at_ ∈ z.seen ∧ D.lying z = D.lying y ++ [z.at_]) ∨
      (W.went z.at_ k = false ∧ y.turn.isSome = W.sees y.at_ ∧ (y.seen = if W.sees y.at_ = true then z.seen else y.at_ :: z.seen) ∧ D.lying y = D.lying z ++ [y.at_]) := by
    cases h with
    | @turn b h _ _ =>
      obtain ⟨_, b', g', n, m, ne⟩ := T.turn _ h
      have e : b' = b := by rw [g] at g'; exact (Option.some.inj g').symm
      subst e
      have eb : base D z = b' := by simp only [base, h]; exact comes_of hk g
      obtain ⟨l, e⟩ := backFrom_eq D b' z.back
      refine .inl ⟨qg.mpr (.inr m), m, rfl, rfl, T.pseen _ ?_, ?_⟩
      · rw [eb, e]; exact List.mem_cons_self
      · rw [lying_some h, eb, lying_none rfl]
    | @ring t h _ _ f hs =>
      obtain ⟨_, t', g', n, n'⟩ := fresh_some T.lt f
      have e : t' = t := by rw [g] at g'; exact (Option.some.inj g').symm
      subst e
      refine .inr ⟨?_, ?_, ?_, ?_⟩
      · rw [Bool.eq_false_iff]; intro c
        rcases qg.mp c with c | c
        · exact n c
        · exact n' c
      · rw [q.mpr hs]; rfl
      · rw [if_pos (q.mpr hs)]
      · rw [lying_none h, lying_some (k := (k + 2) % 4) rfl]
        have e2 : base D ⟨t', z.seen, (4 * z.at_ + k) :: z.gone, z.back, some ((k + 2) % 4)⟩ = z.at_ := comes_of (Nat.mod_lt _ (by omega)) gb.2
        rw [e2]
    | @new t h _ _ f hs =>
      obtain ⟨_, t', g', n, n'⟩ := fresh_some T.lt f
      have e : t' = t := by rw [g] at g'; exact (Option.some.inj g').symm
      subst e
      have nf : W.sees t' = false := by rw [Bool.eq_false_iff]; exact fun c => hs (q.mp c)
      refine .inr ⟨?_, ?_, ?_, ?_⟩
      · rw [Bool.eq_false_iff]; intro c
        rcases qg.mp c with c | c
        · exact n c
        · exact n' c
      · dsimp only; rw [nf]; rfl
      · dsimp only; rw [nf]; rfl
      · rw [lying_none h, lying_none rfl]
        simp only [Garden.backFrom]
        rw [comes_of (Nat.mod_lt _ (by omega)) gb.2, List.reverse_cons]
    | @back b r h _ _ f hb =>
      have eb : base D z = z.at_ := by simp only [base, h]
      have p := T.path
      rw [eb, hb] at p
      obtain ⟨_, _, b', g', n, m, p⟩ := p
      have e : b' = b := by rw [g] at g'; exact (Option.some.inj g').symm
      subst e
      obtain ⟨l, e⟩ := backFrom_eq D b' r
      have ec := comes_of hk g
      dsimp only at ec
      refine .inl ⟨qg.mpr (.inr m), m, rfl, rfl, T.pseen _ ?_, ?_⟩
      · rw [eb, hb]
        simp only [Garden.backFrom]
        rw [ec, e]
        exact List.mem_cons_of_mem _ List.mem_cons_self
      · rw [lying_none h, lying_none rfl, hb]
        simp only [Garden.backFrom]
        rw [ec, List.reverse_cons]
  have ySeen : y.seen = if W.sees y.at_ = true then z.seen else y.at_ :: z.seen := by
    rcases kinds with ⟨_, _, _, e, m, _⟩ | ⟨_, _, e, _⟩
    · rw [e, if_pos (q.mpr m)]
    · exact e
  refine { last := ⟨hist, rfl⟩, squares := ?_, thread := ?_, gone := ?_, seen1 := ?_, seen2 := ?_, turn := ?_, len := ?_, glen := ?_ }
  · rw [sq, R.squares]; simp
  · rcases kinds with ⟨e1, _, _, _, _, e2⟩ | ⟨e1, _, _, e2⟩
    · unfold stepM; dsimp only
      rw [R.here, if_pos e1]
      rw [R.thread, e2, List.dropLast_concat]
    · have et : (stepM D.wide W k).thread = W.thread ++ [y.at_] := by
        unfold stepM; rw [there, R.here, if_neg (by rw [e1]; exact Bool.false_ne_true)]
      rw [et, e2, R.thread]
  · intro s k' t hs hk' g'
    have old := R.gone s k' t hs hk' g'
    have gb' := goes_back F.S hs hk' g'
    have k2 : (k + 2) % 4 < 4 := Nat.mod_lt _ (by omega)
    rcases kinds with ⟨e1, e2, _⟩ | ⟨e1, _⟩
    · have eg2 : (stepM D.wide W k).went s k' = W.went s k' := by
        unfold stepM; dsimp only
        rw [R.here, if_pos e1]; rfl
      rw [eg2, old, eg]
      constructor
      · rintro (c | c)
        · exact .inl (List.mem_cons_of_mem _ c)
        · exact .inr (List.mem_cons_of_mem _ c)
      · rintro (c | c)
        · rcases List.mem_cons.mp c with c | c
          · have es : s = z.at_ := by omega
            have ek : k' = k := by omega
            subst es; subst ek
            rw [g] at g'
            have et := Option.some.inj g'
            subst et
            exact .inr e2
          · exact .inl c
        · rcases List.mem_cons.mp c with c | c
          · have es : t = z.at_ := by omega
            have ek : (k' + 2) % 4 = k := by omega
            subst es; subst ek
            rw [gb'.2] at g
            have et := Option.some.inj g
            subst et
            have e3 : ((k' + 2) % 4 + 2) % 4 = k' := by omega
            rw [e3] at e2
            exact .inl e2
          · exact .inr c
    · have eg2 : (stepM D.wide W k).gone = goneAdd (goneAdd W.gone (z.at_, k)) (y.at_, (k + 2) % 4) := by
        unfold stepM; rw [there, R.here, if_neg (by rw [e1]; exact Bool.false_ne_true)]
      have eg3 : (stepM D.wide W k).went s k' = true ↔ ((W.went s k' = true ∨ (s, k') = (z.at_, k)) ∨ (s, k') = (y.at_, (k + 2) % 4)) := by
        unfold Wk.went; rw [eg2, went_add, went_add]
      rw [eg3, old, eg]
      constructor
      · rintro ((( c | c) | c) | c)
        · exact .inl (List.mem_cons_of_mem _ c)
        · exact .inr (List.mem_cons_of_mem _ c)
        · cases c; exact .inl List.mem_cons_self
        · cases c
          refine .inr ?_
          rw [gb.2] at g'
          have et := Option.some.inj g'
          subst et
          have e3 : ((k + 2) % 4 + 2) % 4 = k := by omega
          rw [e3]; exact List.mem_cons_self
      · rintro (c | c)
        · rcases List.mem_cons.mp c with c | c
          · have es : s = z.at_ := by omega
            have ek : k' = k := by omega
            exact .inl (.inr (by rw [es, ek]))
          · exact .inl (.inl (.inl c))
        · rcases List.mem_cons.mp c with c | c
          · have es : t = z.at_ := by omega
            have ek : (k' + 2) % 4 = k := by omega
            subst es; subst ek
            rw [gb'.2] at g
            have et := Option.some.inj g
            have e3 : ((k' + 2) % 4 + 2) % 4 = k' := by omega
            exact .inr (by rw [e3, ← et])
          · exact .inl (.inl (.inr c))
  · rw [se, ySeen]
    split
    · exact R.seen1
    · simp [R.seen1]
  · intro u
    rw [sq, findIdx_snoc, ← R.seen2 u]
    have e : (stepM D.wide W k).seenAt u = ((if W.sees y.at_ = true then W.seen else W.seen ++ [(y.at_, W.squares.length)]).find? fun p => decide (p.1 = u)).map (·.2) := by
      unfold Wk.seenAt; rw [se]
    rw [e]
    split
    · rename_i c
      have e2 : (W.seen.find? fun p => decide (p.1 = u)).map (·.2) = W.seenAt u := rfl
      rw [e2]
      cases hu : W.seenAt u with
      | some i => rfl
      | none =>
        dsimp only
        rw [if_neg]
        intro e3
        have := seenAt_sees hu
        rw [← e3, c] at this
        cases this
    · rename_i c
      rw [List.find?_append]
      unfold Wk.seenAt
      cases hu : W.seen.find? fun p => decide (p.1 = u) with
      | some p => rfl
      | none =>
        simp only [Option.none_or, Option.map_none, List.find?_cons, List.find?_nil]
        by_cases e3 : y.at_ = u
        · simp [e3]
        · simp [e3]
  · rcases kinds with ⟨e1, _, e2, _⟩ | ⟨e1, e2, _⟩
    · unfold stepM; dsimp only
      rw [R.here, if_pos e1, e2]; rfl
    · unfold stepM
      rw [there, R.here, if_neg (by rw [e1]; exact Bool.false_ne_true), e2]
  · rw [List.length_append, R.len, eg]; rfl
  · have l := R.glen
    have e : (stepM D.wide W k).gone.length ≤ W.gone.length + 2 := by
      unfold stepM; dsimp only
      split
      · dsimp only; omega
      · have h1 := goneAdd_len (g := W.gone) (p := (W.here, k))
        have h2 := goneAdd_len (g := goneAdd W.gone (W.here, k)) (p := ((beside D.wide W.here k).toNat, (k + 2) % 4))
        dsimp only; omega
    rw [eg, List.length_cons]; omega
end
end Tw

/-! The program's walk after so many steps is the specification's. -/
namespace Tw
open Maze

theorem nodup_le : ∀ (n : Nat) (l : List Nat), l.Nodup → (∀ e ∈ l, e < n) → l.length ≤ n
  | 0, l, _, h => by
    cases l with
    | nil => exact Nat.le_refl _
    | cons a r => exact absurd (h a List.mem_cons_self) (by omega)
  | n + 1, l, nd, h => by
    have h1 : ∀ e ∈ l.erase n, e < n := fun e he => by
      have := h e (List.mem_of_mem_erase he)
      have : e ≠ n := fun z => by
        rw [z] at he
        exact (List.Nodup.not_mem_erase nd) he
      omega
    have ih := nodup_le n (l.erase n) (nd.erase n) h1
    have := List.length_erase (a := n) (l := l)
    split at this <;> omega

section
variable {D : Garden} {hp : Nat → Nat → Bool} {s0 : Nat}
theorem from_succ (n : Nat) (z : Thread) : D.threadsFrom (n + 1) z = z :: (match D.threadStep z with
    | none => []
    | some y => D.threadsFrom n y) := rfl
theorem from_cons (n : Nat) (z : Thread) : ∃ l, D.threadsFrom n z = z :: l := by cases n <;> exact ⟨_, rfl⟩
theorem from_take : ∀ (n m : Nat) (z : Thread), n ≤ m → D.threadsFrom n z = (D.threadsFrom m z).take (n + 1)
  | 0, m, z, _ => by
    obtain ⟨l, e⟩ := from_cons (D := D) m z
    rw [e]; rfl
  | n + 1, 0, z, h => absurd h (by omega)
  | n + 1, m + 1, z, h => by
    rw [from_succ, from_succ]
    cases D.threadStep z with
    | none => simp
    | some y =>
      dsimp only
      rw [List.take_succ_cons, ← from_take n m y (by omega)]
theorem from_next : ∀ (m n : Nat) (z : Thread), n < m → (D.threadsFrom m z)[n + 1]? = ((D.threadsFrom m z)[n]?).bind D.threadStep
  | 0, n, z, h => absurd h (by omega)
  | m + 1, 0, z, _ => by
    rw [from_succ]
    cases h : D.threadStep z with
    | none => simp [h]
    | some y =>
      obtain ⟨l, e⟩ := from_cons (D := D) m y
      simp [h, e]
  | m + 1, n + 1, z, h => by
    rw [from_succ]
    cases hs : D.threadStep z with
    | none => simp
    | some y =>
      dsimp only
      rw [List.getElem?_cons_succ, List.getElem?_cons_succ]
      exact from_next m n y (by omega)

theorem runs (F : Fits D hp) : ∀ (n : Nat) (pre : List Thread) (z : Thread) (W : Wk), Ti D s0 z → Rel D (pre ++ [z]) z W →
    ∃ pre' z', pre ++ D.threadsFrom n z = pre' ++ [z'] ∧ Rel D (pre' ++ [z']) z' (goM hp D.wide n W) ∧ Ti D s0 z'
  | 0, pre, z, W, T, R => ⟨pre, z, rfl, R, T⟩
  | n + 1, pre, z, W, T, R => by
    rw [from_succ]
    unfold goM
    cases h : D.threadStep z with
    | none =>
      rw [R.done F T h]
      exact ⟨pre, z, rfl, R, T⟩
    | some y =>
      obtain ⟨k, st⟩ := step_some T h
      have hk := (stp_gone st).2.1
      rw [R.next F T st, if_pos hk]
      obtain ⟨pre', z', e, R', T'⟩ := runs F n (pre ++ [z]) y _ (T.step F.S st) (R.step F T st)
      refine ⟨pre', z', ?_, R', T'⟩
      rw [← e]; simp

variable {s : Nat}
theorem Rel.small {hist : List Thread} {z : Thread} {W : Wk} (R : Rel D hist z W) (T : Ti D s0 z) : hist.length ≤ 4 * D.squares + 1 := by
  have := nodup_le _ _ T.gone_nd T.gone_ok
  rw [R.len]; omega
theorem from_len (F : Fits D hp) (hs : s < D.squares) (n : Nat) : (D.threadsFrom n (threadBegin s)).length ≤ 4 * D.squares + 1 := by
  obtain ⟨pre, z, e, R, T⟩ := runs F n [] (threadBegin s) (initM s) (Ti.init hs) (Rel.init s)
  rw [List.nil_append] at e
  rw [e]; exact R.small T
theorem threads_len (F : Fits D hp) (hs : s < D.squares) : (D.threads s).length ≤ 4 * D.squares + 1 := from_len F hs _
theorem from_all (F : Fits D hp) (hs : s < D.squares) (n : Nat) : D.threadsFrom n (threadBegin s) = (D.threads s).take (n + 1) := by
  by_cases h : n ≤ 4 * D.squares + 1
  · exact from_take n _ _ h
  · have e1 : D.threads s = (D.threadsFrom n (threadBegin s)).take (4 * D.squares + 1 + 1) := from_take _ n _ (by omega)
    have l1 := from_len F hs n
    rw [List.take_of_length_le (by omega)] at e1
    rw [e1, List.take_of_length_le (by omega)]
/-- after n steps -/
theorem after (F : Fits D hp) (hs : s < D.squares) (n : Nat) : ∃ pre z, (D.threads s).take (n + 1) = pre ++ [z] ∧ Rel D (pre ++ [z]) z (goM hp D.wide n (initM s)) ∧ Ti D s z := by
  obtain ⟨pre, z, e, R, T⟩ := runs F n [] (threadBegin s) (initM s) (Ti.init hs) (Rel.init s)
  rw [List.nil_append, from_all F hs] at e
  exact ⟨pre, z, e, R, T⟩
theorem after_squares (F : Fits D hp) (hs : s < D.squares) (n : Nat) : (goM hp D.wide n (initM s)).squares = (D.threadWalk s).take (n + 1) := by
  obtain ⟨pre, z, e, R, T⟩ := after F hs n
  rw [R.squares, ← e, Garden.threadWalk, List.map_take]
theorem walk_len (F : Fits D hp) (hs : s < D.squares) : (D.threadWalk s).length ≤ 4 * D.squares + 1 := by
  unfold Garden.threadWalk; rw [List.length_map]; exact threads_len F hs
theorem after_all (F : Fits D hp) (hs : s < D.squares) (n : Nat) (hn : 4 * D.squares ≤ n) : (goM hp D.wide n (initM s)).squares = D.threadWalk s := by
  rw [after_squares F hs, List.take_of_length_le]
  have := walk_len F hs; omega
/-- how it stands after i steps, where there are so many -/
theorem after_at (F : Fits D hp) (hs : s < D.squares) {i : Nat} {z : Thread} (h : D.threadAt s i = some z) : ∃ pre, pre.length = i ∧ Rel D (pre ++ [z]) z (goM hp D.wide i (initM s)) ∧ Ti D s z := by
  obtain ⟨pre, z', e, R, T⟩ := after F hs i
  have h' : (D.threads s)[i]? = some z := h
  have hi := (List.getElem?_eq_some_iff.mp h').1
  have el : pre.length = i := by
    have := congrArg List.length e
    rw [List.length_take, List.length_append] at this
    simp at this; omega
  have e2 : ((D.threads s).take (i + 1))[i]? = some z := by rw [List.getElem?_take_of_lt (by omega)]; exact h'
  rw [e, ← el, List.getElem?_append_right (Nat.le_refl _), Nat.sub_self] at e2
  obtain rfl : z' = z := Option.some.inj e2
  exact ⟨pre, el, R, T⟩
/-- the side that the walk goes on by -/
theorem after_next (F : Fits D hp) (hs : s < D.squares) {i : Nat} {z : Thread} (h : D.threadAt s i = some z) : nextSide hp D.wide (goM hp D.wide i (initM s)) = (match D.threadAt s (i + 1) with
    | none => 4
    | some y => y.gone.headD 0 % 4) := by
  obtain ⟨pre, el, R, T⟩ := after_at F hs h
  have h' : (D.threads s)[i]? = some z := h
  have hi := (List.getElem?_eq_some_iff.mp h').1
  have hl := threads_len F hs
  have en : D.threadAt s (i + 1) = D.threadStep z := by
    have q := from_next (D := D) (4 * D.squares + 1) i (threadBegin s) (by omega)
    have q1 : (D.threads s)[i + 1]? = ((D.threads s)[i]?).bind D.threadStep := q
    rw [h'] at q1
    exact q1
  rw [en]
  cases hst : D.threadStep z with
  | none => exact R.done F T hst
  | some y =>
    obtain ⟨k, st⟩ := step_some T hst
    obtain ⟨e1, hk, _⟩ := stp_gone st
    rw [R.next F T st]
    dsimp only
    rw [e1]
    show k = (4 * z.at_ + k) % 4
    omega
end
end Tw

/-! The program reads a drawing just where the specification does: the signs, line by line. -/
namespace Tw
open Maze

/-! ### signs as whole numbers -/
def signI (z : Scan) (c : Int) : Option Scan :=
  if z.line = 0 then
    (if z.col % 2 = 0 then (if c = 43 then some { z with col := z.col + 1 } else none)
    else if c = 45 ∧ z.col / 2 < 10 then some { z with col := z.col + 1 }
    else if c = 10 ∧ 3 ≤ z.col then some { z with line := 1, col := 0, wide := z.col / 2 } else none)
  else if z.line % 2 = 1 then
    (if z.col = 0 then (if c = 124 ∧ z.line / 2 < 10 then some { z with col := 1, lev := z.lev ++ z.cur, cur := [] } else none)
    else if z.col = 2 * z.wide + 1 then (if c = 10 then some { z with line := z.line + 1, col := 0, full := true } else none)
    else if z.col % 2 = 1 then (if c = 32 then some { z with col := z.col + 1 } else none)
    else if z.col = 2 * z.wide then (if c = 124 then some { z with col := z.col + 1 } else none)
    else if c = 124 ∨ c = 32 then some { z with col := z.col + 1, up := z.up ++ [decide (c = 124)] } else none)
  else
    (if z.col = 2 * z.wide + 1 then (if c = 10 then some { z with line := z.line + 1, col := 0 } else none)
    else if z.col % 2 = 0 then (if c = 43 then some { z with col := z.col + 1 } else none)
    else if c = 45 then some { z with col := z.col + 1, cur := z.cur ++ [true] }
    else if c = 32 ∧ z.line / 2 < 10 then some { z with col := z.col + 1, cur := z.cur ++ [false], full := false } else none)
theorem byte_eq {c : Int} (h : 0 ≤ c ∧ c ≤ 255) (k : Nat) (hk : k < 256) : (UInt8.ofNat c.toNat = UInt8.ofNat k) ↔ (c = (k : Int)) := by
  constructor
  · intro e
    have e2 := congrArg UInt8.toNat e
    rw [UInt8.toNat_ofNat', UInt8.toNat_ofNat'] at e2
    omega
  · intro e
    subst e
    rw [Int.toNat_natCast]
theorem sign_eq (z : Scan) {c : Int} (h : 0 ≤ c ∧ c ≤ 255) : z.sign (UInt8.ofNat c.toNat) = signI z c := by
  have e43 : (UInt8.ofNat c.toNat = 43) ↔ (c = 43) := byte_eq h 43 (by decide)
  have e45 : (UInt8.ofNat c.toNat = 45) ↔ (c = 45) := byte_eq h 45 (by decide)
  have e10 : (UInt8.ofNat c.toNat = 10) ↔ (c = 10) := byte_eq h 10 (by decide)
  have e124 : (UInt8.ofNat c.toNat = 124) ↔ (c = 124) := byte_eq h 124 (by decide)
  have e32 : (UInt8.ofNat c.toNat = 32) ↔ (c = 32) := byte_eq h 32 (by decide)
  have eb : (UInt8.ofNat c.toNat == 124) = decide (c = 124) := by
    rw [Bool.eq_iff_iff, beq_iff_eq, decide_eq_true_eq, e124]
  unfold Scan.sign signI
  simp only [e43, e45, e10, e124, e32, eb, SIDE]
def scanI : Scan → List Int → Option Scan
  | z, [] => some z
  | z, c :: r => (signI z c).bind fun y => scanI y r
theorem scan_app : ∀ (a : List Int) (z : Scan) (b : List Int), scanI z (a ++ b) = (scanI z a).bind fun y => scanI y b
  | [], z, b => rfl
  | c :: a, z, b => by
    show (signI z c).bind (fun y => scanI y (a ++ b)) = ((signI z c).bind fun y => scanI y a).bind fun y => scanI y b
    cases signI z c with
    | none => rfl
    | some y => exact scan_app a y b
theorem scan_eq : ∀ (t : List Int) (p : Nat) (z : Scan), (∀ x ∈ t, 0 ≤ x ∧ x ≤ 255) → (match (scanI z t).bind Scan.ends with
    | none => ∃ q, scanFrom p z (ThreadNeutral.text t) = .error q
    | some D => scanFrom p z (ThreadNeutral.text t) = .ok D)
  | [], p, z, _ => by
    show match z.ends with
      | none => ∃ q, scanFrom p z [] = .error q
      | some D => scanFrom p z [] = .ok D
    unfold scanFrom
    cases z.ends with
    | none => exact ⟨p, rfl⟩
    | some D => rfl
  | c :: t, p, z, h => by
    have e := sign_eq z (h c List.mem_cons_self)
    show match ((signI z c).bind fun y => scanI y t).bind Scan.ends with
      | none => ∃ q, scanFrom p z (UInt8.ofNat c.toNat :: ThreadNeutral.text t) = .error q
      | some D => scanFrom p z (UInt8.ofNat c.toNat :: ThreadNeutral.text t) = .ok D
    unfold scanFrom
    rw [e]
    cases signI z c with
    | none => exact ⟨p, rfl⟩
    | some y => exact scan_eq t (p + 1) y fun x hx => h x (List.mem_cons_of_mem _ hx)

/-! ### a text by its lines -/
def joinL (A : List (List Int)) : List Int := (A.dropLast.map (· ++ [10])).flatten ++ A.getLastD []
theorem join_step {A : List (List Int)} (h : A ≠ []) (c : Int) : joinL (lineStep A c) = joinL A ++ [c] := by
  obtain ⟨B, l, rfl⟩ : ∃ B l, A = B ++ [l] := ⟨A.dropLast, A.getLast h, (List.dropLast_concat_getLast h).symm⟩
  unfold lineStep
  split
  · rename_i e
    subst e
    unfold joinL
    simp
  · unfold joinL
    simp
theorem step_ne (A : List (List Int)) (c : Int) : lineStep A c ≠ [] := by unfold lineStep; split <;> simp
theorem join_fold : ∀ (t : List Int) (A : List (List Int)), A ≠ [] → joinL (t.foldl lineStep A) = joinL A ++ t
  | [], A, _ => by simp
  | c :: t, A, h => by
    rw [List.foldl_cons, join_fold t _ (step_ne A c), join_step h]; simp
theorem no10_fold : ∀ (t : List Int) (A : List (List Int)), (∀ l ∈ A, ¬ (10 : Int) ∈ l) → ∀ l ∈ t.foldl lineStep A, ¬ (10 : Int) ∈ l
  | [], A, h => h
  | c :: t, A, h => by
    rw [List.foldl_cons]
    refine no10_fold t _ ?_
    unfold lineStep
    split
    · intro l hl
      rcases List.mem_append.mp hl with hl | hl
      · exact h l hl
      · rw [List.mem_singleton.mp hl]; simp
    · rename_i hc
      intro l hl
      rcases List.mem_append.mp hl with hl | hl
      · exact h l (List.dropLast_subset _ hl)
      · rw [List.mem_singleton.mp hl]
        intro m
        rcases List.mem_append.mp m with m | m
        · cases hA : A.getLast? with
          | none => rw [List.getLastD_eq_getLast?, hA] at m; cases m
          | some x =>
            rw [List.getLastD_eq_getLast?, hA] at m
            exact h x (List.mem_of_getLast? hA) m
        · exact hc (List.mem_singleton.mp m).symm
theorem linesM_ne (t : List Int) : linesM t ≠ [] := by
  unfold linesM
  have : ∀ (t : List Int) (A : List (List Int)), A ≠ [] → t.foldl lineStep A ≠ [] := fun t => by
    induction t with
    | nil => intro A h; exact h
    | cons c r ih => intro A _; exact ih _ (step_ne A c)
  exact this t _ (by simp)
theorem lines_join (t : List Int) : joinL (linesM t) = t := by
  unfold linesM; rw [join_fold t _ (by simp)]; rfl
theorem lines_no10 (t : List Int) : ∀ l ∈ linesM t, ¬ (10 : Int) ∈ l := no10_fold t _ (by simp)

/-! ### one line scanned -/
def upsF (n : Nat) : Nat → List Int → List Bool
  | _, [] => []
  | j, c :: r => (if j % 2 = 0 ∧ j ≠ 0 ∧ j + 1 ≠ n then [decide (c = 124)] else []) ++ upsF n (j + 1) r
def curF : Nat → List Int → List Bool
  | _, [] => []
  | j, c :: r => (if j % 2 = 1 then [decide (c = 45)] else []) ++ curF (j + 1) r
theorem first_line : ∀ (l : List Int) (c : Nat), ¬ (10 : Int) ∈ l → c ≤ 21 → scanI ⟨0, c, 0, true, [], [], []⟩ l = if lvl true c l = true ∧ c + l.length ≤ 21 then some ⟨0, c + l.length, 0, true, [], [], []⟩ else none
  | [], c, _, hc => by simp [scanI, lvl, hc]
  | x :: r, c, h10, hc => by
    have hx : x ≠ 10 := fun z => h10 (by rw [z]; exact List.mem_cons_self)
    have hr : ¬ (10 : Int) ∈ r := fun m => h10 (List.mem_cons_of_mem _ m)
    show (signI _ x).bind (fun y => scanI y r) = _
    unfold signI lvl
    simp only [if_true]
    by_cases h2 : c % 2 = 0
    · rw [if_pos h2, if_pos h2]
      by_cases hx43 : x = 43
      · rw [if_pos hx43, decide_eq_true hx43, Bool.true_and, Option.bind_some, first_line r (c + 1) hr (by omega)]
        have e : c + 1 + r.length = c + (x :: r).length := by rw [List.length_cons]; omega
        rw [e]
      · rw [if_neg hx43, decide_eq_false hx43]; simp
    · rw [if_neg h2, if_neg h2]
      by_cases hx45 : x = 45 ∧ c / 2 < 10
      · rw [if_pos hx45, decide_eq_true hx45.1, Option.bind_some, first_line r (c + 1) hr (by omega)]
        have e : c + 1 + r.length = c + (x :: r).length := by rw [List.length_cons]; omega
        rw [e]; simp
      · rw [if_neg hx45, if_neg (by rintro ⟨z, _⟩; exact hx z)]
        rw [if_neg]
        · rfl
        · rintro ⟨a, b⟩
          rw [List.length_cons] at b
          rw [Bool.and_eq_true] at a
          have a1 := a.1
          simp at a1
          exact hx45 ⟨a1, by omega⟩
theorem first_whole (l : List Int) (h10 : ¬ (10 : Int) ∈ l) : scanI scanBegun (l ++ [10]) = if lvl true 0 l = true ∧ isSideM l.length = true then some ⟨1, 0, l.length / 2, true, [], [], []⟩ else none := by
  have e := first_line l 0 h10 (by omega)
  rw [scan_app]
  have e0 : scanBegun = ⟨0, 0, 0, true, [], [], []⟩ := rfl
  rw [e0, e]
  by_cases h : lvl true 0 l = true ∧ 0 + l.length ≤ 21
  · rw [if_pos h, Option.bind_some]
    show (signI _ 10).bind (fun y => scanI y []) = _
    unfold signI
    simp only [if_true, Nat.zero_add]
    by_cases h2 : l.length % 2 = 0
    · rw [if_pos h2, if_neg (by decide), if_neg]
      · rfl
      · rintro ⟨_, b⟩
        simp [isSideM] at b; omega
    · rw [if_neg h2, if_neg (by rintro ⟨a, _⟩; exact absurd a (by decide))]
      by_cases h3 : 3 ≤ l.length
      · rw [if_pos ⟨trivial, h3⟩, if_pos]
        · rfl
        · refine ⟨h.1, ?_⟩
          simp [isSideM]; omega
      · rw [if_neg (fun z => h3 z.2), if_neg]
        · rfl
        · rintro ⟨_, b⟩
          simp [isSideM] at b; omega
  · rw [if_neg h, if_neg]
    · rfl
    · rintro ⟨a, b⟩
      simp [isSideM] at b
      exact h ⟨a, by omega⟩
theorem mid_up : ∀ (r : List Int) (z : Scan) (c : Nat), ¬ (10 : Int) ∈ r → z.line ≠ 0 → z.line % 2 = 1 → z.col = c → 1 ≤ c → c ≤ 2 * z.wide + 1 →
    scanI z r = if upr (2 * z.wide + 1) c r = true ∧ c + r.length ≤ 2 * z.wide + 1 then some { z with col := c + r.length, up := z.up ++ upsF (2 * z.wide + 1) c r } else none
  | [], z, c, _, _, _, e, _, h => by
    subst e
    simp [scanI, upr, upsF, h]
  | x :: r, z, c, h10, h0, h1, e, hc1, hc => by
    subst e
    have hx : x ≠ 10 := fun z => h10 (by rw [z]; exact List.mem_cons_self)
    have hr : ¬ (10 : Int) ∈ r := fun m => h10 (List.mem_cons_of_mem _ m)
    have el : z.col + 1 + r.length = z.col + (x :: r).length := by rw [List.length_cons]; omega
    show (signI z x).bind (fun y => scanI y r) = _
    unfold signI
    rw [if_neg h0, if_pos h1, if_neg (by omega)]
    by_cases hend : z.col = 2 * z.wide + 1
    · rw [if_pos hend, if_neg hx, if_neg]
      · rfl
      · rintro ⟨_, b⟩
        rw [List.length_cons] at b; omega
    · rw [if_neg hend]
      unfold upr upsF
      by_cases h2 : z.col % 2 = 1
      · rw [if_pos h2, if_pos h2]
        by_cases h32 : x = 32
        · rw [if_pos h32, decide_eq_true h32, Bool.true_and, Option.bind_some, mid_up r { z with col := z.col + 1 } (z.col + 1) hr h0 h1 rfl (by omega) (by show z.col + 1 ≤ 2 * z.wide + 1; omega)]
          dsimp only
          rw [el, if_neg (c := z.col % 2 = 0 ∧ _) (by omega), List.nil_append]
        · rw [if_neg h32, decide_eq_false h32]; simp
      · rw [if_neg h2, if_neg h2]
        by_cases hw : z.col = 2 * z.wide
        · rw [if_pos hw]
          have e1 : (!(decide (z.col = 0) || decide (z.col + 1 = 2 * z.wide + 1)) && decide (x = 32)) = false := by
            rw [decide_eq_true (by omega : z.col + 1 = 2 * z.wide + 1)]; simp
          rw [e1, Bool.or_false]
          by_cases h124 : x = 124
          · rw [if_pos h124, decide_eq_true h124, Bool.true_and, Option.bind_some, mid_up r { z with col := z.col + 1 } (z.col + 1) hr h0 h1 rfl (by omega) (by show z.col + 1 ≤ 2 * z.wide + 1; omega)]
            dsimp only
            rw [el, if_neg (c := z.col % 2 = 0 ∧ _) (by omega), List.nil_append]
          · rw [if_neg h124, decide_eq_false h124]; simp
        · rw [if_neg hw]
          have e1 : (decide (x = 124) || (!(decide (z.col = 0) || decide (z.col + 1 = 2 * z.wide + 1)) && decide (x = 32))) = decide (x = 124 ∨ x = 32) := by
            rw [decide_eq_false (by omega : ¬ z.col = 0), decide_eq_false (by omega : ¬ z.col + 1 = 2 * z.wide + 1)]
            simp
          rw [e1]
          by_cases hv : x = 124 ∨ x = 32
          · rw [if_pos hv, decide_eq_true hv, Bool.true_and, Option.bind_some, mid_up r { z with col := z.col + 1, up := z.up ++ [decide (x = 124)] } (z.col + 1) hr h0 h1 rfl (by omega) (by show z.col + 1 ≤ 2 * z.wide + 1; omega)]
            dsimp only
            rw [el, if_pos (c := z.col % 2 = 0 ∧ _) (by omega), List.append_assoc]
          · rw [if_neg hv, decide_eq_false hv]; simp
/-- a line of squares and its end -/
theorem up_whole (l : List Int) (z : Scan) (h10 : ¬ (10 : Int) ∈ l) (h1 : z.line % 2 = 1) (hc : z.col = 0) (hw : 1 ≤ z.wide) :
    scanI z (l ++ [10]) = if l.length = 2 * z.wide + 1 ∧ z.line / 2 < 10 ∧ upr (2 * z.wide + 1) 0 l = true then some ⟨z.line + 1, 0, z.wide, true, z.up ++ upsF (2 * z.wide + 1) 0 l, z.lev ++ z.cur, []⟩ else none := by
  cases l with
  | nil =>
    rw [if_neg (by rintro ⟨a, _⟩; simp at a)]
    show (signI z 10).bind _ = none
    unfold signI
    rw [if_neg (by omega), if_pos h1, if_pos hc, if_neg (by rintro ⟨a, _⟩; exact absurd a (by decide))]
    rfl
  | cons x r =>
    have hr : ¬ (10 : Int) ∈ r := fun m => h10 (List.mem_cons_of_mem _ m)
    show (signI z x).bind (fun y => scanI y (r ++ [10])) = _
    unfold signI
    rw [if_neg (by omega), if_pos h1, if_pos hc]
    have e0 : upr (2 * z.wide + 1) 0 (x :: r) = (decide (x = 124) && upr (2 * z.wide + 1) 1 r) := by
      have q : upr (2 * z.wide + 1) 0 (x :: r) = ((if 0 % 2 = 1 then decide (x = 32) else (decide (x = 124) || (!(decide (0 = 0) || decide (0 + 1 = 2 * z.wide + 1)) && decide (x = 32)))) && upr (2 * z.wide + 1) 1 r) := rfl
      rw [q, if_neg (by decide)]
      simp
    have e1 : upsF (2 * z.wide + 1) 0 (x :: r) = upsF (2 * z.wide + 1) 1 r := rfl
    rw [e0, e1]
    by_cases hx : x = 124 ∧ z.line / 2 < 10
    · rw [if_pos hx, decide_eq_true hx.1, Bool.true_and, Option.bind_some, scan_app, mid_up r { z with col := 1, lev := z.lev ++ z.cur, cur := [] } 1 hr (by show z.line ≠ 0; omega) h1 rfl (Nat.le_refl _) (by show 1 ≤ 2 * z.wide + 1; omega)]
      dsimp only
      by_cases hu : upr (2 * z.wide + 1) 1 r = true ∧ 1 + r.length ≤ 2 * z.wide + 1
      · rw [if_pos hu, Option.bind_some]
        show (signI _ 10).bind (fun y => scanI y []) = _
        unfold signI
        dsimp only
        rw [if_neg (by omega), if_pos h1, if_neg (by omega)]
        by_cases hl : 1 + r.length = 2 * z.wide + 1
        · rw [if_pos hl, if_pos rfl, if_pos ⟨by rw [List.length_cons]; omega, hx.2, hu.1⟩]
          rfl
        · have hl' : ¬ (x :: r).length = 2 * z.wide + 1 := by rw [List.length_cons]; omega
          rw [if_neg (c := (x :: r).length = 2 * z.wide + 1 ∧ _) (fun q => hl' q.1), if_neg hl]
          simp
      · rw [if_neg hu, if_neg]
        · rfl
        · rintro ⟨a, _, c⟩
          rw [List.length_cons] at a
          exact hu ⟨c, by omega⟩
    · rw [if_neg hx, if_neg]
      · rfl
      · rintro ⟨_, b, c⟩
        rw [Bool.and_eq_true, decide_eq_true_eq] at c
        exact hx ⟨c.1, b⟩
theorem mid_lev : ∀ (r : List Int) (z : Scan) (c : Nat), ¬ (10 : Int) ∈ r → z.line ≠ 0 → z.line % 2 = 0 → z.col = c → c ≤ 2 * z.wide + 1 →
    scanI z r = if lvl (decide (10 ≤ z.line / 2)) c r = true ∧ c + r.length ≤ 2 * z.wide + 1 then some { z with col := c + r.length, cur := z.cur ++ curF c r, full := z.full && lvl true c r } else none
  | [], z, c, _, _, _, e, h => by
    subst e
    simp [scanI, lvl, curF, h]
  | x :: r, z, c, h10, h0, h1, e, hc => by
    subst e
    have hx : x ≠ 10 := fun z => h10 (by rw [z]; exact List.mem_cons_self)
    have hr : ¬ (10 : Int) ∈ r := fun m => h10 (List.mem_cons_of_mem _ m)
    have el : z.col + 1 + r.length = z.col + (x :: r).length := by rw [List.length_cons]; omega
    show (signI z x).bind (fun y => scanI y r) = _
    unfold signI
    rw [if_neg h0, if_neg (by omega)]
    by_cases hend : z.col = 2 * z.wide + 1
    · rw [if_pos hend, if_neg hx, if_neg]
      · rfl
      · rintro ⟨_, b⟩
        rw [List.length_cons] at b; omega
    · rw [if_neg hend]
      unfold lvl curF
      by_cases h2 : z.col % 2 = 0
      · rw [if_pos h2, if_pos h2, if_pos h2]
        by_cases h43 : x = 43
        · rw [if_pos h43, decide_eq_true h43, Bool.true_and, Bool.true_and, Option.bind_some, mid_lev r { z with col := z.col + 1 } (z.col + 1) hr h0 h1 rfl (by show z.col + 1 ≤ 2 * z.wide + 1; omega)]
          dsimp only
          rw [el, if_neg (c := z.col % 2 = 1) (by omega), List.nil_append]
        · rw [if_neg h43, decide_eq_false h43]; simp
      · rw [if_neg h2, if_neg h2, if_neg h2, if_pos (c := z.col % 2 = 1) (by omega)]
        by_cases h45 : x = 45
        · rw [if_pos h45, decide_eq_true h45, Bool.true_or, Bool.true_and, Bool.true_or, Bool.true_and, Option.bind_some, mid_lev r { z with col := z.col + 1, cur := z.cur ++ [true] } (z.col + 1) hr h0 h1 rfl (by show z.col + 1 ≤ 2 * z.wide + 1; omega)]
          dsimp only
          rw [el, List.append_assoc]
        · rw [if_neg h45, decide_eq_false h45]
          have e3 : (false || (!true && decide (x = 32))) = false := rfl
          rw [e3, Bool.false_and, Bool.and_false]
          by_cases h32 : x = 32 ∧ z.line / 2 < 10
          · rw [if_pos h32, decide_eq_true h32.1, decide_eq_false (by omega : ¬ 10 ≤ z.line / 2), Option.bind_some, mid_lev r { z with col := z.col + 1, cur := z.cur ++ [false], full := false } (z.col + 1) hr h0 h1 rfl (by show z.col + 1 ≤ 2 * z.wide + 1; omega)]
            dsimp only
            rw [el, List.append_assoc, decide_eq_false (by omega : ¬ 10 ≤ z.line / 2)]
            simp
          · rw [if_neg h32, if_neg]
            · rfl
            · rintro ⟨a, _⟩
              rw [Bool.and_eq_true] at a
              have a1 := a.1
              simp at a1
              exact h32 ⟨a1.2, by omega⟩
/-- a level line and its end -/
theorem lev_whole (l : List Int) (z : Scan) (h10 : ¬ (10 : Int) ∈ l) (h0 : z.line ≠ 0) (h1 : z.line % 2 = 0) (hc : z.col = 0) :
    scanI z (l ++ [10]) = if l.length = 2 * z.wide + 1 ∧ lvl (decide (10 ≤ z.line / 2)) 0 l = true then some ⟨z.line + 1, 0, z.wide, z.full && lvl true 0 l, z.up, z.lev, z.cur ++ curF 0 l⟩ else none := by
  rw [scan_app, mid_lev l z 0 h10 h0 h1 hc (by omega), Nat.zero_add]
  by_cases hu : lvl (decide (10 ≤ z.line / 2)) 0 l = true ∧ l.length ≤ 2 * z.wide + 1
  · rw [if_pos hu, Option.bind_some]
    show (signI _ 10).bind (fun y => scanI y []) = _
    unfold signI
    dsimp only
    rw [if_neg h0, if_neg (by omega)]
    by_cases hl : l.length = 2 * z.wide + 1
    · rw [if_pos hl, if_pos rfl, if_pos ⟨hl, hu.1⟩]
      rfl
    · rw [if_neg (c := l.length = 2 * z.wide + 1 ∧ _) (fun q => hl q.1), if_neg hl]
      simp
  · rw [if_neg hu, if_neg]
    · rfl
    · rintro ⟨a, b⟩
      exact hu ⟨b, by omega⟩
end Tw

/-! All lines of a drawing scanned; the garden that is read. -/
namespace Tw
open Maze

def okL (w y : Nat) (l : List Int) : Bool := decide (l.length = 2 * w + 1) && (if y % 2 = 1 then decide (y / 2 < 10) && upr (2 * w + 1) 0 l else lvl (decide (10 ≤ y / 2)) 0 l)
def okAll (w : Nat) : Nat → List (List Int) → Bool
  | _, [] => true
  | y, l :: r => okL w y l && okAll w (y + 1) r
def adv (z : Scan) (l : List Int) : Scan := if z.line % 2 = 1 then ⟨z.line + 1, 0, z.wide, true, z.up ++ upsF (2 * z.wide + 1) 0 l, z.lev ++ z.cur, []⟩
  else ⟨z.line + 1, 0, z.wide, z.full && lvl true 0 l, z.up, z.lev, z.cur ++ curF 0 l⟩
theorem adv_line (z : Scan) (l : List Int) : (adv z l).line = z.line + 1 ∧ (adv z l).col = 0 ∧ (adv z l).wide = z.wide := by unfold adv; split <;> exact ⟨rfl, rfl, rfl⟩
theorem scan_lines : ∀ (ls : List (List Int)) (z : Scan) (b : List Int), (∀ l ∈ ls, ¬ (10 : Int) ∈ l) → z.line ≠ 0 → z.col = 0 → 1 ≤ z.wide →
    scanI z ((ls.map (· ++ [10])).flatten ++ b) = if okAll z.wide z.line ls = true then scanI (ls.foldl adv z) b else none
  | [], z, b, _, _, _, _ => by simp [okAll]
  | l :: ls, z, b, h10, h0, hc, hw => by
    have h1 : ¬ (10 : Int) ∈ l := h10 l List.mem_cons_self
    have h2 : ∀ m ∈ ls, ¬ (10 : Int) ∈ m := fun m hm => h10 m (List.mem_cons_of_mem _ hm)
    obtain ⟨a1, a2, a3⟩ := adv_line z l
    have e : scanI z (l ++ [10]) = if okL z.wide z.line l = true then some (adv z l) else none := by
      by_cases hp : z.line % 2 = 1
      · rw [up_whole l z h1 hp hc hw]
        unfold okL adv
        rw [if_pos hp, if_pos hp]
        by_cases q : l.length = 2 * z.wide + 1 ∧ z.line / 2 < 10 ∧ upr (2 * z.wide + 1) 0 l = true
        · rw [if_pos q, decide_eq_true q.1, decide_eq_true q.2.1, q.2.2]; rfl
        · rw [if_neg q, if_neg]
          intro z'
          rw [Bool.and_eq_true, Bool.and_eq_true, decide_eq_true_eq, decide_eq_true_eq] at z'
          exact q z'
      · rw [lev_whole l z h1 h0 (by omega) hc]
        unfold okL adv
        rw [if_neg hp, if_neg hp]
        by_cases q : l.length = 2 * z.wide + 1 ∧ lvl (decide (10 ≤ z.line / 2)) 0 l = true
        · rw [if_pos q, decide_eq_true q.1, q.2]; rfl
        · rw [if_neg q, if_neg]
          intro z'
          rw [Bool.and_eq_true, decide_eq_true_eq] at z'
          exact q z'
    rw [List.map_cons, List.flatten_cons, List.append_assoc, scan_app, e]
    unfold okAll
    by_cases q : okL z.wide z.line l = true
    · rw [if_pos q, Option.bind_some, scan_lines ls _ b h2 (by omega) a2 (by omega), a1, a3, q, Bool.true_and]; rfl
    · rw [if_neg q]
      rw [Bool.not_eq_true] at q
      rw [q]; simp
/-- an unfinished line is no drawing's end -/
theorem last_open (z : Scan) (x : Int) (r : List Int) (h10 : ¬ (10 : Int) ∈ x :: r) (h0 : z.line ≠ 0) (hc : z.col = 0) : (scanI z (x :: r)).bind Scan.ends = none := by
  have hr : ¬ (10 : Int) ∈ r := fun m => h10 (List.mem_cons_of_mem _ m)
  by_cases hp : z.line % 2 = 1
  · show ((signI z x).bind (fun y => scanI y r)).bind Scan.ends = none
    unfold signI
    rw [if_neg h0, if_pos hp, if_pos hc]
    split
    · rw [Option.bind_some, mid_up r { z with col := 1, lev := z.lev ++ z.cur, cur := [] } 1 hr h0 hp rfl (Nat.le_refl _) (by show 1 ≤ 2 * z.wide + 1; omega)]
      split
      · rw [Option.bind_some]
        unfold Scan.ends
        rw [if_neg]
        rintro ⟨a, _⟩
        dsimp only at a
        omega
      · rfl
    · rfl
  · rw [mid_lev (x :: r) z 0 h10 h0 (by omega) hc (by omega)]
    split
    · rw [Option.bind_some]
      unfold Scan.ends
      rw [if_neg]
      rintro ⟨a, _⟩
      rw [List.length_cons] at a
      dsimp only at a
      omega
    · rfl
def z1 (w : Nat) : Scan := ⟨1, 0, w, true, [], [], []⟩
theorem fold_line : ∀ (ls : List (List Int)) (z : Scan), z.col = 0 → (ls.foldl adv z).line = z.line + ls.length ∧ (ls.foldl adv z).col = 0 ∧ (ls.foldl adv z).wide = z.wide
  | [], z, h => ⟨rfl, h, rfl⟩
  | l :: ls, z, h => by
    obtain ⟨a1, a2, a3⟩ := adv_line z l
    obtain ⟨b1, b2, b3⟩ := fold_line ls (adv z l) a2
    refine ⟨?_, b2, ?_⟩
    · rw [List.foldl_cons, b1, a1, List.length_cons]; omega
    · rw [List.foldl_cons, b3, a3]
/-- what the scan gives, by lines -/
theorem scan_text (L : List (List Int)) (last : List Int) (h10 : ∀ l ∈ L ++ [last], ¬ (10 : Int) ∈ l) : (scanI scanBegun ((L.map (· ++ [10])).flatten ++ last)).bind Scan.ends = (match L with
    | [] => none
    | l0 :: rest => if last = [] ∧ lvl true 0 l0 = true ∧ isSideM l0.length = true ∧ okAll (l0.length / 2) 1 rest = true then (rest.foldl adv (z1 (l0.length / 2))).ends else none) := by
  have hlast : ¬ (10 : Int) ∈ last := h10 last (by simp)
  cases L with
  | nil =>
    show (scanI scanBegun last).bind Scan.ends = none
    have e := first_line last 0 hlast (by omega)
    have e0 : scanBegun = ⟨0, 0, 0, true, [], [], []⟩ := rfl
    rw [e0, e]
    split
    · rw [Option.bind_some]
      unfold Scan.ends
      rw [if_neg]
      rintro ⟨_, a, _⟩
      dsimp only at a
      omega
    · rfl
  | cons l0 rest =>
    have h0 : ¬ (10 : Int) ∈ l0 := h10 l0 (by simp)
    have hr : ∀ l ∈ rest, ¬ (10 : Int) ∈ l := fun l hl => h10 l (by simp [hl])
    dsimp only
    rw [List.map_cons, List.flatten_cons, List.append_assoc, scan_app, first_whole l0 h0]
    by_cases q0 : lvl true 0 l0 = true ∧ isSideM l0.length = true
    · rw [if_pos q0, Option.bind_some]
      have hw : 1 ≤ l0.length / 2 := by
        have := q0.2
        simp [isSideM] at this; omega
      rw [scan_lines rest ⟨1, 0, l0.length / 2, true, [], [], []⟩ last hr (by show (1 : Nat) ≠ 0; omega) rfl hw]
      by_cases q1 : okAll (l0.length / 2) 1 rest = true
      · rw [if_pos q1]
        obtain ⟨f1, f2, f3⟩ := fold_line rest (z1 (l0.length / 2)) rfl
        cases last with
        | nil => rw [if_pos ⟨rfl, q0.1, q0.2, q1⟩]; rfl
        | cons x r =>
          rw [if_neg (by rintro ⟨a, _⟩; cases a)]
          exact last_open _ x r hlast (by show (rest.foldl adv (z1 (l0.length / 2))).line ≠ 0; rw [f1]; show 1 + rest.length ≠ 0; omega) f2
      · rw [if_neg q1, if_neg fun q => q1 q.2.2.2]; rfl
    · rw [if_neg q0, if_neg fun q => q0 ⟨q.2.1, q.2.2.1⟩]; rfl

/-! ### lines in pairs -/
def unpair {α : Type} : List (α × α) → List α
  | [] => []
  | (a, b) :: r => a :: b :: unpair r
theorem paired {α : Type} : ∀ (h : Nat) (l : List α), l.length = 2 * h → ∃ ps, l = unpair ps ∧ ps.length = h
  | 0, l, e => ⟨[], by cases l with
    | nil => rfl
    | cons a r => simp at e, rfl⟩
  | h + 1, [], e => by simp at e
  | h + 1, [a], e => by simp at e; omega
  | h + 1, a :: b :: r, e => by
    obtain ⟨ps, e1, e2⟩ := paired h r (by simp at e; omega)
    exact ⟨(a, b) :: ps, by rw [e1]; rfl, by rw [List.length_cons, e2]⟩
theorem unpair_len {α : Type} : ∀ ps : List (α × α), (unpair ps).length = 2 * ps.length
  | [] => rfl
  | (a, b) :: r => by
    show (unpair r).length + 1 + 1 = 2 * (r.length + 1)
    rw [unpair_len r]; omega
theorem unpair_app {α : Type} : ∀ (ps qs : List (α × α)), unpair (ps ++ qs) = unpair ps ++ unpair qs
  | [], _ => rfl
  | (a, b) :: r, qs => by
    show a :: b :: unpair (r ++ qs) = a :: b :: (unpair r ++ unpair qs)
    rw [unpair_app r qs]
theorem unpair_at {α : Type} : ∀ (ps : List (α × α)) (i : Nat) (p : α × α), ps[i]? = some p → (unpair ps)[2 * i]? = some p.1 ∧ (unpair ps)[2 * i + 1]? = some p.2
  | [], i, p, h => by simp at h
  | (a, b) :: r, 0, p, h => by
    obtain rfl := Option.some.inj h
    exact ⟨rfl, rfl⟩
  | (a, b) :: r, i + 1, p, h => by
    have ih := unpair_at r i p (by simpa using h)
    have e : 2 * (i + 1) = 2 * i + 1 + 1 := by omega
    rw [e]
    exact ih
theorem fold_pairs : ∀ (ps : List (List Int × List Int)) (z : Scan), z.line % 2 = 1 → z.col = 0 →
    ((unpair ps).foldl adv z).up = z.up ++ (ps.map fun p => upsF (2 * z.wide + 1) 0 p.1).flatten ∧ ((unpair ps).foldl adv z).lev ++ ((unpair ps).foldl adv z).cur = z.lev ++ z.cur ++ (ps.map fun p => curF 0 p.2).flatten
  | [], z, _, _ => by simp [unpair]
  | (u, v) :: r, z, h1, hc => by
    have ea : adv (adv z u) v = ⟨z.line + 1 + 1, 0, z.wide, true && lvl true 0 v, z.up ++ upsF (2 * z.wide + 1) 0 u, z.lev ++ z.cur, [] ++ curF 0 v⟩ := by
      unfold adv
      rw [if_pos h1]
      dsimp only
      rw [if_neg (by omega)]
    show ((unpair r).foldl adv (adv (adv z u) v)).up = _ ∧ ((unpair r).foldl adv (adv (adv z u) v)).lev ++ ((unpair r).foldl adv (adv (adv z u) v)).cur = _
    rw [ea]
    obtain ⟨i1, i2⟩ := fold_pairs r ⟨z.line + 1 + 1, 0, z.wide, true && lvl true 0 v, z.up ++ upsF (2 * z.wide + 1) 0 u, z.lev ++ z.cur, [] ++ curF 0 v⟩ (by show (z.line + 1 + 1) % 2 = 1; omega) rfl
    refine ⟨?_, ?_⟩
    · rw [i1]; simp
    · rw [i2]; simp
theorem fold_last (qs : List (List Int × List Int)) (u v : List Int) (w : Nat) : (unpair (qs ++ [(u, v)])).foldl adv (z1 w) =
    ⟨2 * qs.length + 3, 0, w, lvl true 0 v, ((qs ++ [(u, v)]).map fun p => upsF (2 * w + 1) 0 p.1).flatten, (qs.map fun p => curF 0 p.2).flatten, curF 0 v⟩ := by
  rw [unpair_app, List.foldl_append]
  obtain ⟨f1, f2, f3⟩ := fold_line (unpair qs) (z1 w) rfl
  obtain ⟨g1, g2⟩ := fold_pairs qs (z1 w) rfl rfl
  rw [unpair_len] at f1
  generalize (unpair qs).foldl adv (z1 w) = y at f1 f2 f3 g1 g2
  show adv (adv y u) v = _
  have f1' : y.line = 1 + 2 * qs.length := f1
  have f3' : y.wide = w := f3
  unfold adv
  rw [if_pos (by omega : y.line % 2 = 1)]
  dsimp only
  rw [if_neg (by omega), g1, g2, f1', f3']
  simp [z1]
  omega

/-! ### the hedges of a line -/
theorem ups_at : ∀ (k j : Nat) (r : List Int) (n : Nat), j + r.length = n → r.length = 2 * k → j % 2 = 1 → upsF n j r = (List.range (k - 1)).map fun x => decide (r.getD (2 * x + 1) 0 = 124)
  | 0, j, r, n, _, h, _ => by
    have : r = [] := List.length_eq_zero_iff.mp (by omega)
    rw [this]; rfl
  | 1, j, [], n, _, h, _ => by simp at h
  | 1, j, [a], n, _, h, _ => by simp at h
  | 1, j, a :: b :: r, n, e, h, hj => by
    have : r = [] := by simp at h; exact h
    subst this
    simp only [List.length_cons, List.length_nil] at e
    unfold upsF upsF upsF
    rw [if_neg (by omega), if_neg (by omega)]; rfl
  | k + 2, j, [], n, _, h, _ => by simp at h
  | k + 2, j, [a], n, _, h, _ => by simp at h; omega
  | k + 2, j, a :: b :: r, n, e, h, hj => by
    have hl : r.length = 2 * (k + 1) := by simp at h; omega
    have el : j + 2 + r.length = n := by simp at e; omega
    have ih := ups_at (k + 1) (j + 2) r n el hl (by omega)
    have e1 : upsF n j (a :: b :: r) = [decide (b = 124)] ++ upsF n (j + 2) r := by
      show (if j % 2 = 0 ∧ j ≠ 0 ∧ j + 1 ≠ n then [decide (a = 124)] else []) ++ ((if (j + 1) % 2 = 0 ∧ j + 1 ≠ 0 ∧ j + 1 + 1 ≠ n then [decide (b = 124)] else []) ++ upsF n (j + 1 + 1) r) = _
      rw [if_neg (by omega), if_pos (by omega)]; rfl
    rw [e1, ih]
    have e2 : k + 2 - 1 = (k + 1 - 1) + 1 := by omega
    rw [e2, List.range_succ_eq_map, List.map_cons, List.map_map]
    rfl
theorem cur_at : ∀ (k j : Nat) (r : List Int), r.length = 2 * k + 1 → j % 2 = 0 → curF j r = (List.range k).map fun x => decide (r.getD (2 * x + 1) 0 = 45)
  | k, j, [], h, _ => by simp at h
  | 0, j, [a], h, hj => by
    unfold curF curF
    rw [if_neg (by omega)]; rfl
  | 0, j, a :: b :: r, h, _ => by simp at h
  | k + 1, j, [a], h, _ => by simp at h
  | k + 1, j, a :: b :: r, h, hj => by
    have hl : r.length = 2 * k + 1 := by simp at h; omega
    have ih := cur_at k (j + 2) r hl (by omega)
    have e1 : curF j (a :: b :: r) = [decide (b = 45)] ++ curF (j + 2) r := by
      show (if j % 2 = 1 then [decide (a = 45)] else []) ++ ((if (j + 1) % 2 = 1 then [decide (b = 45)] else []) ++ curF (j + 1 + 1) r) = _
      rw [if_neg (by omega), if_pos (by omega)]; rfl
    rw [e1, ih, List.range_succ_eq_map, List.map_cons, List.map_map]
    rfl
theorem ups_line {w : Nat} {u : List Int} (h : u.length = 2 * w + 1) : upsF (2 * w + 1) 0 u = (List.range (w - 1)).map fun x => decide (u.getD (2 * x + 2) 0 = 124) := by
  cases u with
  | nil => simp at h
  | cons a r =>
    have e : upsF (2 * w + 1) 0 (a :: r) = upsF (2 * w + 1) 1 r := rfl
    rw [e, ups_at w 1 r (2 * w + 1) (by simp at h; omega) (by simp at h; omega) rfl]
    rfl
theorem flat_at {α : Type} {k : Nat} : ∀ (Ls : List (List α)), (∀ l ∈ Ls, l.length = k) → ∀ (y x : Nat) (l : List α), Ls[y]? = some l → x < k → (Ls.flatten)[y * k + x]? = l[x]?
  | [], _, y, x, l, h, _ => by simp at h
  | m :: Ls, hk, 0, x, l, h, hx => by
    obtain rfl : m = l := Option.some.inj h
    rw [List.flatten_cons, Nat.zero_mul, Nat.zero_add, List.getElem?_append_left (by rw [hk m List.mem_cons_self]; exact hx)]
  | m :: Ls, hk, y + 1, x, l, h, hx => by
    have hm := hk m List.mem_cons_self
    have e : (y + 1) * k + x = m.length + (y * k + x) := by rw [hm, Nat.add_mul]; omega
    rw [List.flatten_cons, e, List.getElem?_append_right (by omega), Nat.add_sub_cancel_left]
    exact flat_at Ls (fun l hl => hk l (List.mem_cons_of_mem _ hl)) y x l (by simpa using h) hx
theorem flat_len {α : Type} {k : Nat} : ∀ (Ls : List (List α)), (∀ l ∈ Ls, l.length = k) → Ls.flatten.length = Ls.length * k
  | [], _ => by simp
  | m :: Ls, hk => by
    rw [List.flatten_cons, List.length_append, hk m List.mem_cons_self, flat_len Ls fun l hl => hk l (List.mem_cons_of_mem _ hl), List.length_cons, Nat.add_mul]; omega
/-! ### the signs of a line that is read -/
theorem upr_sign : ∀ (u : List Int) (n j : Nat), upr n j u = true → ∀ (i : Nat) (c : Int), u[i]? = some c → (j + i) % 2 = 0 → c = 124 ∨ (c = 32 ∧ j + i ≠ 0 ∧ j + i + 1 ≠ n)
  | [], _, _, _, i, c, h, _ => by simp at h
  | a :: u, n, j, hu, 0, c, h, hp => by
    obtain rfl : a = c := Option.some.inj h
    unfold upr at hu
    rw [Bool.and_eq_true, if_neg (by omega)] at hu
    have := hu.1
    simp at this
    rcases this with h1 | h1
    · exact .inl h1
    · exact .inr ⟨h1.2, by omega, by omega⟩
  | a :: u, n, j, hu, i + 1, c, h, hp => by
    unfold upr at hu
    rw [Bool.and_eq_true] at hu
    have ih := upr_sign u n (j + 1) hu.2 i c (by simpa using h) (by omega)
    rcases ih with h1 | ⟨h1, h2, h3⟩
    · exact .inl h1
    · exact .inr ⟨h1, by omega, by omega⟩
theorem lvl_sign : ∀ (v : List Int) (b : Bool) (j : Nat), lvl b j v = true → ∀ (i : Nat) (c : Int), v[i]? = some c → (j + i) % 2 = 1 → c = 45 ∨ (c = 32 ∧ b = false)
  | [], _, _, _, i, c, h, _ => by simp at h
  | a :: v, b, j, hv, 0, c, h, hp => by
    obtain rfl : a = c := Option.some.inj h
    unfold lvl at hv
    rw [Bool.and_eq_true, if_neg (by omega)] at hv
    have := hv.1
    simp at this
    rcases this with h1 | h1
    · exact .inl h1
    · exact .inr ⟨h1.2, h1.1⟩
  | a :: v, b, j, hv, i + 1, c, h, hp => by
    unfold lvl at hv
    rw [Bool.and_eq_true] at hv
    exact lvl_sign v b (j + 1) hv.2 i c (by simpa using h) (by omega)
theorem lvl_weak : ∀ (v : List Int) (b : Bool) (j : Nat), lvl true j v = true → lvl b j v = true
  | [], _, _, _ => rfl
  | a :: v, b, j, h => by
    unfold lvl at h ⊢
    rw [Bool.and_eq_true] at h ⊢
    refine ⟨?_, lvl_weak v b (j + 1) h.2⟩
    have := h.1
    split
    · rename_i c
      rw [if_pos c] at this; exact this
    · rename_i c
      rw [if_neg c] at this
      simp at this
      simp [this]
theorem good_all {L : List (List Int)} : ∀ (ls : List (List Int)) (y : Nat), allGood L y ls = true ↔ ∀ (i : Nat) (l : List Int), ls[i]? = some l → goodLine L (y + i) l = true
  | [], y => by simp [allGood]
  | m :: ls, y => by
    unfold allGood
    rw [Bool.and_eq_true, good_all ls (y + 1)]
    constructor
    · rintro ⟨h1, h2⟩ i l h
      cases i with
      | zero => obtain rfl : m = l := Option.some.inj h; exact h1
      | succ i =>
        have := h2 i l (by simpa using h)
        rw [show y + (i + 1) = y + 1 + i by omega]; exact this
    · intro h
      refine ⟨h 0 m rfl, fun i l hl => ?_⟩
      have := h (i + 1) l (by simpa using hl)
      rw [show y + 1 + i = y + (i + 1) by omega]; exact this
theorem ok_all {w : Nat} : ∀ (ls : List (List Int)) (y : Nat), okAll w y ls = true ↔ ∀ (i : Nat) (l : List Int), ls[i]? = some l → okL w (y + i) l = true
  | [], y => by simp [okAll]
  | m :: ls, y => by
    unfold okAll
    rw [Bool.and_eq_true, ok_all ls (y + 1)]
    constructor
    · rintro ⟨h1, h2⟩ i l h
      cases i with
      | zero => obtain rfl : m = l := Option.some.inj h; exact h1
      | succ i =>
        have := h2 i l (by simpa using h)
        rw [show y + (i + 1) = y + 1 + i by omega]; exact this
    · intro h
      refine ⟨h 0 m rfl, fun i l hl => ?_⟩
      have := h (i + 1) l (by simpa using hl)
      rw [show y + 1 + i = y + (i + 1) by omega]; exact this
end Tw

/-! What is read: the program's lines are a drawing just where the specification reads a garden, and its passages are the garden's. -/
namespace Tw
open Maze

theorem half_odd {n : Nat} (h : n % 2 = 1) : n = 2 * (n / 2) + 1 := by omega
theorem cell_at {L : List (List Int)} {y x : Nat} {l : List Int} {c : Int} (h : L[y]? = some l) (hc : l[x]? = some c) : cell L y x = c := by
  simp [cell, List.getD_eq_getElem?_getD, h, hc]
theorem getD_at {l : List Int} {x : Nat} {c : Int} (h : l[x]? = some c) : l.getD x 0 = c := by simp [List.getD_eq_getElem?_getD, h]
/-- lines that are a drawing's -/
structure Drawn (L : List (List Int)) : Prop where
  m : isSideM L.length = true
  n : isSideM (len0 L) = true
  good : ∀ (y : Nat) (l : List Int), L[y]? = some l → goodLine L y l = true
theorem Drawn.of {L : List (List Int)} (h1 : isSideM L.length = true) (h2 : isSideM (len0 L) = true) (h3 : allGood L 0 L = true) : Drawn L := ⟨h1, h2, fun y l h => by
  have := (good_all L 0).mp h3 y l h
  rw [Nat.zero_add] at this; exact this⟩
section
variable {L : List (List Int)}
theorem Drawn.sizes (h : Drawn L) : 1 ≤ wd L ∧ wd L ≤ 10 ∧ 1 ≤ hg L ∧ hg L ≤ 10 ∧ L.length = 2 * hg L + 1 ∧ len0 L = 2 * wd L + 1 := by
  have h1 := h.m
  have h2 := h.n
  simp [isSideM] at h1 h2
  unfold wd hg
  omega
theorem Drawn.len (h : Drawn L) {y : Nat} {l : List Int} (hl : L[y]? = some l) : l.length = 2 * wd L + 1 := by
  have := h.good y l hl
  unfold goodLine at this
  rw [Bool.and_eq_true, decide_eq_true_eq] at this
  rw [this.1]; exact h.sizes.2.2.2.2.2
theorem Drawn.lies (h : Drawn L) : Lies L := by
  obtain ⟨a, b, c, d, e, f⟩ := h.sizes
  refine ⟨a, by omega, by omega, e, fun l hl => ?_⟩
  obtain ⟨i, hi, rfl⟩ := List.getElem_of_mem hl
  exact h.len (List.getElem?_eq_getElem hi)
theorem Drawn.at (h : Drawn L) {y x : Nat} (hy : y ≤ 2 * hg L) (hx : x ≤ 2 * wd L) : ∃ l c, L[y]? = some l ∧ l[x]? = some c ∧ cell L y x = c ∧ l.length = 2 * wd L + 1 := by
  have e := h.sizes.2.2.2.2.1
  have h1 := List.getElem?_eq_getElem (l := L) (i := y) (by omega)
  have hl := h.len h1
  have h2 := List.getElem?_eq_getElem (l := L[y]) (i := x) (by omega)
  exact ⟨_, _, h1, h2, cell_at h1 h2, hl⟩
/-- an upright side: within the garden | or a blank, at the border | -/
theorem Drawn.upright (h : Drawn L) {q x : Nat} (hq : q < hg L) (hx : x ≤ wd L) : cell L (2 * q + 1) (2 * x) = 124 ∨ (cell L (2 * q + 1) (2 * x) = 32 ∧ x ≠ 0 ∧ x ≠ wd L) := by
  obtain ⟨l, c, h1, h2, h3, h4⟩ := h.at (y := 2 * q + 1) (x := 2 * x) (by omega) (by omega)
  have hg := h.good _ _ h1
  unfold goodLine at hg
  rw [Bool.and_eq_true, if_pos (by omega)] at hg
  have := upr_sign l l.length 0 hg.2 (2 * x) c h2 (by omega)
  rw [h3]
  rcases this with h5 | ⟨h5, h6, h7⟩
  · exact .inl h5
  · exact .inr ⟨h5, by omega, by omega⟩
/-- a level side -/
theorem Drawn.level (h : Drawn L) {q x : Nat} (hq : q ≤ hg L) (hx : x < wd L) : cell L (2 * q) (2 * x + 1) = 45 ∨ (cell L (2 * q) (2 * x + 1) = 32 ∧ q ≠ 0 ∧ q ≠ hg L) := by
  obtain ⟨l, c, h1, h2, h3, h4⟩ := h.at (y := 2 * q) (x := 2 * x + 1) (by omega) (by omega)
  have hg' := h.good _ _ h1
  have e := h.sizes.2.2.2.2.1
  unfold goodLine at hg'
  rw [Bool.and_eq_true, if_neg (by omega)] at hg'
  have := lvl_sign l _ 0 hg'.2 (2 * x + 1) c h2 (by omega)
  rw [h3]
  rcases this with h5 | ⟨h5, h6⟩
  · exact .inl h5
  · refine .inr ⟨h5, ?_⟩
    rw [Bool.or_eq_false_iff, decide_eq_false_iff_not, decide_eq_false_iff_not] at h6
    omega
end

/-- the garden of such lines -/
theorem fits_of {L : List (List Int)} (h : Drawn L) {D : Garden} (hw : D.wide = wd L) (hh : D.high = hg L)
    (hu : ∀ q x, q < hg L → x < wd L - 1 → D.hedge (q * (D.wide - 1) + x) = decide (cell L (2 * q + 1) (2 * x + 2) = 124))
    (hl : ∀ q x, q + 1 < hg L → x < wd L → D.hedge (D.uprights + (q * D.wide + x)) = decide (cell L (2 * q + 2) (2 * x + 1) = 45)) : Fits D (hasP L) := by
  obtain ⟨a, b, c, d, e, f⟩ := h.sizes
  refine ⟨⟨by omega, by omega, by omega, by omega⟩, fun s hs k hk => ?_⟩
  have S : 1 ≤ D.wide := by omega
  obtain ⟨q, r, hr, rfl, _, _⟩ := split D S s
  have hq : q < hg L := by rw [← hh]; exact rows_lt hs
  have hr' : r < wd L := by omega
  have em : (D.wide * q + r) % wd L = r := by rw [← hw]; exact mod_of hr
  have ed : (D.wide * q + r) / wd L = q := by rw [← hw]; exact div_of hr
  have key : ∀ (c : Bool), (c = true ↔ ∃ t, D.goes (D.wide * q + r) k = some t) → c = (D.goes (D.wide * q + r) k).isSome := fun c hc => by
    rw [Bool.eq_iff_iff, hc, Option.isSome_iff_exists]
  have hasE : hasP L (D.wide * q + r) k = (if k = 0 then decide (cell L (2 * q) (2 * r + 1) = 32) else if k = 1 then decide (cell L (2 * q + 1) (2 * r + 2) = 32) else if k = 2 then decide (cell L (2 * q + 2) (2 * r + 1) = 32) else decide (cell L (2 * q + 1) (2 * r) = 32)) := by
    unfold hasP
    rw [em, ed]; rfl
  refine key _ ?_
  rw [hasE]
  have hk' : k = 0 ∨ k = 1 ∨ k = 2 ∨ k = 3 := by omega
  constructor
  · intro hp
    rcases hk' with rfl | rfl | rfl | rfl
    · simp at hp
      rcases h.level (q := q) (x := r) (by omega) hr' with z | ⟨_, z1, z2⟩
      · omega
      · have e1 : 2 * q = 2 * (q - 1) + 2 := by omega
        refine ⟨_, (goes_iff hr hk).mpr (.inl ⟨rfl, by omega, rfl, ?_⟩)⟩
        rw [hl (q - 1) r (by omega) hr', ← e1, hp]; rfl
    · simp at hp
      rcases h.upright (q := q) (x := r + 1) hq (by omega) with z | ⟨_, z1, z2⟩
      · rw [show 2 * (r + 1) = 2 * r + 2 by omega] at z; omega
      · refine ⟨_, (goes_iff hr hk).mpr (.inr (.inl ⟨rfl, by omega, rfl, ?_⟩))⟩
        rw [hu q r hq (by omega), hp]; rfl
    · simp at hp
      rcases h.level (q := q + 1) (x := r) (by omega) hr' with z | ⟨_, z1, z2⟩
      · rw [show 2 * (q + 1) = 2 * q + 2 by omega] at z; omega
      · refine ⟨_, (goes_iff hr hk).mpr (.inr (.inr (.inl ⟨rfl, by omega, rfl, ?_⟩)))⟩
        rw [hl q r (by omega) hr', hp]; rfl
    · simp at hp
      rcases h.upright (q := q) (x := r) hq (by omega) with z | ⟨_, z1, z2⟩
      · omega
      · have e1 : 2 * r = 2 * (r - 1) + 2 := by omega
        refine ⟨_, (goes_iff hr hk).mpr (.inr (.inr (.inr ⟨rfl, by omega, rfl, ?_⟩)))⟩
        rw [hu q (r - 1) hq (by omega), ← e1, hp]; rfl
  · rintro ⟨t, ht⟩
    rcases (goes_iff hr hk).mp ht with ⟨rfl, z, _, g⟩ | ⟨rfl, z, _, g⟩ | ⟨rfl, z, _, g⟩ | ⟨rfl, z, _, g⟩
    · have e1 : 2 * (q - 1) + 2 = 2 * q := by omega
      rw [hl (q - 1) r (by omega) hr', e1, decide_eq_false_iff_not] at g
      rcases h.level (q := q) (x := r) (by omega) hr' with y | ⟨y, _⟩
      · exact absurd y g
      · simp [y]
    · rw [hu q r hq (by omega), decide_eq_false_iff_not] at g
      rcases h.upright (q := q) (x := r + 1) hq (by omega) with y | ⟨y, _⟩
      · exact absurd y g
      · rw [show 2 * (r + 1) = 2 * r + 2 by omega] at y
        simp [y]
    · rw [hl q r (by omega) hr', decide_eq_false_iff_not] at g
      rcases h.level (q := q + 1) (x := r) (by omega) hr' with y | ⟨y, _⟩
      · exact absurd y g
      · rw [show 2 * (q + 1) = 2 * q + 2 by omega] at y
        simp [y]
    · have e1 : 2 * (r - 1) + 2 = 2 * r := by omega
      rw [hu q (r - 1) hq (by omega), e1, decide_eq_false_iff_not] at g
      rcases h.upright (q := q) (x := r) hq (by omega) with y | ⟨y, _⟩
      · exact absurd y g
      · simp [y]

theorem read_spec (t : List Int) : (match readM t with
    | none => (scanI scanBegun t).bind Scan.ends = none
    | some L => ∃ D, (scanI scanBegun t).bind Scan.ends = some D ∧ D.wide = wd L ∧ D.high = hg L ∧ Lies L ∧ Fits D (hasP L)) := by
  obtain ⟨L, last, eA⟩ : ∃ L last, linesM t = L ++ [last] := ⟨_, _, (List.dropLast_concat_getLast (linesM_ne t)).symm⟩
  have ej := lines_join t
  have e10 := lines_no10 t
  rw [eA] at ej e10
  have ej2 : (L.map (· ++ [10])).flatten ++ last = t := by
    rw [← ej]; unfold joinL; simp
  have sc := scan_text L last e10
  rw [ej2] at sc
  have eR : readM t = if (decide (last = []) && (isSideM L.length && (isSideM (len0 L) && allGood L 0 L))) = true then some L else none := by
    unfold readM drawn
    rw [eA, List.dropLast_concat]; simp
  rw [eR]
  by_cases hd : (decide (last = []) && (isSideM L.length && (isSideM (len0 L) && allGood L 0 L))) = true
  · rw [if_pos hd]
    dsimp only
    rw [Bool.and_eq_true, Bool.and_eq_true, Bool.and_eq_true, decide_eq_true_eq] at hd
    obtain ⟨d1, d2, d3, d4⟩ := hd
    have h := Drawn.of d2 d3 d4
    obtain ⟨a, b, c, d, e, f⟩ := h.sizes
    cases L with
    | nil => simp at e
    | cons l0 rest =>
      have hl0 : (l0 :: rest)[0]? = some l0 := rfl
      have g0 := h.good 0 l0 hl0
      have ok : okAll (l0.length / 2) 1 rest = true := by
        rw [ok_all]
        intro i l hi
        have hi' : (l0 :: rest)[i + 1]? = some l := by simpa using hi
        have g := h.good (i + 1) l hi'
        have hlen := h.len hi'
        have hil := (List.getElem?_eq_some_iff.mp hi).1
        rw [List.length_cons] at e
        have ew : l0.length / 2 = wd (l0 :: rest) := rfl
        unfold goodLine at g
        unfold okL
        rw [Bool.and_eq_true] at g ⊢
        rw [ew]
        refine ⟨decide_eq_true hlen, ?_⟩
        have g2 := g.2
        by_cases p : (i + 1) % 2 = 1
        · rw [if_pos p] at g2
          rw [if_pos (by omega), ← hlen, g2, decide_eq_true (by omega : (1 + i) / 2 < 10)]; rfl
        · rw [if_neg p] at g2
          rw [if_neg (by omega)]
          by_cases b1 : i + 1 + 1 = (l0 :: rest).length
          · rw [decide_eq_true b1, Bool.or_true] at g2
            exact lvl_weak _ _ _ g2
          · rw [decide_eq_false b1, decide_eq_false (by omega : ¬ i + 1 = 0)] at g2
            rw [List.length_cons] at b1
            rw [decide_eq_false (by omega : ¬ 10 ≤ (1 + i) / 2)]
            exact g2
      have lv0 : lvl true 0 l0 = true := by
        unfold goodLine at g0
        rw [Bool.and_eq_true, if_neg (by decide)] at g0
        exact g0.2
      dsimp only at sc
      rw [if_pos ⟨d1, lv0, d3, ok⟩] at sc
      rw [sc]
      -- the lines behind the first, in pairs
      rw [List.length_cons] at e
      obtain ⟨ps, e1, e2⟩ := paired (hg (l0 :: rest)) rest (by omega)
      have hne : ps ≠ [] := fun z => by rw [z] at e2; simp at e2; omega
      obtain ⟨qs, p, e3⟩ : ∃ qs p, ps = qs ++ [p] := ⟨ps.dropLast, ps.getLast hne, (List.dropLast_concat_getLast hne).symm⟩
      obtain ⟨u, v⟩ := p
      have hqs : qs.length + 1 = hg (l0 :: rest) := by rw [← e2, e3]; simp
      -- each pair: a line of squares, a level one
      have pr : ∀ (i : Nat) (p : List Int × List Int), ps[i]? = some p → (l0 :: rest)[2 * i + 1]? = some p.1 ∧ (l0 :: rest)[2 * i + 2]? = some p.2 := fun i p hp => by
        obtain ⟨x1, x2⟩ := unpair_at ps i p hp
        rw [← e1] at x1 x2
        exact ⟨by simpa using x1, by simpa using x2⟩
      have ew : l0.length / 2 = wd (l0 :: rest) := rfl
      have ef := fold_last qs u v (wd (l0 :: rest))
      rw [← e3, ← e1] at ef
      rw [ew, ef]
      have huv : ps[qs.length]? = some (u, v) := by rw [e3, List.getElem?_append_right (Nat.le_refl _), Nat.sub_self]; rfl
      have lvv : lvl true 0 v = true := by
        have hv := (pr _ _ huv).2
        have g := h.good _ _ hv
        unfold goodLine at g
        rw [Bool.and_eq_true, if_neg (by omega)] at g
        have g2 := g.2
        rw [decide_eq_true (by rw [List.length_cons]; omega : 2 * qs.length + 2 + 1 = (l0 :: rest).length), Bool.or_true] at g2
        exact g2
      have eE : Scan.ends ⟨2 * qs.length + 3, 0, wd (l0 :: rest), lvl true 0 v, (ps.map fun p => upsF (2 * wd (l0 :: rest) + 1) 0 p.1).flatten, (qs.map fun p => curF 0 p.2).flatten, curF 0 v⟩ =
          some ⟨wd (l0 :: rest), hg (l0 :: rest), (ps.map fun p => upsF (2 * wd (l0 :: rest) + 1) 0 p.1).flatten ++ (qs.map fun p => curF 0 p.2).flatten⟩ := by
        unfold Scan.ends
        rw [if_pos ⟨rfl, by show (2 * qs.length + 3) % 2 = 1; omega, by show 3 ≤ 2 * qs.length + 3; omega, lvv⟩]
        have : (2 * qs.length + 3) / 2 = hg (l0 :: rest) := by omega
        dsimp only
        rw [this]
      refine ⟨_, eE, rfl, rfl, h.lies, ?_⟩
      -- the hedges
      have upl : ∀ l ∈ ps.map fun p => upsF (2 * wd (l0 :: rest) + 1) 0 p.1, l.length = wd (l0 :: rest) - 1 := fun l hl => by
        obtain ⟨p, hp, rfl⟩ := List.mem_map.mp hl
        obtain ⟨i, hi⟩ := List.getElem?_of_mem hp
        rw [ups_line (h.len (pr i p hi).1)]; simp
      have lvl' : ∀ l ∈ qs.map fun p => curF 0 p.2, l.length = wd (l0 :: rest) := fun l hl => by
        obtain ⟨p, hp, rfl⟩ := List.mem_map.mp hl
        have hp2 : p ∈ ps := by rw [e3]; exact List.mem_append_left _ hp
        obtain ⟨i, hi⟩ := List.getElem?_of_mem hp2
        rw [cur_at (wd (l0 :: rest)) 0 p.2 (h.len (pr i p hi).2) rfl]; simp
      have uplen := flat_len _ upl
      rw [List.length_map, e2] at uplen
      refine fits_of h rfl rfl (fun q x hq hx => ?_) fun q x hq hx => ?_
      · have hqp : q < ps.length := by omega
        have hp := List.getElem?_eq_getElem hqp
        have hm : (ps.map fun p => upsF (2 * wd (l0 :: rest) + 1) 0 p.1)[q]? = some (upsF (2 * wd (l0 :: rest) + 1) 0 ps[q].1) := by rw [List.getElem?_map, hp]; rfl
        have hf := flat_at _ upl q x _ hm hx
        obtain ⟨l1, l2⟩ := pr q _ hp
        rw [ups_line (h.len l1), List.getElem?_map, List.getElem?_range hx] at hf
        have hlt : q * (wd (l0 :: rest) - 1) + x < (ps.map fun p => upsF (2 * wd (l0 :: rest) + 1) 0 p.1).flatten.length := (List.getElem?_eq_some_iff.mp hf).1
        obtain ⟨l, c, c1, c2, c3, c4⟩ := h.at (y := 2 * q + 1) (x := 2 * x + 2) (by omega) (by omega)
        rw [l1] at c1
        obtain rfl := Option.some.inj c1
        show ((ps.map fun p => upsF (2 * wd (l0 :: rest) + 1) 0 p.1).flatten ++ (qs.map fun p => curF 0 p.2).flatten).getD (q * (wd (l0 :: rest) - 1) + x) true = _
        rw [List.getD_eq_getElem?_getD, List.getElem?_append_left hlt, hf, c3]
        show decide (ps[q].1.getD (2 * x + 2) 0 = 124) = _
        rw [getD_at c2]
      · have hqq : q < qs.length := by omega
        have hqp : q < ps.length := by omega
        have hp := List.getElem?_eq_getElem hqq
        have hpp : ps[q]? = some qs[q] := by rw [e3, List.getElem?_append_left hqq]; exact hp
        have hm : (qs.map fun p => curF 0 p.2)[q]? = some (curF 0 qs[q].2) := by rw [List.getElem?_map, hp]; rfl
        have hf := flat_at _ lvl' q x _ hm hx
        obtain ⟨l1, l2⟩ := pr q _ hpp
        rw [cur_at (wd (l0 :: rest)) 0 _ (h.len l2) rfl, List.getElem?_map, List.getElem?_range hx] at hf
        obtain ⟨l, c, c1, c2, c3, c4⟩ := h.at (y := 2 * q + 2) (x := 2 * x + 1) (by omega) (by omega)
        rw [l2] at c1
        obtain rfl := Option.some.inj c1
        show ((ps.map fun p => upsF (2 * wd (l0 :: rest) + 1) 0 p.1).flatten ++ (qs.map fun p => curF 0 p.2).flatten).getD ((wd (l0 :: rest) - 1) * hg (l0 :: rest) + (q * wd (l0 :: rest) + x)) true = _
        rw [List.getD_eq_getElem?_getD, List.getElem?_append_right (by rw [uplen, Nat.mul_comm]; exact Nat.le_add_right _ _), uplen, Nat.mul_comm (hg (l0 :: rest)), Nat.add_sub_cancel_left, hf, c3]
        show decide (qs[q].2.getD (2 * x + 1) 0 = 45) = _
        rw [getD_at c2]
  · rw [if_neg hd]
    dsimp only
    rw [sc]
    cases L with
    | nil => rfl
    | cons l0 rest =>
      dsimp only
      by_cases q : last = [] ∧ lvl true 0 l0 = true ∧ isSideM l0.length = true ∧ okAll (l0.length / 2) 1 rest = true
      · rw [if_pos q]
        obtain ⟨q1, q2, q3, q4⟩ := q
        obtain ⟨f1, f2, f3⟩ := fold_line rest (z1 (l0.length / 2)) rfl
        have f1' : (rest.foldl adv (z1 (l0.length / 2))).line = 1 + rest.length := f1
        unfold Scan.ends
        rw [if_neg]
        rintro ⟨_, b1, b2, b3⟩
        apply hd
        rw [f1'] at b1 b2
        have q4' := (ok_all rest 1).mp q4
        have hsn : l0.length % 2 = 1 ∧ 1 ≤ l0.length / 2 ∧ l0.length / 2 ≤ 10 := by simpa [isSideM] using q3
        have e0 : len0 (l0 :: rest) = l0.length := rfl
        have len : ∀ (i : Nat) (l : List Int), rest[i]? = some l → l.length = l0.length := fun i l hl => by
          have := q4' i l hl
          unfold okL at this
          rw [Bool.and_eq_true, decide_eq_true_eq] at this
          omega
        have hm : rest.length ≤ 20 := by
          apply Nat.le_of_not_lt
          intro z
          have := q4' 20 rest[20] (List.getElem?_eq_getElem z)
          unfold okL at this
          rw [Bool.and_eq_true, if_pos (by decide), decide_eq_false (by decide : ¬ (1 + 20) / 2 < 10)] at this
          exact absurd this.2 (by simp)
        have hS : isSideM (l0 :: rest).length = true := by
          simp [isSideM]; omega
        rw [q1, hS, e0, q3]
        have hg : allGood (l0 :: rest) 0 (l0 :: rest) = true := by
          rw [good_all]
          intro i l hi
          rw [Nat.zero_add]
          unfold goodLine
          rw [Bool.and_eq_true, e0]
          cases i with
          | zero =>
            obtain rfl : l0 = l := Option.some.inj hi
            refine ⟨by simp, ?_⟩
            rw [if_neg (by decide), decide_eq_true rfl, Bool.true_or]; exact q2
          | succ i =>
            have hi' : rest[i]? = some l := by simpa using hi
            have hil := (List.getElem?_eq_some_iff.mp hi').1
            have hlen := len i l hi'
            refine ⟨decide_eq_true hlen, ?_⟩
            have ok := q4' i l hi'
            unfold okL at ok
            rw [Bool.and_eq_true] at ok
            have ok2 := ok.2
            by_cases p : (i + 1) % 2 = 1
            · rw [if_pos (by omega), Bool.and_eq_true] at ok2
              rw [if_pos p, show l.length = 2 * (l0.length / 2) + 1 by omega]
              exact ok2.2
            · rw [if_neg (by omega)] at ok2
              rw [if_neg p, decide_eq_false (by omega : ¬ i + 1 = 0), Bool.false_or]
              by_cases b4 : i + 1 + 1 = (l0 :: rest).length
              · rw [decide_eq_true b4]
                -- the last line is full
                rw [List.length_cons] at b4
                have er : rest = rest.take i ++ [l] := by
                  have h1 : rest.take (i + 1) = rest.take i ++ [l] := by rw [List.take_add_one, hi']; rfl
                  rw [← h1, List.take_of_length_le (by omega)]
                rw [er, List.foldl_append] at b3
                obtain ⟨y1, _, _⟩ := fold_line (rest.take i) (z1 (l0.length / 2)) rfl
                have y1' : ((rest.take i).foldl adv (z1 (l0.length / 2))).line = 1 + i := by rw [y1, List.length_take]; show 1 + min i rest.length = 1 + i; omega
                have b5 : (adv ((rest.take i).foldl adv (z1 (l0.length / 2))) l).full = true := b3
                generalize (rest.take i).foldl adv (z1 (l0.length / 2)) = y at b5 y1'
                unfold adv at b5
                rw [if_neg (by rw [y1']; omega)] at b5
                dsimp only at b5
                rw [Bool.and_eq_true] at b5
                exact b5.2
              · rw [decide_eq_false b4]
                rw [List.length_cons] at b4
                rw [decide_eq_false (by omega : ¬ 10 ≤ (1 + i) / 2)] at ok2
                exact ok2
        rw [hg]; simp
      · rw [if_neg q]
end Tw

/-! What the program answers, as plain functions. -/
namespace Tw
def cI (l : List Nat) : List Int := l.map fun (n : Nat) => (n : Int)
def withGarden (t : List Int) (f : List (List Int) → List Int) : List Int := if 1024 < t.length then [-2] else match readM t with
  | none => [-6]
  | some L => f L
def gone (L : List (List Int)) (s n : Nat) : Wk := goM (hasP L) (wd L) n (initM s)
def aNext (t l : List Int) : List Int := withGarden t fun L => match l with
  | [] => [-9]
  | s :: _ => if ((wd L * hg L : Nat) : Int) ≤ s then [-9] else if cI (gone L s.toNat (l.length - 1)).squares = l then [0, (nextSide (hasP L) (wd L) (gone L s.toNat (l.length - 1)) : Int)] else [-9]
def aWalk (s : Int) (t : List Int) : List Int := withGarden t fun L => if ((wd L * hg L : Nat) : Int) ≤ s then [-4] else 0 :: cI (gone L s.toNat 1000).squares
def aAfter (s i : Int) (t : List Int) (f : Wk → List Int) : List Int := withGarden t fun L => if ((wd L * hg L : Nat) : Int) ≤ s then [-4] else
  if ((gone L s.toNat (min i 1000).toNat).squares.length : Int) - 1 < i then [-5] else f (gone L s.toNat (min i 1000).toNat)
def aAt (s i : Int) (t : List Int) : List Int := aAfter s i t fun W => [0, (W.here : Int), (W.thread.length : Int) - 1, (W.seen.length : Int)]
def aLies (s i : Int) (t : List Int) : List Int := aAfter s i t fun W => 0 :: cI W.thread
def aFinds (s u : Int) (t : List Int) : List Int := withGarden t fun L => if ((wd L * hg L : Nat) : Int) ≤ s then [-4] else if ((wd L * hg L : Nat) : Int) ≤ u then [-4] else match (gone L s.toNat 1000).seenAt u.toNat with
  | none => [-5]
  | some n => [0, (n : Int)]
end Tw

/-! What the program answers is what is due. -/
namespace Tw
open Maze

def toAns (a : Maze.Ans) : List Int := a.code :: a.nums.map fun (n : Nat) => (n : Int)
theorem read_two {t : List Int} (ht : ∀ x ∈ t, 0 ≤ x ∧ x ≤ 255) : (match readM t with
    | none => ∃ q, readDrawing (ThreadNeutral.text t) = .error q
    | some L => ∃ D, readDrawing (ThreadNeutral.text t) = .ok D ∧ D.wide = wd L ∧ D.high = hg L ∧ Fits D (hasP L)) := by
  have h1 := read_spec t
  have h2 := scan_eq t 0 scanBegun ht
  cases hr : readM t with
  | none =>
    rw [hr] at h1
    dsimp only at h1
    rw [h1] at h2
    exact h2
  | some L =>
    rw [hr] at h1
    obtain ⟨D, e, a, b, _, c⟩ := h1
    rw [e] at h2
    exact ⟨D, h2, a, b, c⟩
theorem read_gd {t : List Int} {L : List (List Int)} (h : readM t = some L) : Lies L ∧ ∀ s k, s < wd L * hg L → k < 4 → hasP L s k = true → ∃ u : Nat, u < wd L * hg L ∧ beside (wd L) s k = u := by
  have h1 := read_spec t
  rw [h] at h1
  obtain ⟨D, _, a, b, c, F⟩ := h1
  refine ⟨c, fun s k hs hk hp => ?_⟩
  have hq : D.squares = wd L * hg L := by unfold Garden.squares; rw [a, b]
  rw [F.hp s (by rw [hq]; exact hs) k hk, Option.isSome_iff_exists] at hp
  obtain ⟨u, hu⟩ := hp
  refine ⟨u, ?_, ?_⟩
  · rw [← hq]; exact (goes_back F.S (by rw [hq]; exact hs) hk hu).1
  · rw [← a]; exact goes_beside F.S hk hu
theorem with_eq {t : List Int} (ht : ∀ x ∈ t, 0 ≤ x ∧ x ≤ 255) {f : List (List Int) → List Int} {g : Garden → Maze.Ans}
    (h : ∀ L D, D.wide = wd L → D.high = hg L → Fits D (hasP L) → f L = toAns (g D)) : withGarden t f = toAns (ofGarden (ThreadNeutral.text t) g) := by
  unfold withGarden ofGarden
  have el : (ThreadNeutral.text t).length = t.length := by simp [ThreadNeutral.text]
  rw [el]
  by_cases c : 1024 < t.length
  · rw [if_pos c, if_pos (show LOOKED < t.length from c)]; rfl
  · rw [if_neg c, if_neg (show ¬ LOOKED < t.length from c)]
    have q := read_two ht
    cases hr : readM t with
    | none =>
      rw [hr] at q
      obtain ⟨p, e⟩ := q
      rw [e]; rfl
    | some L =>
      rw [hr] at q
      obtain ⟨D, e, a, b, F⟩ := q
      rw [e]
      exact h L D a b F
section
variable {L : List (List Int)} {D : Garden}
theorem sq_eq (a : D.wide = wd L) (b : D.high = hg L) : D.squares = wd L * hg L := by unfold Garden.squares; rw [a, b]
theorem sq_small (F : Fits D (hasP L)) : D.squares ≤ 100 := Nat.mul_le_mul F.S.w10 F.S.h10
theorem gone_eq (a : D.wide = wd L) (s n : Nat) : gone L s n = goM (hasP L) D.wide n (initM s) := by unfold gone; rw [a]
end
theorem aWalk_eq (s : Int) (t : List Int) (hs : 0 ≤ s) (ht : ∀ x ∈ t, 0 ≤ x ∧ x ≤ 255) : aWalk s t = PyWqbacp.walk s t := by
  show aWalk s t = toAns (MazeT.ofSquare (ThreadNeutral.text t) s.toNat fun D => tells (D.threadWalk s.toNat))
  unfold aWalk MazeT.ofSquare
  refine with_eq ht fun L D a b F => ?_
  have hq := sq_eq a b
  rw [← hq]
  by_cases c : (D.squares : Int) ≤ s
  · rw [if_pos c, if_pos (by omega)]; rfl
  · rw [if_neg c, if_neg (by omega), gone_eq a, after_all F (by omega) 1000 (by have := sq_small F; omega)]
    rfl
theorem aAfter_eq (s i : Int) (t : List Int) (hs : 0 ≤ s) (hi : 0 ≤ i) (ht : ∀ x ∈ t, 0 ≤ x ∧ x ≤ 255) (f : Wk → List Int) (g : Garden → Thread → Maze.Ans)
    (h : ∀ L D z W pre, D.wide = wd L → Fits D (hasP L) → Rel D (pre ++ [z]) z W → f W = toAns (g D z)) :
    aAfter s i t f = toAns (MazeT.ofSquare (ThreadNeutral.text t) s.toNat fun D => match D.threadAt s.toNat i.toNat with
      | none => says (-5)
      | some z => g D z) := by
  unfold aAfter MazeT.ofSquare
  refine with_eq ht fun L D a b F => ?_
  have hq := sq_eq a b
  rw [← hq]
  by_cases c : (D.squares : Int) ≤ s
  · rw [if_pos c, if_pos (by omega)]; rfl
  · have hs' : s.toNat < D.squares := by omega
    have hsm := sq_small F
    have hl := walk_len F hs'
    have el : (D.threadWalk s.toNat).length = (D.threads s.toNat).length := by unfold Garden.threadWalk; rw [List.length_map]
    rw [if_neg c, if_neg (c := D.squares ≤ s.toNat) (by omega), gone_eq a]
    have hsq : (goM (hasP L) D.wide (min i 1000).toNat (initM s.toNat)).squares.length = min ((min i 1000).toNat + 1) (D.threadWalk s.toNat).length := by
      rw [after_squares F hs', List.length_take]
    rw [hsq]
    cases hz : D.threadAt s.toNat i.toNat with
    | none =>
      have h1 : (D.threads s.toNat)[i.toNat]? = none := hz
      rw [List.getElem?_eq_none_iff] at h1
      rw [if_pos (by omega)]
      dsimp only
      rw [hz]; rfl
    | some z =>
      have h1 : (D.threads s.toNat)[i.toNat]? = some z := hz
      have h2 := (List.getElem?_eq_some_iff.mp h1).1
      have e1 : (min i 1000).toNat = i.toNat := by omega
      rw [if_neg (by omega), e1]
      obtain ⟨pre, _, R, _⟩ := after_at F hs' hz
      dsimp only
      rw [hz]
      exact h L D z _ pre a F R
theorem aAt_eq (s i : Int) (t : List Int) (hs : 0 ≤ s) (hi : 0 ≤ i) (ht : ∀ x ∈ t, 0 ≤ x ∧ x ≤ 255) : aAt s i t = PyWqbacp.at_ s i t := by
  refine aAfter_eq s i t hs hi ht _ (fun D z => tells [z.at_, (D.lying z).length - 1, z.seen.length]) fun L D z W pre a F R => ?_
  have e1 := R.here
  have e2 : W.thread.length = (D.lying z).length := by rw [R.thread]
  have e3 : W.seen.length = z.seen.length := by
    have := congrArg List.length R.seen1
    rw [List.length_map, List.length_reverse] at this
    exact this
  have e4 : 1 ≤ (D.lying z).length := by
    obtain ⟨l, e⟩ := lying_last (D := D) z
    rw [e]; simp
  show [0, (W.here : Int), (W.thread.length : Int) - 1, (W.seen.length : Int)] = [0, (z.at_ : Int), (((D.lying z).length - 1 : Nat) : Int), (z.seen.length : Int)]
  rw [e1, e2, e3]
  have e5 : ((D.lying z).length : Int) - 1 = (((D.lying z).length - 1 : Nat) : Int) := by omega
  rw [e5]
theorem aLies_eq (s i : Int) (t : List Int) (hs : 0 ≤ s) (hi : 0 ≤ i) (ht : ∀ x ∈ t, 0 ≤ x ∧ x ≤ 255) : aLies s i t = PyWqbacp.lies s i t := by
  refine aAfter_eq s i t hs hi ht _ (fun D z => tells (D.lying z)) fun L D z W pre a F R => ?_
  show 0 :: cI W.thread = 0 :: cI (D.lying z)
  rw [R.thread]
theorem aFinds_eq (s u : Int) (t : List Int) (hs : 0 ≤ s) (hu : 0 ≤ u) (ht : ∀ x ∈ t, 0 ≤ x ∧ x ≤ 255) : aFinds s u t = PyWqbacp.finds s u t := by
  show aFinds s u t = toAns (MazeT.ofSquare (ThreadNeutral.text t) s.toNat fun D => if D.squares ≤ u.toNat then says (-4) else match D.finds s.toNat u.toNat with
    | none => says (-5)
    | some n => tells [n])
  unfold aFinds MazeT.ofSquare
  refine with_eq ht fun L D a b F => ?_
  have hq := sq_eq a b
  rw [← hq]
  by_cases c : (D.squares : Int) ≤ s
  · rw [if_pos c, if_pos (by omega)]; rfl
  · rw [if_neg c, if_neg (c := D.squares ≤ s.toNat) (by omega)]
    dsimp only
    by_cases c2 : (D.squares : Int) ≤ u
    · rw [if_pos c2, if_pos (c := D.squares ≤ u.toNat) (by omega)]; rfl
    · have hs' : s.toNat < D.squares := by omega
      rw [if_neg c2, if_neg (c := D.squares ≤ u.toNat) (by omega), gone_eq a]
      obtain ⟨pre, z, e, R, T⟩ := after F hs' 1000
      rw [R.seen2, after_all F hs' 1000 (by have := sq_small F; omega)]
      show (match (D.threadWalk s.toNat).findIdx? (· == u.toNat) with
        | none => [-5]
        | some n => [0, (n : Int)]) = toAns (match (D.threadWalk s.toNat).findIdx? (fun x => x == u.toNat) with
        | none => says (-5)
        | some n => tells [n])
      cases (D.threadWalk s.toNat).findIdx? (fun x => x == u.toNat) with
      | none => rfl
      | some n => rfl
theorem cI_nats {l : List Int} (h : ∀ x ∈ l, 0 ≤ x) : cI (ThreadNeutral.nats l) = l := by
  induction l with
  | nil => rfl
  | cons x r ih =>
    show ((x.toNat : Nat) : Int) :: cI (ThreadNeutral.nats r) = x :: r
    rw [ih fun y hy => h y (List.mem_cons_of_mem _ hy), Int.toNat_of_nonneg (h x List.mem_cons_self)]
theorem cI_inj : ∀ {l m : List Nat}, cI l = cI m → l = m
  | [], [], _ => rfl
  | [], _ :: _, h => by cases h
  | _ :: _, [], h => by cases h
  | x :: l, y :: m, h => by
    have h' : (x : Int) :: cI l = (y : Int) :: cI m := h
    obtain ⟨h1, h2⟩ := List.cons.inj h'
    rw [cI_inj h2, Int.ofNat.inj h1]
theorem aNext_eq (t l : List Int) (ht : ∀ x ∈ t, 0 ≤ x ∧ x ≤ 255) (hl : ∀ x ∈ l, 0 ≤ x) : aNext t l = PyWqbacp.next_side t l := by
  show aNext t l = toAns (ofGarden (ThreadNeutral.text t) fun D => match MazeT.onward D (ThreadNeutral.nats l) with
    | none => says (-9)
    | some k => tells [k])
  unfold aNext
  refine with_eq ht fun L D a b F => ?_
  have hq := sq_eq a b
  cases l with
  | nil => rfl
  | cons s r =>
    dsimp only
    rw [← hq]
    have hs := hl s List.mem_cons_self
    have en : ThreadNeutral.nats (s :: r) = s.toNat :: ThreadNeutral.nats r := rfl
    have eL : (s.toNat :: ThreadNeutral.nats r).length = r.length + 1 := by simp [ThreadNeutral.nats]
    have eL2 : (s :: r).length - 1 = r.length := by simp
    rw [en, eL2]
    unfold MazeT.onward
    dsimp only
    rw [eL]
    by_cases c : (D.squares : Int) ≤ s
    · rw [if_pos c, if_pos (.inl (by omega))]; rfl
    · have hs' : s.toNat < D.squares := by omega
      have hc : ¬ D.squares ≤ s.toNat := by omega
      rw [if_neg c, gone_eq a]
      have esq := after_squares F hs' r.length
      have ecI := cI_nats hl
      rw [en] at ecI
      by_cases c2 : (D.threadWalk s.toNat).take (r.length + 1) = s.toNat :: ThreadNeutral.nats r
      · have e2 : cI (goM (hasP L) D.wide r.length (initM s.toNat)).squares = s :: r := by rw [esq, c2, ecI]
        rw [if_pos e2, if_neg (by rintro (z | z); exact hc z; exact z c2)]
        have h1 : r.length < (D.threads s.toNat).length := by
          have := congrArg List.length c2
          rw [eL, List.length_take] at this
          have e3 : (D.threadWalk s.toNat).length = (D.threads s.toNat).length := by unfold Garden.threadWalk; rw [List.length_map]
          omega
        have hz : D.threadAt s.toNat r.length = some (D.threads s.toNat)[r.length] := List.getElem?_eq_getElem h1
        rw [← a, after_next F hs' hz]
        rfl
      · have e2 : ¬ cI (goM (hasP L) D.wide r.length (initM s.toNat)).squares = s :: r := by
          intro z
          rw [esq, ← ecI] at z
          exact c2 (cI_inj z)
        rw [if_neg e2, if_pos (.inr c2)]; rfl
end Tw

namespace Tw
open PySem L2
/-- the i-th statement of the program -/
def topS (i : Nat) : Stmt := PySem.Challenge.pw_threadwalk_s02_at.main.body.getD i (.Pass ⟨0, 0, 0, 0⟩)
abbrev sGInit : Stmt := inClass (topS 10) 0
abbrev sMany : Stmt := inClass (topS 10) 1
abbrev sHas : Stmt := inClass (topS 10) 2
abbrev sBeside : Stmt := inClass (topS 10) 3
abbrev sLinesOf : Stmt := topS 11
abbrev sLevel : Stmt := topS 12
abbrev sUpright : Stmt := topS 13
abbrev sSide : Stmt := topS 14
abbrev sRead : Stmt := topS 15
abbrev sGardenOf : Stmt := topS 22
abbrev sAsk : Stmt := topS 23
abbrev sWInit : Stmt := inClass (topS 26) 0
abbrev sHere : Stmt := inClass (topS 26) 1
abbrev sWayBack : Stmt := inClass (topS 26) 2
abbrev sSideTo : Stmt := inClass (topS 26) 3
abbrev sNext : Stmt := inClass (topS 26) 4
abbrev sStep : Stmt := inClass (topS 26) 5
abbrev sWalked : Stmt := topS 27
abbrev sAfter : Stmt := topS 31
abbrev sAns : Stmt := topS 32
end Tw

/-! ### The garden: how it lies in the heap, its methods -/
namespace Tw
open PySem PySem.Spec PyProof.Rows L2
open PySem.W (Codec)
/-- a list of lists of whole numbers -/
def LnAt (H : Hp) (la : Addr) (L : List (List Int)) : Prop := ∃ as : List Addr, H la = some (.lst (as.map V.ref)) ∧ as.length = L.length ∧ ∀ (i : Nat) (b : Addr), as[i]? = some b → ∃ l, L[i]? = some l ∧ H b = some (.lst (vI l))
def gF (w h : Nat) (la : Addr) : List (Str × V) := [("wide", vN w), ("high", vN h), ("lines", .ref la)]
def GdAt (C : Addr) (H : Hp) (a : Addr) (L : List (List Int)) : Prop := ∃ dx la, H a = some (.ins C dx (gF (wd L) (hg L) la)) ∧ LnAt H la L
theorem LnAt.same {H H' : Hp} {la : Addr} {L : List (List Int)} (h : LnAt H la L) (e : Same H H') : LnAt H' la L := by
  obtain ⟨as, h1, h2, h3⟩ := h
  refine ⟨as, e _ _ h1, h2, fun i b hb => ?_⟩
  obtain ⟨l, h4, h5⟩ := h3 i b hb
  exact ⟨l, h4, e _ _ h5⟩
theorem GdAt.same {C : Addr} {H H' : Hp} {a : Addr} {L : List (List Int)} (h : GdAt C H a L) (e : Same H H') : GdAt C H' a L := by
  obtain ⟨dx, la, h1, h2⟩ := h
  exact ⟨dx, la, e _ _ h1, h2.same e⟩
theorem LnAt.line {H : Hp} {la : Addr} {L : List (List Int)} (h : LnAt H la L) {i : Nat} {l : List Int} (hl : L[i]? = some l) : ∃ (as : List Addr) (b : Addr), H la = some (.lst (as.map V.ref)) ∧ (as.map V.ref)[i]? = some (V.ref b) ∧ H b = some (.lst (vI l)) ∧ as.length = L.length := by
  obtain ⟨as, h1, h2, h3⟩ := h
  have hi : i < as.length := by rw [h2]; exact (List.getElem?_eq_some_iff.mp hl).1
  obtain ⟨l', h4, h5⟩ := h3 i as[i] (List.getElem?_eq_getElem hi)
  have e : l' = l := by rw [hl] at h4; exact (Option.some.inj h4).symm
  subst e
  exact ⟨as, as[i], h1, map_at (List.getElem?_eq_getElem hi), h5, h2⟩
/-- what the program's top has written of the class Garden and of the constants that its methods read -/
structure TxtG (K : PySem.W.Frag) (mg : Str → Option Value) (C : Addr) : Prop where
  cl : Cls K C
  nW : NoAttr K C "wide"
  nH : NoAttr K C "high"
  nL : NoAttr K C "lines"
  gC : mg "Garden" = some (.ref C)
  NEWLINE : Cn mg "NEWLINE" 10
  BLANK : Cn mg "BLANK" 32
  CORNER : Cn mg "CORNER" 43
  LEVEL : Cn mg "LEVEL" 45
  UPRIGHT : Cn mg "UPRIGHT" 124
  MOST : Cn mg "MOST" 10
  UPPER : Cn mg "UPPER" 0
  RIGHT : Cn mg "RIGHT" 1
  LOWER : Cn mg "LOWER" 2
  len : mg "len" = none
  range : mg "range" = none
section
variable {w h : Nat} {la : Addr}
theorem gF_wide : (gF w h la).lookup ("wide" : Str) = some (vN w) := lk_here
theorem gF_high : (gF w h la).lookup ("high" : Str) = some (vN h) := (lk_past (by decide +kernel)).trans lk_here
theorem gF_lines : (gF w h la).lookup ("lines" : Str) = some (.ref la) := (lk_past (by decide +kernel)).trans ((lk_past (by decide +kernel)).trans lk_here)
theorem gF_no {m : Str} (h1 : (m == ("wide" : Str)) = false) (h2 : (m == ("high" : Str)) = false) (h3 : (m == ("lines" : Str)) = false) : (gF w h la).lookup m = none := (lk_past h1).trans ((lk_past h2).trans ((lk_past h3).trans rfl))
theorem gF_new : putF "lines" (.ref la) (putF "high" (vN h) (putF "wide" (vN w) [])) = gF w h la := by
  show putF "lines" (.ref la) (putF "high" (vN h) [("wide", vN w)]) = _
  rw [put_past (by decide +kernel)]
  show putF "lines" (.ref la) [("wide", vN w), ("high", vN h)] = _
  rw [put_past (by decide +kernel), put_past (by decide +kernel)]
  rfl
end
/-! ### promises -/
def spGInit (C : Addr) : Sp := fun vs H Q _ => ∃ (p dx la : Addr) (L : List (List Int)), vs = [.ref p, .ref la] ∧ H p = some (.ins C dx []) ∧ LnAt H la L ∧ L ≠ [] ∧ la ≠ p ∧
  ∀ H' : Hp, H' p = some (.ins C dx (gF (wd L) (hg L) la)) → (∀ b o, H b = some o → b ≠ p → H' b = some o) → Q .non H'
def spMany (C : Addr) : Sp := fun vs H Q _ => ∃ (a : Addr) (L : List (List Int)), vs = [.ref a] ∧ GdAt C H a L ∧ wd L ≤ 1000 ∧ Q (vN (wd L * hg L)) H
def spHas (C : Addr) : Sp := fun vs H Q _ => ∃ (a : Addr) (L : List (List Int)) (s k : Nat), vs = [.ref a, vN s, vN k] ∧ GdAt C H a L ∧ Lies L ∧ s < wd L * hg L ∧ k < 4 ∧ Q (.bl (hasP L s k)) H
def spBeside (C : Addr) : Sp := fun vs H Q _ => ∃ (a : Addr) (L : List (List Int)) (s : Int) (k : Nat), vs = [.ref a, .int s, vN k] ∧ GdAt C H a L ∧ k < 4 ∧ Q (.int (beside (wd L) s k)) H
section
variable {P : Program} {w : World} {K : PySem.W.Frag} {mg : Str → Option Value} {base : Heap} {C : Addr}
theorem scGInit : FnScope ["self", "lines"] ["self", "lines"] (defScope sGInit) := ⟨rfl, rfl, rfl, by decide +kernel, rfl, by decide +kernel, by decide +kernel⟩
theorem half (n : Nat) : ((n : Int) / 2) = ((n / 2 : Nat) : Int) := by omega
theorem ok_ginit {f : Addr} {fd : FuncData} (F : Fun K "__init__" "Garden.__init__" sGInit f fd) (T : TxtG K mg C) : FnOk P w K mg base CX0 1 f fd ["self", "lines"] (spGInit C) := by
  refine F.ok scGInit (fun vs H Q E h => ?_) (fun cdv A outer s H vs Q E hr h => ?_)
  · obtain ⟨p, dx, la, L, rfl, _⟩ := h
    rfl
  · refine ⟨_, pss_cons (ps_fld (pv 0) (pe_op op_fdiv (pe_callB call_len_seq (by rfl) T.len PySem.boot_len (pa_cons (pe_ix ix_list (pv 1) pe_int (fun _ _ => rfl)) pa_nil)) pe_int) rfl)
      (pss_cons (ps_fld (pv 0) (pe_op op_fdiv (pe_callB call_len_seq (by rfl) T.len PySem.boot_len (pa_cons (pv 1) pa_nil)) pe_int) rfl)
      (pss_one (ps_fld (pv 0) (pv 1) rfl))), ?_⟩
    obtain ⟨p, dx, la, L, rfl, hp, hL, hne, hlp, k⟩ := h
    obtain ⟨l, r, rfl⟩ : ∃ l r, L = l :: r := by
      cases L with
      | nil => exact absurd rfl hne
      | cons l r => exact ⟨l, r, rfl⟩
    obtain ⟨as, b, h1, h2, h3, h4⟩ := hL.line (i := 0) (l := l) rfl
    refine st_seq (st_fld (val_div (val_len (val_ix (n := 0) (val_var rfl) val_c (SqL.of h1) rfl h2) (SqL.of h3)) val_c (by decide)) (val_var rfl) hp T.cl T.nW (by show 0 < 1000; decide) ?_)
    have n1 : la ≠ p := hlp
    refine st_seq (st_fld (val_div (val_len (xs := as.map V.ref) (val_var rfl) (SqL.of (by rw [upd_ne n1]; exact h1))) val_c (by decide)) (val_var rfl) upd_same T.cl T.nH (by show 1 < 1000; decide) ?_)
    refine st_fld (val_var rfl) (val_var rfl) upd_same T.cl T.nL (by show 2 < 1000; decide) ?_
    refine k _ ?_ fun b o e hb => by rw [upd_ne hb, upd_ne hb, upd_ne hb]; exact e
    rw [upd_same]
    have e1 : (V.int (((vI l).length : Int) / 2)) = vN (wd (l :: r)) := by
      rw [half, List.length_map]; rfl
    have e2 : (V.int (((as.map V.ref).length : Int) / 2)) = vN (hg (l :: r)) := by
      rw [half, List.length_map, h4]; rfl
    rw [e1, e2, gF_new]
theorem scMany : FnScope ["self"] ["self"] (defScope sMany) := ⟨rfl, rfl, rfl, by decide +kernel, rfl, by decide +kernel, by decide +kernel⟩
theorem ok_many {f : Addr} {fd : FuncData} (F : Fun K "many" "Garden.many" sMany f fd) (T : TxtG K mg C) : FnOk P w K mg base CX0 1 f fd ["self"] (spMany C) := by
  refine F.ok scMany (fun vs H Q E h => ?_) (fun cdv A outer s H vs Q E hr h => ?_)
  · obtain ⟨a, L, rfl, _⟩ := h
    rfl
  · refine ⟨_, pss_one (ps_ret (pe_op op_mul (pe_fld (pv 0) rfl) (pe_fld (pv 0) rfl))), ?_⟩
    obtain ⟨a, L, rfl, ⟨dx, la, ha, hl⟩, hw, q⟩ := h
    refine st_ret (val_mul (val_fld (val_var rfl) ha T.cl T.nW gF_wide) (val_fld (val_var rfl) ha T.cl T.nH gF_high) (by omega)) ?_
    have e : ((wd L : Int) * (hg L : Int)) = ((wd L * hg L : Nat) : Int) := by simp
    rw [e]; exact q
theorem scHas : FnScope ["self", "square", "side", "x", "y"] ["self", "square", "side"] (defScope sHas) := ⟨rfl, rfl, rfl, by decide +kernel, rfl, by decide +kernel, by decide +kernel⟩
theorem ok_has {f : Addr} {fd : FuncData} (F : Fun K "has_passage" "Garden.has_passage" sHas f fd) (T : TxtG K mg C) : FnOk P w K mg base CX0 1 f fd ["self", "square", "side"] (spHas C) := by
  refine F.ok scHas (fun vs H Q E h => ?_) (fun cdv A outer s H vs Q E hr h => ?_)
  · obtain ⟨a, L, s, k, rfl, _⟩ := h
    rfl
  · refine ⟨_, pss_cons (ps_set (i := 3) scHas.nd rfl (Or.inl rfl) (pe_op op_add (pe_op op_mul pe_int (pe_op op_mod (pv 1) (pe_fld (pv 0) rfl))) pe_int))
      (pss_cons (ps_set (i := 4) scHas.nd rfl (Or.inl rfl) (pe_op op_add (pe_op op_mul pe_int (pe_op op_fdiv (pv 1) (pe_fld (pv 0) rfl))) pe_int))
      (pss_cons (ps_if (pt_cmpR op_eq (pv 2) (pe_cn T.UPPER) (nomark _)) (pss_one (ps_aug (i := 4) scHas.nd rfl (Or.inl rfl) pe_int ip_sub))
        (pss_one (ps_if (pt_cmpR op_eq (pv 2) (pe_cn T.RIGHT) (nomark _)) (pss_one (ps_aug (i := 3) scHas.nd rfl (Or.inl rfl) pe_int ip_add))
        (pss_one (ps_if (pt_cmpR op_eq (pv 2) (pe_cn T.LOWER) (nomark _)) (pss_one (ps_aug (i := 4) scHas.nd rfl (Or.inl rfl) pe_int ip_add))
        (pss_one (ps_aug (i := 3) scHas.nd rfl (Or.inl rfl) pe_int ip_sub)))))))
      (pss_one (ps_ret (pe_cmpR op_eq (pe_ix ix_list (pe_ix ix_list (pe_fld (pv 0) rfl) (pv 4) (fun _ _ => rfl)) (pv 3) (fun _ _ => rfl)) (pe_cn T.BLANK) (nomark _)))))), ?_⟩
    obtain ⟨a, L, s, k, rfl, ⟨dx, la, ha, hl⟩, ⟨w1, w2, h2, len, all⟩, hs, hk, q⟩ := h
    have hr1 : s % wd L < wd L := Nat.mod_lt _ (by omega)
    have hq1 : s / wd L < hg L := Nat.div_lt_of_lt_mul hs
    -- what is read at (y, x)
    have rd : ∀ (x y : Nat) (σ : L2.St), y ≤ 2 * hg L → x ≤ 2 * wd L → σ[0]? = some (some (V.ref a)) → σ[3]? = some (some (.int x)) → σ[4]? = some (some (.int y)) →
        Val (tOp (rIxL K) (tOp (rIxL K) (tFld K (tVar 0) "lines") (tVar 4)) (tVar 3)) σ H (.int (cell L y x)) := by
      intro x y σ hy hx h0 h3 h4
      have hyL : y < L.length := by omega
      obtain ⟨as, b, e1, e2, e3, e4⟩ := hl.line (i := y) (l := L[y]) (List.getElem?_eq_getElem hyL)
      have hlen : L[y].length = 2 * wd L + 1 := all _ (List.getElem_mem hyL)
      have hxl : x < L[y].length := by omega
      have ec : cell L y x = L[y][x] := by simp [cell, List.getD_eq_getElem?_getD, hyL, hxl]
      rw [ec]
      exact val_ix (val_ix (val_fld (val_var h0) ha T.cl T.nL gF_lines) (val_var h4) (SqL.of e1) rfl e2) (val_var h3) (SqL.of e3) rfl (map_at (List.getElem?_eq_getElem hxl))
    have sw : (0 : Int) < (wd L : Int) ∧ (wd L : Int) < 1000000 := by omega
    refine st_seq (st_set (v := .int ((2 * (s % wd L) + 1 : Nat) : Int)) ?_ ?_)
    · have e : ((2 * (s % wd L) + 1 : Nat) : Int) = 2 * ((s : Int) % (wd L : Int)) + 1 := by simp
      rw [e]
      exact val_add (val_mul val_c (val_mod (val_var rfl) (val_fld (val_var rfl) ha T.cl T.nW gF_wide) sw.1) (by decide)) val_c
    dsimp only
    refine st_seq (st_set (v := .int ((2 * (s / wd L) + 1 : Nat) : Int)) ?_ ?_)
    · have e : ((2 * (s / wd L) + 1 : Nat) : Int) = 2 * ((s : Int) / (wd L : Int)) + 1 := by simp
      rw [e]
      exact val_add (val_mul val_c (val_div (val_var rfl) (val_fld (val_var rfl) ha T.cl T.nW gF_wide) sw) (by decide)) val_c
    have done : ∀ (x y : Nat), y ≤ 2 * hg L → x ≤ 2 * wd L → decide (cell L y x = 32) = hasP L s k →
        tRet (tOp rEq (tOp (rIxL K) (tOp (rIxL K) (tFld K (tVar 0) "lines") (tVar 4)) (tVar 3)) (tC (.int 32))) { nx := fun _ H' => Q .non H', rt := Q } [some (V.ref a), some (vN s), some (vN k), some (.int x), some (.int y)] H := by
      intro x y hy hx e
      refine st_ret (val_eq (rd x y _ hy hx rfl rfl rfl) val_c) ?_
      rw [e]; exact q
    dsimp only
    refine st_seq (st_ifs (val_test (val_eq (val_var rfl) val_c)) (fun c => ?_) fun c => st_ifs (val_test (val_eq (val_var rfl) val_c)) (fun c1 => ?_) fun c1 => st_ifs (val_test (val_eq (val_var rfl) val_c)) (fun c2 => ?_) fun c2 => ?_)
    · have ek : k = 0 := by have := of_decide_eq_true c; omega
      subst ek
      refine st_aug' rfl val_c ?_
      have e : (((2 * (s / wd L) + 1 : Nat) : Int) - 1) = ((2 * (s / wd L) : Nat) : Int) := by omega
      rw [e]
      exact done _ _ (by omega) (by omega) (by simp [hasP])
    · have ek : k = 1 := by have := of_decide_eq_true c1; omega
      subst ek
      refine st_aug' rfl val_c ?_
      have e : (((2 * (s % wd L) + 1 : Nat) : Int) + 1) = ((2 * (s % wd L) + 2 : Nat) : Int) := by omega
      rw [e]
      exact done _ _ (by omega) (by omega) (by simp [hasP])
    · have ek : k = 2 := by have := of_decide_eq_true c2; omega
      subst ek
      refine st_aug' rfl val_c ?_
      have e : (((2 * (s / wd L) + 1 : Nat) : Int) + 1) = ((2 * (s / wd L) + 2 : Nat) : Int) := by omega
      rw [e]
      exact done _ _ (by omega) (by omega) (by simp [hasP])
    · have ek : k = 3 := by
        have := of_decide_eq_false c; have := of_decide_eq_false c1; have := of_decide_eq_false c2; omega
      subst ek
      refine st_aug' rfl val_c ?_
      have e : (((2 * (s % wd L) + 1 : Nat) : Int) - 1) = ((2 * (s % wd L) : Nat) : Int) := by omega
      rw [e]
      exact done _ _ (by omega) (by omega) (by simp [hasP])
theorem scBeside : FnScope ["self", "square", "side"] ["self", "square", "side"] (defScope sBeside) := ⟨rfl, rfl, rfl, by decide +kernel, rfl, by decide +kernel, by decide +kernel⟩
theorem ok_beside {f : Addr} {fd : FuncData} (F : Fun K "beside" "Garden.beside" sBeside f fd) (T : TxtG K mg C) : FnOk P w K mg base CX0 1 f fd ["self", "square", "side"] (spBeside C) := by
  refine F.ok scBeside (fun vs H Q E h => ?_) (fun cdv A outer s H vs Q E hr h => ?_)
  · obtain ⟨a, L, s, k, rfl, _⟩ := h
    rfl
  · refine ⟨_, pss_cons (ps_if (pt_cmpR op_eq (pv 2) (pe_cn T.UPPER) (nomark _)) (pss_one (ps_ret (pe_op op_sub (pv 1) (pe_fld (pv 0) rfl)))) pss_nil)
      (pss_cons (ps_if (pt_cmpR op_eq (pv 2) (pe_cn T.RIGHT) (nomark _)) (pss_one (ps_ret (pe_op op_add (pv 1) pe_int))) pss_nil)
      (pss_cons (ps_if (pt_cmpR op_eq (pv 2) (pe_cn T.LOWER) (nomark _)) (pss_one (ps_ret (pe_op op_add (pv 1) (pe_fld (pv 0) rfl)))) pss_nil)
      (pss_one (ps_ret (pe_op op_sub (pv 1) pe_int))))), ?_⟩
    obtain ⟨a, L, s, k, rfl, ⟨dx, la, ha, hl⟩, hk, q⟩ := h
    have hw := val_fld (σ := start ["self", "square", "side"] [V.ref a, .int s, vN k]) (ta := tVar 0) (val_var rfl) ha T.cl T.nW gF_wide
    refine st_seq (st_ifs (val_test (val_eq (val_var rfl) val_c)) (fun c => ?_) fun c => st_next (st_seq (st_ifs (val_test (val_eq (val_var rfl) val_c)) (fun c1 => ?_) fun c1 => st_next (st_seq (st_ifs (val_test (val_eq (val_var rfl) val_c)) (fun c2 => ?_) fun c2 => st_next ?_)))))
    · have ek : k = 0 := by have := of_decide_eq_true c; omega
      subst ek
      exact st_ret (val_sub (val_var rfl) hw) q
    · have ek : k = 1 := by have := of_decide_eq_true c1; omega
      subst ek
      exact st_ret (val_add (val_var rfl) val_c) q
    · have ek : k = 2 := by have := of_decide_eq_true c2; omega
      subst ek
      exact st_ret (val_add (val_var rfl) hw) q
    · have ek : k = 3 := by
        have := of_decide_eq_false c; have := of_decide_eq_false c1; have := of_decide_eq_false c2; omega
      subst ek
      exact st_ret (val_sub (val_var rfl) val_c) q
end
end Tw

/-! ### Lines: a level one, one of squares; reading a drawing -/
namespace Tw
open PySem PySem.Spec PyProof.Rows L2
open PySem.W (Codec)
/-! lists of whole numbers compared -/
theorem dp_ints {K : PySem.W.Frag} {H : Hp} : ∀ l : List Int, DpAll K H (vI l) (l.map PyData.int)
  | [] => .nil
  | i :: r => .cons (.int i) (dp_ints r)
theorem dp_list {K : PySem.W.Frag} {H : Hp} {a : Addr} {l : List Int} (h : SqL K H a (vI l)) : Dp K H (.ref a) (.list (l.map PyData.int)) := .lst h (dp_ints l)
theorem lay_ints : ∀ l : List Int, PyData.canLayAll0 (l.map PyData.int) = true
  | [] => rfl
  | i :: r => by
    show (PyData.canLay0 (.int i) && PyData.canLayAll0 (r.map PyData.int)) = true
    rw [lay_ints r]; rfl
theorem dep_ints : ∀ l : List Int, PyData.depthAll (l.map PyData.int) = 0
  | [] => rfl
  | i :: r => by
    show max (PyData.depth (.int i)) (PyData.depthAll (r.map PyData.int)) = 0
    rw [dep_ints r]; rfl
theorem shaped_ints (l : List Int) : SeqAt.shaped (.list (l.map PyData.int)) = true := by
  show (PyData.canLayAll0 (l.map PyData.int) && decide (PyData.depthAll (l.map PyData.int) + 1 ≤ 64)) = true
  rw [lay_ints, dep_ints]; rfl
theorem eqv_all : ∀ l m : List Int, PyData.eqvAll (l.map PyData.int) (m.map PyData.int) = decide (l = m)
  | [], [] => by simp [PyData.eqvAll]
  | [], _ :: _ => by simp [PyData.eqvAll]
  | _ :: _, [] => by simp [PyData.eqvAll]
  | i :: l, j :: m => by
    show (PyData.eqv (.int i) (.int j) && PyData.eqvAll (l.map PyData.int) (m.map PyData.int)) = _
    rw [eqv_all l m]
    have e : PyData.eqv (.int i) (.int j) = decide (i = j) := by
      show (i == j) = _
      by_cases h : i = j <;> simp [h]
    rw [e]
    by_cases h1 : i = j <;> by_cases h2 : l = m <;> simp [h1, h2]
theorem eqv_ints (l m : List Int) : PyData.eqv (.list (l.map PyData.int)) (.list (m.map PyData.int)) = decide (l = m) := eqv_all l m
/-! ### promises -/
def spLevel (K : PySem.W.Frag) : Sp := fun vs H Q _ => ∃ (a : Addr) (l : List Int) (b : Bool), vs = [.ref a, .bl b] ∧ SqL K H a (vI l) ∧ l.length ≤ 100000 ∧ Q (.bl (lvl b 0 l)) H
def spUpright (K : PySem.W.Frag) : Sp := fun vs H Q _ => ∃ (a : Addr) (l : List Int), vs = [.ref a] ∧ SqL K H a (vI l) ∧ l.length ≤ 100000 ∧ Q (.bl (upr l.length 0 l)) H
def spSide : Sp := fun vs H Q _ => ∃ n : Nat, vs = [vN n] ∧ Q (.bl (isSideM n)) H
theorem lvl_turn {b : Bool} {l : List Int} {i : Nat} {c : Int} (h : l[i]? = some c) : lvl b i (l.drop i) = ((if i % 2 = 0 then decide (c = 43) else (decide (c = 45) || (!b && decide (c = 32)))) && lvl b (i + 1) (l.drop (i + 1))) := by
  obtain ⟨hi, e⟩ := List.getElem?_eq_some_iff.mp h
  rw [List.drop_eq_getElem_cons hi, e]
  rfl
theorem upr_turn {n : Nat} {l : List Int} {i : Nat} {c : Int} (h : l[i]? = some c) : upr n i (l.drop i) =
    ((if i % 2 = 1 then decide (c = 32) else (decide (c = 124) || (!(decide (i = 0) || decide (i + 1 = n)) && decide (c = 32)))) && upr n (i + 1) (l.drop (i + 1))) := by
  obtain ⟨hi, e⟩ := List.getElem?_eq_some_iff.mp h
  rw [List.drop_eq_getElem_cons hi, e]
  rfl
section
variable {P : Program} {w : World} {K : PySem.W.Frag} {mg : Str → Option Value} {base : Heap} {C : Addr}
theorem scLevel : FnScope ["line", "is_border", "x"] ["line", "is_border"] (defScope sLevel) := ⟨rfl, rfl, rfl, by decide +kernel, rfl, by decide +kernel, by decide +kernel⟩
theorem ok_level {f : Addr} {fd : FuncData} (F : Fun K "is_level_line" "is_level_line" sLevel f fd) (T : TxtG K mg C) : FnOk P w K mg base CX0 1 f fd ["line", "is_border"] (spLevel K) := by
  refine F.ok scLevel (fun vs H Q E h => ?_) (fun cdv A outer s H vs Q E hr h => ?_)
  · obtain ⟨a, l, b, rfl, _⟩ := h
    rfl
  · refine ⟨_, pss_cons (ps_for PassesOwn.never rfl (pi_range1 rfl T.range (pa_cons (pe_callB call_len_seq (by rfl) T.len PySem.boot_len (pa_cons (pv 0) pa_nil)) pa_nil)) (pg_name (i := 2) scLevel.nd rfl (Or.inl rfl))
      (pss_cons (ps_if (PW.pt (pw_and (pt_cmpR op_eq (pe_op op_mod (pv 2) pe_int) pe_int (nomark _)) (pw_and1 (pt_cmpR op_ne (pe_ix ix_list (pv 0) (pv 2) (fun _ _ => rfl)) (pe_cn T.CORNER) (nomark _))))) (pss_one (ps_ret pe_bl)) pss_nil)
      (pss_one (ps_if (PW.pt (pw_and (pt_cmpR op_eq (pe_op op_mod (pv 2) pe_int) pe_int (nomark _)) (pw_and (pt_cmpR op_ne (pe_ix ix_list (pv 0) (pv 2) (fun _ _ => rfl)) (pe_cn T.LEVEL) (nomark _))
        (pw_and1 (PW.pt (pw_or (pt_val (pv 1)) (pw_or1 (pt_cmpR op_ne (pe_ix ix_list (pv 0) (pv 2) (fun _ _ => rfl)) (pe_cn T.BLANK) (nomark _))))))))) (pss_one (ps_ret pe_bl)) pss_nil)))) (pss_one (ps_ret pe_bl)), ?_⟩
    obtain ⟨a, l, b, rfl, hl, hz, q⟩ := h
    have vl : Val (tCB (fun xs H Q => ∃ p ys, xs = [.ref p] ∧ (SqL K H p ys ∨ SqT K H p ys) ∧ Q (.int ys.length) H) (tCons (tVar 0) tNil)) (start ["line", "is_border", "x"] [V.ref a, .bl b]) H (.int (l.length : Int)) := by
      have q := val_len (K := K) (σ := start ["line", "is_border", "x"] [V.ref a, .bl b]) (ta := tVar 0) (val_var rfl) hl
      rw [List.length_map] at q
      exact q
    refine st_seq (st_rng vl (by omega) (fun i σ H' => H' = H ∧ (∃ v, σ = [some (.ref a), some (.bl b), v]) ∧ lvl b 0 l = lvl b i (l.drop i)) ⟨rfl, ⟨none, rfl⟩, rfl⟩ ?_ ?_)
    · rintro i σ H' hi ⟨rfl, ⟨v, rfl⟩, inv⟩
      have hil : i < l.length := hi
      have hc := List.getElem?_eq_getElem hil
      have inv2 := lvl_turn (b := b) hc
      have vx : Val (tVar 2) [some (V.ref a), some (.bl b), some (.int (i : Int))] H' (.int (i : Int)) := val_var rfl
      have vc : Val (tOp (rIxL K) (tVar 0) (tVar 2)) [some (V.ref a), some (.bl b), some (.int (i : Int))] H' (.int l[i]) := val_ix (val_var rfl) vx hl rfl (map_at hc)
      refine st_seq (st_ifs (ans_and2 (val_test (val_eq (val_mod vx val_c (by decide)) val_c)) (val_test (val_ne vc val_c))) (fun c => ?_) fun c => ?_)
      · simp only [Bool.and_eq_true, decide_eq_true_eq, Bool.not_eq_true', decide_eq_false_iff_not] at c
        refine st_ret val_c ?_
        have e : lvl b 0 l = false := by
          rw [inv, inv2, if_pos (by omega), decide_eq_false c.2]; rfl
        rw [← e]; exact q
      · refine st_next (st_ifs (ans_and2 (val_test (val_eq (val_mod vx val_c (by decide)) val_c)) (ans_and2 (val_test (val_ne vc val_c)) (ans_or2 (ans_B (val_var rfl)) (val_test (val_ne vc val_c))))) (fun c2 => ?_) fun c2 => ?_)
        · simp only [Bool.and_eq_true, Bool.or_eq_true, decide_eq_true_eq, Bool.not_eq_true', decide_eq_false_iff_not] at c2
          refine st_ret val_c ?_
          have e : lvl b 0 l = false := by
            rw [inv, inv2, if_neg (by omega), decide_eq_false c2.2.1]
            rcases c2.2.2 with h | h
            · rw [h]; rfl
            · rw [decide_eq_false h]; simp
          rw [← e]; exact q
        · refine st_next ⟨rfl, ⟨_, rfl⟩, ?_⟩
          rw [inv, inv2]
          have hd : (if i % 2 = 0 then decide (l[i] = 43) else (decide (l[i] = 45) || (!b && decide (l[i] = 32)))) = true := by
            by_cases h0 : i % 2 = 0
            · rw [if_pos h0]
              by_cases h43 : l[i] = 43
              · exact decide_eq_true h43
              · exfalso
                rw [decide_eq_true (by omega : (i : Int) % 2 = 0), decide_eq_false h43] at c
                exact absurd c (by decide)
            · rw [if_neg h0]
              by_cases h45 : l[i] = 45
              · rw [decide_eq_true h45]; rfl
              · rw [decide_eq_true (by omega : (i : Int) % 2 = 1), decide_eq_false h45] at c2
                by_cases h32 : l[i] = 32
                · rw [decide_eq_true h32] at c2 ⊢
                  cases b with
                  | true => exact absurd c2 (by decide)
                  | false => simp
                · rw [decide_eq_false h32] at c2
                  simp at c2
          rw [hd]; rfl
    · rintro σ H' ⟨rfl, ⟨v, rfl⟩, inv⟩
      dsimp only
      refine st_ret val_c ?_
      have e : l.drop l.length = [] := List.drop_length
      rw [e] at inv
      have e2 : lvl b 0 l = true := by rw [inv]; rfl
      rw [← e2]; exact q
theorem scUpright : FnScope ["line", "x", "is_border"] ["line"] (defScope sUpright) := ⟨rfl, rfl, rfl, by decide +kernel, rfl, by decide +kernel, by decide +kernel⟩
theorem ok_upright {f : Addr} {fd : FuncData} (F : Fun K "is_upright_line" "is_upright_line" sUpright f fd) (T : TxtG K mg C) : FnOk P w K mg base CX0 1 f fd ["line"] (spUpright K) := by
  refine F.ok scUpright (fun vs H Q E h => ?_) (fun cdv A outer s H vs Q E hr h => ?_)
  · obtain ⟨a, l, rfl, _⟩ := h
    rfl
  · refine ⟨_, pss_cons (ps_for PassesOwn.never rfl (pi_range1 rfl T.range (pa_cons (pe_callB call_len_seq (by rfl) T.len PySem.boot_len (pa_cons (pv 0) pa_nil)) pa_nil)) (pg_name (i := 1) scUpright.nd rfl (Or.inl rfl))
      (pss_cons (ps_if (PW.pt (pw_and (pt_cmpR op_eq (pe_op op_mod (pv 1) pe_int) pe_int (nomark _)) (pw_and1 (pt_cmpR op_ne (pe_ix ix_list (pv 0) (pv 1) (fun _ _ => rfl)) (pe_cn T.BLANK) (nomark _))))) (pss_one (ps_ret pe_bl)) pss_nil)
      (pss_cons (ps_set (i := 2) scUpright.nd rfl (Or.inl rfl) (pe_or (pe_cmpR op_eq (pv 1) pe_int (nomark _)) (pe_one (pe_cmpR op_eq (pv 1) (pe_op op_sub (pe_callB call_len_seq (by rfl) T.len PySem.boot_len (pa_cons (pv 0) pa_nil)) pe_int) (nomark _)))))
      (pss_one (ps_if (PW.pt (pw_and (pt_cmpR op_eq (pe_op op_mod (pv 1) pe_int) pe_int (nomark _)) (pw_and (pt_cmpR op_ne (pe_ix ix_list (pv 0) (pv 1) (fun _ _ => rfl)) (pe_cn T.UPRIGHT) (nomark _))
        (pw_and1 (PW.pt (pw_or (pt_val (pv 2)) (pw_or1 (pt_cmpR op_ne (pe_ix ix_list (pv 0) (pv 1) (fun _ _ => rfl)) (pe_cn T.BLANK) (nomark _))))))))) (pss_one (ps_ret pe_bl)) pss_nil))))) (pss_one (ps_ret pe_bl)), ?_⟩
    obtain ⟨a, l, rfl, hl, hz, q⟩ := h
    have vl : Val (tCB (fun xs H Q => ∃ p ys, xs = [.ref p] ∧ (SqL K H p ys ∨ SqT K H p ys) ∧ Q (.int ys.length) H) (tCons (tVar 0) tNil)) (start ["line", "x", "is_border"] [V.ref a]) H (.int (l.length : Int)) := by
      have q := val_len (K := K) (σ := start ["line", "x", "is_border"] [V.ref a]) (ta := tVar 0) (val_var rfl) hl
      rw [List.length_map] at q
      exact q
    refine st_seq (st_rng vl (by omega) (fun i σ H' => H' = H ∧ (∃ v u, σ = [some (.ref a), v, u]) ∧ upr l.length 0 l = upr l.length i (l.drop i)) ⟨rfl, ⟨none, none, rfl⟩, rfl⟩ ?_ ?_)
    · rintro i σ H' hi ⟨rfl, ⟨v, u, rfl⟩, inv⟩
      have hil : i < l.length := hi
      have hc := List.getElem?_eq_getElem hil
      have inv2 := upr_turn (n := l.length) hc
      have vx : ∀ u : Option V, Val (tVar 1) [some (V.ref a), some (.int (i : Int)), u] H' (.int (i : Int)) := fun u => val_var rfl
      have vc : ∀ u : Option V, Val (tOp (rIxL K) (tVar 0) (tVar 1)) [some (V.ref a), some (.int (i : Int)), u] H' (.int l[i]) := fun u => val_ix (val_var rfl) (vx u) hl rfl (map_at hc)
      refine st_seq (st_ifs (ans_and2 (val_test (val_eq (val_mod (vx u) val_c (by decide)) val_c)) (val_test (val_ne (vc u) val_c))) (fun c => ?_) fun c => ?_)
      · simp only [Bool.and_eq_true, decide_eq_true_eq, Bool.not_eq_true', decide_eq_false_iff_not] at c
        refine st_ret val_c ?_
        have e : upr l.length 0 l = false := by
          rw [inv, inv2, if_pos (by omega), decide_eq_false c.2]; rfl
        rw [← e]; exact q
      · refine st_next (st_seq (st_set (val_or (val_eq (vx u) val_c) (val_eq (vx u) (val_sub (val_len (val_var rfl) hl) val_c))) ?_))
        have ebd : (decide ((i : Int) = 0) || decide ((i : Int) = ((vI l).length : Int) - 1)) = (decide (i = 0) || decide (i + 1 = l.length)) := by
          rw [List.length_map]
          have e1 : ((i : Int) = 0) ↔ (i = 0) := by omega
          have e2 : ((i : Int) = (l.length : Int) - 1) ↔ (i + 1 = l.length) := by omega
          rw [decide_eq_decide.mpr e1, decide_eq_decide.mpr e2]
        rw [ebd]
        dsimp only
        refine st_ifs (ans_and2 (val_test (val_eq (val_mod (vx _) val_c (by decide)) val_c)) (ans_and2 (val_test (val_ne (vc _) val_c)) (ans_or2 (ans_B (val_var rfl)) (val_test (val_ne (vc _) val_c))))) (fun c2 => ?_) fun c2 => ?_
        · rw [Bool.and_eq_true, Bool.and_eq_true, Bool.or_eq_true, Bool.not_eq_true', Bool.not_eq_true', decide_eq_true_eq, decide_eq_false_iff_not, decide_eq_false_iff_not] at c2
          refine st_ret val_c ?_
          have e : upr l.length 0 l = false := by
            rw [inv, inv2, if_neg (by omega), decide_eq_false c2.2.1]
            rcases c2.2.2 with h | h
            · rw [h]; rfl
            · rw [decide_eq_false h]; simp
          rw [← e]; exact q
        · refine st_next ⟨rfl, ⟨_, _, rfl⟩, ?_⟩
          rw [inv, inv2]
          have hd : (if i % 2 = 1 then decide (l[i] = 32) else (decide (l[i] = 124) || (!(decide (i = 0) || decide (i + 1 = l.length)) && decide (l[i] = 32)))) = true := by
            by_cases h0 : i % 2 = 1
            · rw [if_pos h0]
              by_cases h43 : l[i] = 32
              · exact decide_eq_true h43
              · exfalso
                rw [decide_eq_true (by omega : (i : Int) % 2 = 1), decide_eq_false h43] at c
                exact absurd c (by decide)
            · rw [if_neg h0]
              by_cases h45 : l[i] = 124
              · rw [decide_eq_true h45]; rfl
              · rw [decide_eq_true (by omega : (i : Int) % 2 = 0), decide_eq_false h45] at c2
                by_cases h32 : l[i] = 32
                · rw [decide_eq_true h32] at c2 ⊢
                  cases hb : (decide (i = 0) || decide (i + 1 = l.length)) with
                  | true => rw [hb] at c2; exact absurd c2 (by decide)
                  | false => simp
                · rw [decide_eq_false h32] at c2
                  simp at c2
          rw [hd]; rfl
    · rintro σ H' ⟨rfl, ⟨v, u, rfl⟩, inv⟩
      dsimp only
      refine st_ret val_c ?_
      have e : l.drop l.length = [] := List.drop_length
      rw [e] at inv
      have e2 : upr l.length 0 l = true := by rw [inv]; rfl
      rw [← e2]; exact q
theorem scSide : FnScope ["number"] ["number"] (defScope sSide) := ⟨rfl, rfl, rfl, by decide +kernel, rfl, by decide +kernel, by decide +kernel⟩
theorem ok_side {f : Addr} {fd : FuncData} (F : Fun K "is_side" "is_side" sSide f fd) (T : TxtG K mg C) : FnOk P w K mg base CX0 1 f fd ["number"] spSide := by
  refine F.ok scSide (fun vs H Q E h => ?_) (fun cdv A outer s H vs Q E hr h => ?_)
  · obtain ⟨n, rfl, _⟩ := h
    rfl
  · refine ⟨_, pss_one (ps_ret (pe_and (pe_cmpR op_eq (pe_op op_mod (pv 0) pe_int) pe_int (nomark _)) (pe_one (pe_chain op_le op_le pe_int (pe_op op_fdiv (pv 0) pe_int) (pe_cn T.MOST))))), ?_⟩
    obtain ⟨n, rfl, q⟩ := h
    refine st_ret (val_and (val_eq (val_mod (val_var rfl) val_c (by decide)) val_c) (val_chain val_c (val_div (val_var rfl) val_c (by decide)) val_c (fun Q q => ⟨_, _, rfl, rfl, q⟩) (fun Q q => ⟨_, _, rfl, rfl, q⟩))) ?_
    have e : (decide ((n : Int) % 2 = 1) && (decide ((1 : Int) ≤ (n : Int) / 2) && decide ((n : Int) / 2 ≤ 10))) = isSideM n := by
      unfold isSideM
      have e1 : ((n : Int) % 2 = 1) ↔ (n % 2 = 1) := by omega
      have e2 : ((1 : Int) ≤ (n : Int) / 2) ↔ (1 ≤ n / 2) := by omega
      have e3 : ((n : Int) / 2 ≤ 10) ↔ (n / 2 ≤ 10) := by omega
      rw [decide_eq_decide.mpr e1, decide_eq_decide.mpr e2, decide_eq_decide.mpr e3]
    rw [e]; exact q
end
end Tw

/-! ### The lines of a text; a drawing read -/
namespace Tw
open PySem PySem.Spec PyProof.Rows L2
open PySem.W (Codec)
theorem same_new {H : Hp} {p : Addr} {o : HO} (h : H p = none) : Same H (upd H p o) := fun b u e => by
  rw [upd_ne (ne_of_none e h)]; exact e
theorem same_mut {H H' : Hp} {p : Addr} {o : HO} (e : Same H H') (h : H p = none) : Same H (upd H' p o) := fun b u q => by
  rw [upd_ne (ne_of_none q h)]; exact e _ _ q
section
variable {σ : L2.St} {H : Hp} {ta tb to te : TE} {D : Ends} {K : PySem.W.Frag} {l : Addr} {xs : List V} {y v x : V}
theorem st_app (ho : Val to σ H (.ref l)) (hv : Val te σ H y) (hl : H l = some (.lst xs)) (hz : xs.length < 1000000) (q : D.nx σ (upd H l (.lst (xs ++ [y])))) : tDrop (tBM K "list" rAppend to (tCons te tNil)) D σ H := by
  refine ho _ ⟨.inl ⟨rfl, _, SqL.of hl⟩, ?_⟩
  refine hv _ ?_
  exact ⟨l, xs, y, rfl, rfl, hl, Nat.lt_trans hz (by decide), q⟩
theorem st_appNew (ho : Val to σ H (.ref l)) (hl : H l = some (.lst xs)) (hz : xs.length < 1000000) (q : ∀ r, H r = none → D.nx σ (upd (upd H r (.lst [])) l (.lst (xs ++ [.ref r])))) : tDrop (tBM K "list" rAppend to (tCons (tLst tNil) tNil)) D σ H := by
  refine ho _ ⟨.inl ⟨rfl, _, SqL.of hl⟩, ?_⟩
  refine ⟨by decide, fun r hr => ?_⟩
  exact ⟨l, xs, .ref r, rfl, rfl, by rw [upd_ne (ne_of_none hl hr)]; exact hl, Nat.lt_trans hz (by decide), q r hr⟩
theorem val_call1 {sp : Sp} {E : XK} (ha : Val ta σ H x) (hs : ∀ Q : VK, Q v H → sp [x] H Q E) : Val (tCall sp [] E (tCons ta tNil)) σ H v := by
  intro Q q
  refine ha _ ?_
  exact hs Q q
theorem val_call2 {sp : Sp} {E : XK} (ha : Val ta σ H x) (hb : Val tb σ H y) (hs : ∀ Q : VK, Q v H → sp [x, y] H Q E) : Val (tCall sp [] E (tCons ta (tCons tb tNil))) σ H v := by
  intro Q q
  refine ha _ ?_
  refine hb _ ?_
  exact hs Q q
end
/-- lines that are new since H0, each one apart -/
def LnNew (H0 H : Hp) (p : Addr) (A : List (List Int)) : Prop := ∃ as : List Addr, H p = some (.lst (as.map V.ref)) ∧ H0 p = none ∧ as.length = A.length ∧ as.Nodup ∧ ¬ p ∈ as ∧ (∀ b ∈ as, H0 b = none) ∧
  ∀ (i : Nat) (b : Addr), as[i]? = some b → ∃ l, A[i]? = some l ∧ H b = some (.lst (vI l))
theorem LnNew.ln {H0 H : Hp} {p : Addr} {A : List (List Int)} (h : LnNew H0 H p A) : LnAt H p A := by
  obtain ⟨as, h1, _, h2, _, _, _, h3⟩ := h
  exact ⟨as, h1, h2, h3⟩
/-- a further line -/
theorem LnNew.more {H0 H : Hp} {p r : Addr} {A : List (List Int)} (h : LnNew H0 H p A) (e : Same H0 H) (hr : H r = none) : ∃ as : List Addr, H p = some (.lst (as.map V.ref)) ∧ as.length = A.length ∧
    LnNew H0 (upd (upd H r (.lst [])) p (.lst (as.map V.ref ++ [V.ref r]))) p (A ++ [[]]) := by
  obtain ⟨as, h1, h0, h2, nd, np, nw, h3⟩ := h
  have rp : r ≠ p := (ne_of_none h1 hr).symm
  have rn : ¬ r ∈ as := fun m => by
    obtain ⟨i, hi, e1⟩ := List.getElem_of_mem m
    obtain ⟨l, _, h5⟩ := h3 i r (by rw [List.getElem?_eq_getElem hi, e1])
    rw [hr] at h5; cases h5
  refine ⟨as, h1, h2, as ++ [r], by rw [upd_same, List.map_append]; rfl, h0, by simp [h2], ?_, ?_, ?_, ?_⟩
  · exact nd_snoc nd rn
  · intro m
    rcases List.mem_append.mp m with m | m
    · exact np m
    · exact rp (List.mem_singleton.mp m).symm
  · intro b m
    rcases List.mem_append.mp m with m | m
    · exact nw b m
    · rw [List.mem_singleton.mp m]; exact e.free hr
  · intro i b hb
    by_cases hi : i < as.length
    · rw [List.getElem?_append_left hi] at hb
      obtain ⟨l, h4, h5⟩ := h3 i b hb
      have bp : b ≠ p := fun z => np (by rw [← z]; exact List.mem_of_getElem? hb)
      refine ⟨l, by rw [List.getElem?_append_left (by omega)]; exact h4, ?_⟩
      rw [upd_ne bp, upd_ne (ne_of_none h5 hr)]; exact h5
    · have hi2 : i = as.length := by
        have := (List.getElem?_eq_some_iff.mp hb).1
        rw [List.length_append] at this
        have : i < as.length + 1 := this
        omega
      subst hi2
      rw [List.getElem?_append_right (Nat.le_refl _), Nat.sub_self] at hb
      obtain rfl : r = b := Option.some.inj hb
      refine ⟨[], by rw [h2, List.getElem?_append_right (Nat.le_refl _), Nat.sub_self]; rfl, ?_⟩
      rw [upd_ne rp, upd_same]; rfl
/-- a sign more in the last line -/
theorem LnNew.sign {H0 H : Hp} {p : Addr} {A : List (List Int)} {l : List Int} (c : Int) (h : LnNew H0 H p (A ++ [l])) : ∃ (as : List Addr) (b : Addr), H p = some (.lst (as.map V.ref)) ∧ as.length = A.length + 1 ∧ as[A.length]? = some b ∧ H b = some (.lst (vI l)) ∧ H0 b = none ∧
    LnNew H0 (upd H b (.lst (vI l ++ [.int c]))) p (A ++ [l ++ [c]]) := by
  obtain ⟨as, h1, h0, h2, nd, np, nw, h3⟩ := h
  have h2' : as.length = A.length + 1 := by rw [h2]; simp
  have hlt : A.length < as.length := by omega
  have hb := List.getElem?_eq_getElem hlt
  obtain ⟨l', h4, h5⟩ := h3 _ _ hb
  rw [List.getElem?_append_right (Nat.le_refl _), Nat.sub_self] at h4
  obtain rfl : l = l' := Option.some.inj h4
  have bm : as[A.length] ∈ as := List.getElem_mem hlt
  have bp : p ≠ as[A.length] := fun z => np (by rw [z]; exact bm)
  refine ⟨as, as[A.length], h1, h2', hb, h5, nw _ bm, as, by rw [upd_ne bp]; exact h1, h0, by simp [h2'], nd, np, nw, fun i b hb' => ?_⟩
  obtain ⟨l2, h6, h7⟩ := h3 i b hb'
  by_cases hi : i = A.length
  · subst hi
    rw [hb] at hb'
    obtain rfl := Option.some.inj hb'
    refine ⟨l ++ [c], by rw [List.getElem?_append_right (Nat.le_refl _), Nat.sub_self]; rfl, ?_⟩
    rw [upd_same]; simp
  · have hi2 : i < A.length := by
      have := (List.getElem?_eq_some_iff.mp hb').1
      omega
    have bne : b ≠ as[A.length] := fun z => hi (nd_ix nd hb' (by rw [z]; exact hb))
    refine ⟨l2, ?_, by rw [upd_ne bne]; exact h7⟩
    rw [List.getElem?_append_left hi2] at h6 ⊢
    exact h6
theorem lineStep_10 {A : List (List Int)} : lineStep A 10 = A ++ [[]] := by simp [lineStep]
theorem lineStep_c {A : List (List Int)} {l : List Int} {c : Int} (h : c ≠ 10) : lineStep (A ++ [l]) c = A ++ [l ++ [c]] := by simp [lineStep, h]
theorem lines_ne (t : List Int) : ∀ B : List (List Int), B ≠ [] → t.foldl lineStep B ≠ [] := by
  induction t with
  | nil => intro B h; exact h
  | cons c r ih =>
    intro B h
    refine ih _ ?_
    unfold lineStep; split <;> simp
theorem take_snoc {α : Type} {l : List α} {i : Nat} {x : α} (h : l[i]? = some x) : l.take (i + 1) = l.take i ++ [x] := by
  obtain ⟨hi, e⟩ := List.getElem?_eq_some_iff.mp h
  rw [List.take_succ, h]; rfl
theorem ne_snoc {α : Type} {l : List α} (h : l ≠ []) : ∃ A x, l = A ++ [x] := ⟨l.dropLast, l.getLast h, (List.dropLast_concat_getLast h).symm⟩
def spLines (K : PySem.W.Frag) : Sp := fun vs H Q _ => ∃ (a : Addr) (t : List Int), vs = [.ref a] ∧ SqL K H a (vI t) ∧ t.length ≤ 50000 ∧ ∀ (H' : Hp) (p : Addr), Same H H' → LnNew H H' p (linesM t) → Q (.ref p) H'
def spRead (K : PySem.W.Frag) (C : Addr) : Sp := fun vs H Q _ => ∃ (a : Addr) (t : List Int), vs = [.ref a] ∧ SqL K H a (vI t) ∧ t.length ≤ 50000 ∧ (readM t = none → ∀ H' : Hp, Same H H' → Q .non H') ∧
  ∀ L, readM t = some L → ∀ (H' : Hp) (g : Addr), Same H H' → GdAt C H' g L → Q (.ref g) H'
theorem good_turn {L : List (List Int)} {i : Nat} {l : List Int} (h : L[i]? = some l) : allGood L i (L.drop i) = (goodLine L i l && allGood L (i + 1) (L.drop (i + 1))) := by
  obtain ⟨hi, e⟩ := List.getElem?_eq_some_iff.mp h
  rw [List.drop_eq_getElem_cons hi, e]
  rfl
/-- bounds of the lines made so far -/
theorem lines_small (t : List Int) : ∀ (B : List (List Int)) (n m : Nat), B.length ≤ n → (∀ l ∈ B, l.length ≤ m) → (t.foldl lineStep B).length ≤ n + t.length ∧ ∀ l ∈ t.foldl lineStep B, l.length ≤ m + t.length := by
  induction t with
  | nil => intro B n m h1 h2; exact ⟨h1, h2⟩
  | cons c r ih =>
    intro B n m h1 h2
    have h3 : (lineStep B c).length ≤ n + 1 := by
      unfold lineStep; split
      · simp; omega
      · simp; omega
    have h4 : ∀ l ∈ lineStep B c, l.length ≤ m + 1 := by
      unfold lineStep; split
      · intro l hl
        rcases List.mem_append.mp hl with hl | hl
        · have := h2 l hl; omega
        · rw [List.mem_singleton.mp hl]; simp
      · intro l hl
        rcases List.mem_append.mp hl with hl | hl
        · have := h2 l (List.dropLast_subset _ hl); omega
        · rw [List.mem_singleton.mp hl, List.length_append, List.length_singleton]
          have : (B.getLastD []).length ≤ m := by
            cases hB : B with
            | nil => simp
            | cons x y =>
              rw [← hB]
              have hne : B ≠ [] := by rw [hB]; simp
              have : B.getLastD [] = B.getLast hne := by rw [List.getLastD_eq_getLast?, List.getLast?_eq_some_getLast hne]; rfl
              rw [this]; exact h2 _ (List.getLast_mem hne)
          omega
    obtain ⟨h5, h6⟩ := ih _ _ _ h3 h4
    refine ⟨by show (r.foldl lineStep (lineStep B c)).length ≤ _; rw [List.length_cons]; omega, fun l hl => ?_⟩
    have := h6 l hl
    rw [List.length_cons]; omega
theorem lines_le (t : List Int) : (linesM t).length ≤ 1 + t.length ∧ ∀ l ∈ linesM t, l.length ≤ t.length := by
  have h := lines_small t [[]] 1 0 (by simp) (by simp)
  refine ⟨h.1, fun l hl => ?_⟩
  have := h.2 l hl
  omega
section
variable {P : Program} {w : World} {K : PySem.W.Frag} {mg : Str → Option Value} {base : Heap} {C : Addr}
theorem scLines : FnScope ["text", "found", "byte"] ["text"] (defScope sLinesOf) := ⟨rfl, rfl, rfl, by decide +kernel, rfl, by decide +kernel, by decide +kernel⟩
theorem ok_lines {f : Addr} {fd : FuncData} (F : Fun K "lines_of" "lines_of" sLinesOf f fd) (T : TxtG K mg C) : FnOk P w K mg base CX0 1 f fd ["text"] (spLines K) := by
  refine F.ok scLines (fun vs H Q E h => ?_) (fun cdv A outer s H vs Q E hr h => ?_)
  · obtain ⟨a, t, rfl, _⟩ := h
    rfl
  · refine ⟨_, pss_cons (ps_set (i := 1) scLines.nd rfl (Or.inl rfl) (pe_lst (pa_cons (pe_lst pa_nil) pa_nil)))
      (pss_cons (ps_for PassesOwn.never rfl (pi_list (pv 0)) (pg_name (i := 2) scLines.nd rfl (Or.inl rfl))
        (pss_one (ps_if (pt_cmpR op_eq (pv 2) (pe_cn T.NEWLINE) (nomark _))
          (pss_one (ps_expr (pe_bm PySem.F.plainAttrs_list PySem.F.slot_list_append PySem.F.type_list_append mt_append (pv 1) (pa_cons (pe_lst pa_nil) pa_nil))))
          (pss_one (ps_expr (pe_bm PySem.F.plainAttrs_list PySem.F.slot_list_append PySem.F.type_list_append mt_append
            (pe_ix ix_list (pv 1) (pe_op op_sub (pe_callB call_len_seq (by rfl) T.len PySem.boot_len (pa_cons (pv 1) pa_nil)) pe_int) (fun _ _ => rfl)) (pa_cons (pv 2) pa_nil)))))))
      (pss_one (ps_ret (pv 1)))), ?_⟩
    obtain ⟨a, t, rfl, ht, hz, q⟩ := h
    refine ⟨by decide, fun b hb => ⟨by show 1 ≤ sizeLine; decide, fun p hp => ?_⟩⟩
    have bp : b ≠ p := ne_of_none upd_same hp
    have hp0 : H p = none := by rw [upd_ne bp.symm] at hp; exact hp
    have s1 : Same H (upd (upd H b (.lst [])) p (.lst [.ref b])) := (same_new hb).trans (same_new hp)
    have l1 : LnNew H (upd (upd H b (.lst [])) p (.lst [.ref b])) p [[]] :=
      ⟨[b], upd_same, hp0, rfl, by simp, fun m => bp (List.mem_singleton.mp m).symm, fun c m => by rw [List.mem_singleton.mp m]; exact hb, fun i c hc => by
        cases i with
        | zero =>
          obtain rfl : b = c := Option.some.inj hc
          exact ⟨[], rfl, by rw [upd_ne bp, upd_same]; rfl⟩
        | succ i => simp at hc⟩
    refine ⟨_, rfl, a, rfl, ⟨_, s1.seq ht⟩, for_list (K := K) (a := a) (xs := vI t) (fun i σ H' => (∃ v, σ = [some (.ref a), some (.ref p), v]) ∧ Same H H' ∧ LnNew H H' p (linesM (t.take i)))
      ⟨⟨none, rfl⟩, s1, l1⟩ (fun i σ H' _ ⟨_, s5, _⟩ => s5.seq ht) ?_ ?_⟩
    · rintro i y σ H' hi ⟨⟨v, rfl⟩, s5, l5⟩
      obtain ⟨c, hc, rfl⟩ : ∃ c, t[i]? = some c ∧ y = V.int c := by
        rw [List.getElem?_map] at hi
        cases e : t[i]? with
        | none => rw [e] at hi; cases hi
        | some c => rw [e] at hi; exact ⟨c, rfl, (Option.some.inj hi).symm⟩
      have htk := take_snoc hc
      have estep : linesM (t.take (i + 1)) = lineStep (linesM (t.take i)) c := by
        unfold linesM; rw [htk, List.foldl_append]; rfl
      have hil : i < t.length := (List.getElem?_eq_some_iff.mp hc).1
      have small := lines_le (t.take i)
      have hti : (t.take i).length ≤ 50000 := by rw [List.length_take]; omega
      refine st_ifs (val_test (val_eq (val_var rfl) val_c)) (fun c10 => ?_) fun c10 => ?_
      · have e10 := of_decide_eq_true c10
        subst e10
        have l6 := l5
        obtain ⟨as, has, _⟩ := l6
        refine st_appNew (val_var rfl) has (by rw [List.length_map]; omega) fun r hr => ⟨⟨_, rfl⟩, ?_, ?_⟩
        · exact same_mut (s5.trans (same_new hr)) hp0
        · obtain ⟨as', h1, h2, h3⟩ := l5.more s5 hr
          rw [estep, lineStep_10]
          rw [has] at h1
          have e1 := HO.lst.inj (Option.some.inj h1)
          rw [e1]; exact h3
      · have n10 := of_decide_eq_false c10
        obtain ⟨B, l, eB⟩ := ne_snoc (lines_ne (t.take i) [[]] (by simp))
        have eB' : linesM (t.take i) = B ++ [l] := eB
        rw [eB'] at l5 small
        obtain ⟨as, b, h1, h2, h3, h4, h0, h5⟩ := l5.sign c
        have hl := small.2 l (by simp)
        refine st_app (val_ix (n := B.length) (val_var rfl) (val_sub (val_len (xs := as.map V.ref) (val_var rfl) (SqL.of h1)) val_c) (SqL.of h1) (by rw [List.length_map, h2]; omega) (map_at h3)) (val_var rfl) h4 (by rw [List.length_map]; omega) ⟨⟨_, rfl⟩, same_mut s5 h0, ?_⟩
        rw [estep, eB', lineStep_c n10]
        exact h5
    · rintro σ H' ⟨⟨v, rfl⟩, s5, l5⟩
      dsimp only
      refine st_ret (val_var rfl) (q H' p s5 ?_)
      rw [List.length_map, List.take_length] at l5
      exact l5
theorem scRead : FnScope ["text", "lines", "last", "y"] ["text"] (defScope sRead) := ⟨rfl, rfl, rfl, by decide +kernel, rfl, by decide +kernel, by decide +kernel⟩
/-- the defs that read_garden calls -/
structure CallsR (P : Program) (w : World) (K : PySem.W.Frag) (mg : Str → Option Value) (base : Heap) (C : Addr) : Prop where
  lines : ∃ f fd, mg "lines_of" = some (.ref f) ∧ PySem.W.keepIn K (.ref f) = true ∧ Binds K fd ["text"] [] ∧ FnOk P w K mg base CX0 1 f fd ["text"] (spLines K)
  side : ∃ f fd, mg "is_side" = some (.ref f) ∧ PySem.W.keepIn K (.ref f) = true ∧ Binds K fd ["number"] [] ∧ FnOk P w K mg base CX0 1 f fd ["number"] spSide
  level : ∃ f fd, mg "is_level_line" = some (.ref f) ∧ PySem.W.keepIn K (.ref f) = true ∧ Binds K fd ["line", "is_border"] [] ∧ FnOk P w K mg base CX0 1 f fd ["line", "is_border"] (spLevel K)
  upright : ∃ f fd, mg "is_upright_line" = some (.ref f) ∧ PySem.W.keepIn K (.ref f) = true ∧ Binds K fd ["line"] [] ∧ FnOk P w K mg base CX0 1 f fd ["line"] (spUpright K)
  init : ∃ f fd, Mk K C f ∧ Binds K fd ["self", "lines"] [] ∧ FnOk P w K mg base CX0 1 f fd ["self", "lines"] (spGInit C)
theorem ok_read {f : Addr} {fd : FuncData} (F : Fun K "read_garden" "read_garden" sRead f fd) (T : TxtG K mg C) (R : CallsR P w K mg base C) : FnOk P w K mg base CX0 3 f fd ["text"] (spRead K C) := by
  obtain ⟨f1, fd1, m1, k1, b1, G1⟩ := R.lines
  obtain ⟨f2, fd2, m2, k2, b2, G2⟩ := R.side
  obtain ⟨f3, fd3, m3, k3, b3, G3⟩ := R.level
  obtain ⟨f4, fd4, m4, k4, b4, G4⟩ := R.upright
  obtain ⟨f5, fd5, M5, b5, G5⟩ := R.init
  refine F.ok scRead (fun vs H Q E h => ?_) (fun cdv A outer s H vs Q E hr h => ?_)
  · obtain ⟨a, t, rfl, _⟩ := h
    rfl
  · have hr1 : Room 1 _ := hr.mono (by decide)
    refine ⟨_, pss_cons (ps_set (i := 1) scRead.nd rfl (Or.inl rfl) (pe_call G1 hr1 rfl m1 k1 b1 .nil pass0 (pa_cons (pv 0) pa_nil)))
      (pss_cons (ps_set (i := 2) scRead.nd rfl (Or.inl rfl) (pe_bm0 PySem.F.plainAttrs_list PySem.F.slot_list_pop PySem.F.type_list_pop mt_pop (pv 1)))
      (pss_cons (ps_if (PW.pt (pw_or (pt_cmpR (op_neD hr.units) (pv 2) (pe_lst pa_nil) (nomark _)) (pw_or (pt_not (pt_val (pe_call G2 hr1 rfl m2 k2 b2 .nil pass0 (pa_cons (pe_callB call_len_seq (by rfl) T.len PySem.boot_len (pa_cons (pv 1) pa_nil)) pa_nil))))
          (pw_or1 (pt_not (pt_val (pe_call G2 hr1 rfl m2 k2 b2 .nil pass0 (pa_cons (pe_callB call_len_seq (by rfl) T.len PySem.boot_len (pa_cons (pe_ix ix_list (pv 1) pe_int (fun _ _ => rfl)) pa_nil)) pa_nil)))))))) (pss_one (ps_ret pe_non)) pss_nil)
      (pss_cons (ps_for PassesOwn.never rfl (pi_range1 rfl T.range (pa_cons (pe_callB call_len_seq (by rfl) T.len PySem.boot_len (pa_cons (pv 1) pa_nil)) pa_nil)) (pg_name (i := 3) scRead.nd rfl (Or.inl rfl))
        (pss_cons (ps_if (pt_cmpR op_ne (pe_callB call_len_seq (by rfl) T.len PySem.boot_len (pa_cons (pe_ix ix_list (pv 1) (pv 3) (fun _ _ => rfl)) pa_nil)) (pe_callB call_len_seq (by rfl) T.len PySem.boot_len (pa_cons (pe_ix ix_list (pv 1) pe_int (fun _ _ => rfl)) pa_nil)) (nomark _)) (pss_one (ps_ret pe_non)) pss_nil)
        (pss_cons (ps_if (PW.pt (pw_and (pt_cmpR op_eq (pe_op op_mod (pv 3) pe_int) pe_int (nomark _)) (pw_and1 (pt_not (pt_val (pe_call G4 hr1 rfl m4 k4 b4 .nil pass0 (pa_cons (pe_ix ix_list (pv 1) (pv 3) (fun _ _ => rfl)) pa_nil))))))) (pss_one (ps_ret pe_non)) pss_nil)
        (pss_one (ps_if (PW.pt (pw_and (pt_cmpR op_eq (pe_op op_mod (pv 3) pe_int) pe_int (nomark _)) (pw_and1 (pt_not (pt_val (pe_call G3 hr1 rfl m3 k3 b3 .nil pass0 (pa_cons (pe_ix ix_list (pv 1) (pv 3) (fun _ _ => rfl)) (pa_cons
          (pe_or (pe_cmpR op_eq (pv 3) pe_int (nomark _)) (pe_one (pe_cmpR op_eq (pv 3) (pe_op op_sub (pe_callB call_len_seq (by rfl) T.len PySem.boot_len (pa_cons (pv 1) pa_nil)) pe_int) (nomark _)))) pa_nil)))))))) (pss_one (ps_ret pe_non)) pss_nil)))))
      (pss_one (ps_ret (pe_make M5 G5 hr rfl T.gC b5 .nil pass0 (pa_cons (pv 1) pa_nil))))))), ?_⟩
    obtain ⟨a, t, rfl, ht, hz, kN, kS⟩ := h
    refine ⟨_, rfl, a, t, rfl, ht, hz, fun H1 p s1 l1 => ?_⟩
    obtain ⟨B, l, eA⟩ := ne_snoc (lines_ne t [[]] (by simp))
    have eA : linesM t = B ++ [l] := eA
    have small := lines_le t
    rw [eA] at l1 small
    have hl := small.2 l (by simp)
    have hBl : B.length ≤ 50001 := by
      have := small.1
      rw [List.length_append] at this
      simp at this
      omega
    have l2 := l1
    obtain ⟨as, h1, h0, h2, nd, np, nw, h3⟩ := l2
    have h2' : as.length = B.length + 1 := by rw [h2]; simp
    have hlt : B.length < as.length := by omega
    have hb := List.getElem?_eq_getElem hlt
    obtain ⟨l', h4, h5⟩ := h3 _ _ hb
    rw [List.getElem?_append_right (Nat.le_refl _), Nat.sub_self] at h4
    obtain rfl : l = l' := Option.some.inj h4
    have bp : as[B.length] ≠ p := fun z => np (by rw [← z]; exact List.getElem_mem hlt)
    refine ⟨_, rfl, .inl ⟨rfl, _, SqL.of h1⟩, p, as.map V.ref, .ref as[B.length], rfl, rfl, h1, ?_, ?_⟩
    · rw [List.length_map, h2']; exact map_at hb
    have edl : (as.map V.ref).dropLast = (as.take B.length).map V.ref := by
      rw [List.dropLast_eq_take, List.length_map, h2', List.map_take]; rfl
    -- the heap behind the pop
    have s2 : Same H (upd H1 p (.lst (as.map V.ref).dropLast)) := same_mut s1 h0
    have lB : LnAt (upd H1 p (.lst (as.map V.ref).dropLast)) p B := by
      refine ⟨as.take B.length, by rw [upd_same, edl], by rw [List.length_take]; omega, fun i b hb' => ?_⟩
      have hi : i < B.length := by
        have := (List.getElem?_eq_some_iff.mp hb').1
        rw [List.length_take] at this; omega
      rw [List.getElem?_take_of_lt hi] at hb'
      obtain ⟨l2, h6, h7⟩ := h3 i b hb'
      have bp2 : b ≠ p := fun z => np (by rw [← z]; exact List.mem_of_getElem? hb')
      rw [List.getElem?_append_left hi] at h6
      exact ⟨l2, h6, by rw [upd_ne bp2]; exact h7⟩
    have hlast : (upd H1 p (.lst (as.map V.ref).dropLast)) as[B.length] = some (.lst (vI l)) := by rw [upd_ne bp]; exact h5
    have eRead : readM t = if (decide (l = []) && (isSideM B.length && (isSideM (len0 B) && allGood B 0 B))) = true then some B else none := by
      unfold readM drawn
      rw [eA, List.dropLast_concat]; simp
    generalize hH2 : upd H1 p (.lst (as.map V.ref).dropLast) = H2 at s2 lB hlast ⊢
    clear hH2
    refine ⟨_, rfl, by show 0 ≤ sizeLine; decide, fun r hr => ⟨_, _, dp_list (SqL.of (by rw [upd_ne (ne_of_none hlast hr)]; exact hlast)), dp_list (l := []) (SqL.of upd_same), shaped_ints _, shaped_ints _, _, rfl, ?_⟩⟩
    rw [eqv_ints]
    have s3 : Same H (upd H2 r (.lst [])) := s2.trans (same_new hr)
    have lB3 : LnAt (upd H2 r (.lst [])) p B := lB.same (same_new hr)
    by_cases hle : l = []
    · rw [decide_eq_true hle] at eRead
      rw [decide_eq_true hle]
      refine iteF ?_
      have lB4 := lB3
      obtain ⟨bs, g1, g2, g3⟩ := lB4
      have vl : ∀ σ : L2.St, σ[1]? = some (some (V.ref p)) → Val (tCB (fun xs H Q => ∃ p ys, xs = [.ref p] ∧ (SqL K H p ys ∨ SqT K H p ys) ∧ Q (.int ys.length) H) (tCons (tVar 1) tNil)) σ (upd H2 r (.lst [])) (vN B.length) := fun σ h => by
        have q := val_len (K := K) (σ := σ) (ta := tVar 1) (val_var h) (SqL.of g1)
        rw [List.length_map, g2] at q
        exact q
      -- the line at place i
      have vi : ∀ (σ : L2.St) (te : TE) (i : Nat) (m : List Int), σ[1]? = some (some (V.ref p)) → Val te σ (upd H2 r (.lst [])) (vN i) → B[i]? = some m → ∃ c, Val (tOp (rIxL K) (tVar 1) te) σ (upd H2 r (.lst [])) (.ref c) ∧ SqL K (upd H2 r (.lst [])) c (vI m) := fun σ te i m h hv hm => by
        obtain ⟨cs, c, e1, e2, e3, _⟩ := lB3.line hm
        exact ⟨c, val_ix (val_var h) hv (SqL.of e1) rfl e2, SqL.of e3⟩
      have vll : ∀ (σ : L2.St) (te : TE) (i : Nat) (m : List Int), σ[1]? = some (some (V.ref p)) → Val te σ (upd H2 r (.lst [])) (vN i) → B[i]? = some m →
          Val (tCB (fun xs H Q => ∃ p ys, xs = [.ref p] ∧ (SqL K H p ys ∨ SqT K H p ys) ∧ Q (.int ys.length) H) (tCons (tOp (rIxL K) (tVar 1) te) tNil)) σ (upd H2 r (.lst [])) (vN m.length) := fun σ te i m h hv hm => by
        obtain ⟨c, q1, q2⟩ := vi σ te i m h hv hm
        have q := val_len (K := K) q1 q2
        rw [List.length_map] at q
        exact q
      by_cases hB0 : isSideM B.length = true
      · have hne : B ≠ [] := fun z => by rw [z] at hB0; exact absurd hB0 (by decide)
        obtain ⟨m0, hm0⟩ : ∃ m0, B[0]? = some m0 := by
          cases B with
          | nil => exact absurd rfl hne
          | cons x y => exact ⟨x, rfl⟩
        have e0 : len0 B = m0.length := by
          cases B with
          | nil => exact absurd rfl hne
          | cons x y => obtain rfl : x = m0 := Option.some.inj hm0; rfl
        refine ans_or (b := !isSideM (len0 B)) (by
            have q := ans_not (ans_B (val_call1 (sp := spSide) (E := E0) (v := .bl (isSideM B.length)) (vl [some (V.ref a), some (.ref p), some (.ref as[B.length]), none] rfl) fun Q q => ⟨_, rfl, q⟩))
            rw [hB0] at q; exact q)
          (ans_not (ans_B (val_call1 (sp := spSide) (E := E0) (v := .bl (isSideM (len0 B))) (vll _ _ 0 m0 rfl val_c hm0) fun Q q => ⟨_, rfl, by rw [← e0]; exact q⟩))) _ ?_
        by_cases hB1 : isSideM (len0 B) = true
        · rw [hB0, hB1] at eRead
          rw [hB1]
          refine iteF (st_next ?_)
          dsimp only
          refine st_seq (st_rng (vl _ rfl) (by omega) (fun i σ H' => H' = upd H2 r (.lst []) ∧ (∃ v, σ = [some (.ref a), some (.ref p), some (.ref as[B.length]), v]) ∧ allGood B 0 B = allGood B i (B.drop i)) ⟨rfl, ⟨none, rfl⟩, rfl⟩ ?_ ?_)
          · rintro i σ H' hi ⟨rfl, ⟨v, rfl⟩, inv⟩
            have hm := List.getElem?_eq_getElem hi
            have inv2 := good_turn hm
            have hml : B[i].length ≤ 50000 := by
              have := small.2 B[i] (List.mem_append_left _ (List.getElem_mem hi)); omega
            have vy : Val (tVar 3) [some (V.ref a), some (.ref p), some (.ref as[B.length]), some (vN i)] (upd H2 r (.lst [])) (vN i) := val_var rfl
            obtain ⟨c, q1, q2⟩ := vi [some (V.ref a), some (.ref p), some (.ref as[B.length]), some (vN i)] (tVar 3) i B[i] rfl vy hm
            have bad : goodLine B i B[i] = false → tRet (tC .non) { nx := fun _ H' => Q .non H', rt := Q } [some (V.ref a), some (.ref p), some (.ref as[B.length]), some (vN i)] (upd H2 r (.lst [])) := fun hg => by
              refine st_ret val_c (kN ?_ _ s3)
              rw [eRead, inv, inv2, hg]; rfl
            refine st_seq (st_ifs (val_test (val_ne (vll _ _ i B[i] rfl vy hm) (vll _ _ 0 m0 rfl val_c hm0))) (fun c1 => ?_) fun c1 => ?_)
            · refine bad ?_
              have : ¬ B[i].length = len0 B := by
                rw [Bool.not_eq_true', decide_eq_false_iff_not] at c1
                rw [e0]; omega
              unfold goodLine; rw [decide_eq_false this]; rfl
            · have hlen : B[i].length = len0 B := by
                rw [Bool.not_eq_false', decide_eq_true_eq] at c1
                rw [e0]; omega
              refine st_next (st_seq (st_ifs (ans_and2 (val_test (val_eq (val_mod vy val_c (by decide)) val_c)) (ans_not (ans_B (val_call1 (sp := spUpright K) (E := E0) (v := .bl (upr B[i].length 0 B[i])) q1 fun Q q => ⟨c, B[i], rfl, q2, by omega, q⟩)))) (fun c2 => ?_) fun c2 => ?_))
              · rw [Bool.and_eq_true, decide_eq_true_eq, Bool.not_eq_true'] at c2
                refine bad ?_
                unfold goodLine; rw [if_pos (by omega), c2.2, Bool.and_false]
              · have eb : (decide ((i : Int) = 0) || decide ((i : Int) = (B.length : Int) - 1)) = (decide (i = 0) || decide (i + 1 = B.length)) := by
                  have e1 : ((i : Int) = 0) ↔ (i = 0) := by omega
                  have e2 : ((i : Int) = (B.length : Int) - 1) ↔ (i + 1 = B.length) := by omega
                  rw [decide_eq_decide.mpr e1, decide_eq_decide.mpr e2]
                refine st_next (st_ifs (ans_and2 (val_test (val_eq (val_mod vy val_c (by decide)) val_c)) (ans_not (ans_B (val_call2 (sp := spLevel K) (E := E0) (v := .bl (lvl (decide (i = 0) || decide (i + 1 = B.length)) 0 B[i])) q1 (val_or (val_eq vy val_c) (val_eq vy (val_sub (vl _ rfl) val_c))) fun Q q => ⟨c, B[i], _, rfl, q2, by omega, by rw [eb]; exact q⟩)))) (fun c3 => ?_) fun c3 => ?_)
                · rw [Bool.and_eq_true, decide_eq_true_eq, Bool.not_eq_true'] at c3
                  refine bad ?_
                  unfold goodLine; rw [if_neg (by omega), c3.2, Bool.and_false]
                · refine st_next ⟨rfl, ⟨_, rfl⟩, ?_⟩
                  rw [inv, inv2]
                  have hg : goodLine B i B[i] = true := by
                    unfold goodLine
                    rw [decide_eq_true hlen, Bool.true_and]
                    by_cases h1 : i % 2 = 1
                    · rw [if_pos h1]
                      rw [decide_eq_true (by omega : (i : Int) % 2 = 1), Bool.true_and, Bool.not_eq_false'] at c2
                      exact c2
                    · rw [if_neg h1]
                      rw [decide_eq_true (by omega : (i : Int) % 2 = 0), Bool.true_and, Bool.not_eq_false'] at c3
                      exact c3
                  rw [hg]; rfl
          · rintro σ H' ⟨rfl, ⟨v, rfl⟩, inv⟩
            rw [List.drop_length] at inv
            have hS : readM t = some B := by rw [eRead, inv]; rfl
            dsimp only
            refine ⟨_, rfl, fun x dx nx nd ne => ?_⟩
            have s4 : Same (upd H2 r (.lst [])) (upd (upd (upd H2 r (.lst [])) dx (.own x)) x (.ins C dx [])) := (same_new nd).trans (same_new (by rw [upd_ne (Ne.symm ne)]; exact nx))
            have px : p ≠ x := ne_of_none g1 nx
            refine ⟨x, dx, p, B, rfl, upd_same, lB3.same s4, hne, px, fun H4 j1 j2 => ⟨rfl, ?_⟩⟩
            have s5 : Same (upd H2 r (.lst [])) H4 := Same.made nx nd j2
            exact kS B hS H4 x (s3.trans s5) ⟨dx, p, j1, lB3.same s5⟩
        · rw [Bool.not_eq_true] at hB1
          rw [hB1]
          refine iteT (st_ret val_c (kN ?_ _ s3))
          rw [eRead, hB1]; simp
      · rw [Bool.not_eq_true] at hB0
        refine ans_or1 (by
            have q := ans_not (ans_B (val_call1 (sp := spSide) (E := E0) (v := .bl (isSideM B.length)) (vl [some (V.ref a), some (.ref p), some (.ref as[B.length]), none] rfl) fun Q q => ⟨_, rfl, q⟩))
            rw [hB0] at q; exact q) _ ?_
        refine iteT (st_ret val_c (kN ?_ _ s3))
        rw [eRead, hB0]; simp
    · rw [decide_eq_false hle]
      refine iteT (iteT (st_ret val_c (kN ?_ _ s3)))
      rw [eRead, decide_eq_false hle]; rfl
end
end Tw

/-! ### What is refused -/
namespace Tw
open PySem PySem.Spec PyProof.Rows L2
open PySem.W (Codec)
/-- the refusal's own error: its dict holds the code -/
def Ref (CR : Addr) (H : Hp) (E : XK) (code : Int) : Prop := ∀ (H' : Hp) (d : Addr), Same H H' → H' d = some (.xd [(("code" : Str), .int code)]) → E (.ref CR) (some d) H'
def spGardenOf (K : PySem.W.Frag) (C CR : Addr) : Sp := fun vs H Q E => ∃ (a : Addr) (t : List Int), vs = [.ref a] ∧ SqL K H a (vI t) ∧ t.length ≤ 50000 ∧ (1024 < t.length → Ref CR H E (-2)) ∧ (t.length ≤ 1024 → readM t = none → Ref CR H E (-6)) ∧
  (t.length ≤ 1024 → ∀ L, readM t = some L → ∀ (H' : Hp) (g : Addr), Same H H' → GdAt C H' g L → Q (.ref g) H')
structure TxtR (K : PySem.W.Frag) (mg : Str → Option Value) (CR fR : Addr) : Prop where
  ref : PySem.RefX.RefTxt K mg CR fR
  TOO_LONG : Cn mg "TOO_LONG" (-2)
  FAULT : Cn mg "FAULT" (-6)
  LONGEST : Cn mg "LONGEST" 1024
section
variable {P : Program} {w : World} {K : PySem.W.Frag} {mg : Str → Option Value} {base : Heap} {C CR fR : Addr}
theorem scGO : FnScope ["text", "found"] ["text"] (defScope sGardenOf) := ⟨rfl, rfl, rfl, by decide +kernel, rfl, by decide +kernel, by decide +kernel⟩
theorem ok_gardenOf {f fr : Addr} {fd fdr : FuncData} (F : Fun K "garden_of" "garden_of" sGardenOf f fd) (T : TxtG K mg C) (TR : TxtR K mg CR fR) (m1 : mg "read_garden" = some (.ref fr)) (k1 : PySem.W.keepIn K (.ref fr) = true) (b1 : Binds K fdr ["text"] [])
    (G : FnOk P w K mg base CX0 3 fr fdr ["text"] (spRead K C)) : FnOk P w K mg base (L2.CX P w) 4 f fd ["text"] (spGardenOf K C CR) := by
  refine F.okX scGO (fun vs H Q E h => ?_) (fun cdv A outer s H vs Q E hr h => ?_)
  · obtain ⟨a, t, rfl, _⟩ := h
    rfl
  · refine ⟨_, pss_cons (ps_if (pt_cmpR op_gt (pe_callB call_len_seq (by rfl) T.len PySem.boot_len (pa_cons (pv 0) pa_nil)) (pe_cn TR.LONGEST) (nomark _)) (pss_one (ps_raiseRef rfl TR.ref hr (takes_of rfl rfl rfl rfl) (by exact (pa_cons (pe_cn TR.TOO_LONG) pa_nil)))) pss_nil)
      (pss_cons (ps_set (i := 1) scGO.nd rfl (Or.inl rfl) (pe_call G hr rfl m1 k1 b1 .nil pass0 (pa_cons (pv 0) pa_nil)))
      (pss_cons (ps_if (pt_cmpR op_isN (pv 1) pe_non (nomark _)) (pss_one (ps_raiseRef rfl TR.ref hr (takes_of rfl rfl rfl rfl) (by exact (pa_cons (pe_cn TR.FAULT) pa_nil)))) pss_nil)
      (pss_one (ps_ret (pv 1))))), ?_⟩
    obtain ⟨a, t, rfl, ht, hz, k2, k6, kS⟩ := h
    have vl : Val (tCB (fun xs H Q => ∃ p ys, xs = [.ref p] ∧ (SqL K H p ys ∨ SqT K H p ys) ∧ Q (.int ys.length) H) (tCons (tVar 0) tNil)) (start ["text", "found"] [V.ref a]) H (.int (t.length : Int)) := by
      have q := val_len (K := K) (σ := start ["text", "found"] [V.ref a]) (ta := tVar 0) (val_var rfl) ht
      rw [List.length_map] at q
      exact q
    refine st_seq (st_ifs (val_test (val_gt vl val_c)) (fun c => ?_) fun c => ?_)
    · have hc := of_decide_eq_true c
      exact ⟨_, rfl, fun d hd => k2 (by omega) _ d (same_new hd) upd_same⟩
    · have hc := of_decide_eq_false c
      have hc' : t.length ≤ 1024 := by omega
      refine st_next ?_
      refine ⟨_, rfl, a, t, rfl, ht, hz, fun hn H1 s1 => ?_, fun L hL H1 g s1 hg => ?_⟩
      · refine ⟨_, rfl, rfl, true, rfl, iteT ⟨_, rfl, fun d hd => k6 hc' hn _ d (s1.trans (same_new hd)) upd_same⟩⟩
      · refine ⟨_, rfl, rfl, false, rfl, iteF (st_next ?_)⟩
        exact ⟨_, rfl, kS hc' L hL H1 g s1 hg⟩
end
end Tw

/-! ### A walk: how it lies in the heap, its methods -/
namespace Tw
open PySem PySem.Spec PyProof.Rows L2
open PySem.W (Codec)
def wF (ga sa ta goa sea : Addr) (b : Bool) : List (Str × V) := [("garden", .ref ga), ("squares", .ref sa), ("thread", .ref ta), ("gone", .ref goa), ("seen", .ref sea), ("must_turn", .bl b)]
def gK (p : Nat × Nat) : List Key := [.inl (p.1 : Int), .inl (p.2 : Int)]
def goneKV (g : List (Nat × Nat)) : List (List Key × V) := g.map fun p => (gK p, .bl true)
def seenKV (g : List (Nat × Nat)) : List (Key × V) := g.map fun p => (.inl (p.1 : Int), vN p.2)
/-- H0: ahead of the walk's making; its objects are new since then -/
structure WkA (CW : Addr) (H0 H : Hp) (a ga dx sa ta goa sea : Addr) (W : Wk) : Prop where
  ob : H a = some (.ins CW dx (wF ga sa ta goa sea W.turn))
  sq : H sa = some (.lst (vNs W.squares))
  th : H ta = some (.lst (vNs W.thread))
  go : H goa = some (.dT (goneKV W.gone))
  se : H sea = some (.dK (seenKV W.seen))
  na : H0 a = none
  nsq : H0 sa = none
  nth : H0 ta = none
  ngo : H0 goa = none
  nse : H0 sea = none
  st : sa ≠ ta
def WkAt (CW : Addr) (H0 H : Hp) (a ga : Addr) (W : Wk) : Prop := ∃ dx sa ta goa sea, WkA CW H0 H a ga dx sa ta goa sea W
theorem WkAt.same {CW : Addr} {H0 H H' : Hp} {a ga : Addr} {W : Wk} (h : WkAt CW H0 H a ga W) (e : Same H H') : WkAt CW H0 H' a ga W := by
  obtain ⟨dx, sa, ta, goa, sea, A⟩ := h
  exact ⟨dx, sa, ta, goa, sea, { A with ob := e _ _ A.ob, sq := e _ _ A.sq, th := e _ _ A.th, go := e _ _ A.go, se := e _ _ A.se }⟩
section
variable {CW : Addr} {H0 H H' : Hp} {a ga dx sa ta goa sea : Addr} {W : Wk} {b : Bool}
theorem WkA.same (A : WkA CW H0 H a ga dx sa ta goa sea W) (e : Same H H') : WkA CW H0 H' a ga dx sa ta goa sea W :=
  { A with ob := e _ _ A.ob, sq := e _ _ A.sq, th := e _ _ A.th, go := e _ _ A.go, se := e _ _ A.se }
theorem WkA.threadTo (A : WkA CW H0 H a ga dx sa ta goa sea W) (l : List Nat) : WkA CW H0 (upd H ta (.lst (vNs l))) a ga dx sa ta goa sea { W with thread := l } :=
  { A with
    ob := by rw [upd_ne (ne_of A.ob A.th (by intro z; cases z))]; exact A.ob
    sq := by rw [upd_ne A.st]; exact A.sq
    th := upd_same
    go := by rw [upd_ne (ne_of A.go A.th (by intro z; cases z))]; exact A.go
    se := by rw [upd_ne (ne_of A.se A.th (by intro z; cases z))]; exact A.se }
theorem WkA.squaresTo (A : WkA CW H0 H a ga dx sa ta goa sea W) (l : List Nat) : WkA CW H0 (upd H sa (.lst (vNs l))) a ga dx sa ta goa sea { W with squares := l } :=
  { A with
    ob := by rw [upd_ne (ne_of A.ob A.sq (by intro z; cases z))]; exact A.ob
    sq := upd_same
    th := by rw [upd_ne (Ne.symm A.st)]; exact A.th
    go := by rw [upd_ne (ne_of A.go A.sq (by intro z; cases z))]; exact A.go
    se := by rw [upd_ne (ne_of A.se A.sq (by intro z; cases z))]; exact A.se }
theorem WkA.goneTo (A : WkA CW H0 H a ga dx sa ta goa sea W) (l : List (Nat × Nat)) : WkA CW H0 (upd H goa (.dT (goneKV l))) a ga dx sa ta goa sea { W with gone := l } :=
  { A with
    ob := by rw [upd_ne (ne_of A.ob A.go (by intro z; cases z))]; exact A.ob
    sq := by rw [upd_ne (ne_of A.sq A.go (by intro z; cases z))]; exact A.sq
    th := by rw [upd_ne (ne_of A.th A.go (by intro z; cases z))]; exact A.th
    go := upd_same
    se := by rw [upd_ne (ne_of A.se A.go (by intro z; cases z))]; exact A.se }
theorem WkA.seenTo (A : WkA CW H0 H a ga dx sa ta goa sea W) (l : List (Nat × Nat)) : WkA CW H0 (upd H sea (.dK (seenKV l))) a ga dx sa ta goa sea { W with seen := l } :=
  { A with
    ob := by rw [upd_ne (ne_of A.ob A.se (by intro z; cases z))]; exact A.ob
    sq := by rw [upd_ne (ne_of A.sq A.se (by intro z; cases z))]; exact A.sq
    th := by rw [upd_ne (ne_of A.th A.se (by intro z; cases z))]; exact A.th
    go := by rw [upd_ne (ne_of A.go A.se (by intro z; cases z))]; exact A.go
    se := upd_same }
theorem wF_garden : (wF ga sa ta goa sea b).lookup ("garden" : Str) = some (.ref ga) := lk_here
theorem wF_squares : (wF ga sa ta goa sea b).lookup ("squares" : Str) = some (.ref sa) := (lk_past (by decide +kernel)).trans lk_here
theorem wF_thread : (wF ga sa ta goa sea b).lookup ("thread" : Str) = some (.ref ta) := (lk_past (by decide +kernel)).trans ((lk_past (by decide +kernel)).trans lk_here)
theorem wF_gone : (wF ga sa ta goa sea b).lookup ("gone" : Str) = some (.ref goa) := (lk_past (by decide +kernel)).trans ((lk_past (by decide +kernel)).trans ((lk_past (by decide +kernel)).trans lk_here))
theorem wF_seen : (wF ga sa ta goa sea b).lookup ("seen" : Str) = some (.ref sea) := (lk_past (by decide +kernel)).trans ((lk_past (by decide +kernel)).trans ((lk_past (by decide +kernel)).trans ((lk_past (by decide +kernel)).trans lk_here)))
theorem wF_turn : (wF ga sa ta goa sea b).lookup ("must_turn" : Str) = some (.bl b) := (lk_past (by decide +kernel)).trans ((lk_past (by decide +kernel)).trans ((lk_past (by decide +kernel)).trans ((lk_past (by decide +kernel)).trans ((lk_past (by decide +kernel)).trans lk_here))))
theorem wF_no {m : Str} (h : ([("garden" : Str), "squares", "thread", "gone", "seen", "must_turn"].all fun x => !(m == x)) = true) : (wF ga sa ta goa sea b).lookup m = none := by
  simp only [List.all_cons, List.all_nil, Bool.and_true, Bool.and_eq_true, Bool.not_eq_true'] at h
  obtain ⟨h1, h2, h3, h4, h5, h6⟩ := h
  exact (lk_past h1).trans ((lk_past h2).trans ((lk_past h3).trans ((lk_past h4).trans ((lk_past h5).trans ((lk_past h6).trans rfl)))))
theorem wF_put (c : Bool) : putF "must_turn" (.bl c) (wF ga sa ta goa sea b) = wF ga sa ta goa sea c := by
  unfold wF
  rw [put_past (by decide +kernel), put_past (by decide +kernel), put_past (by decide +kernel), put_past (by decide +kernel), put_past (by decide +kernel), put_here]
theorem wF_new : putF "must_turn" (.bl b) (putF "seen" (.ref sea) (putF "gone" (.ref goa) (putF "thread" (.ref ta) (putF "squares" (.ref sa) (putF "garden" (.ref ga) []))))) = wF ga sa ta goa sea b := by
  have e1 : putF "garden" (.ref ga) [] = [(("garden" : Str), V.ref ga)] := rfl
  have e2 : putF "squares" (.ref sa) [(("garden" : Str), V.ref ga)] = [(("garden" : Str), V.ref ga), ("squares", .ref sa)] := (put_past (by decide +kernel)).trans rfl
  have e3 : putF "thread" (.ref ta) [(("garden" : Str), V.ref ga), ("squares", .ref sa)] = [(("garden" : Str), V.ref ga), ("squares", .ref sa), ("thread", .ref ta)] := by
    rw [put_past (by decide +kernel), put_past (by decide +kernel)]; rfl
  have e4 : putF "gone" (.ref goa) [(("garden" : Str), V.ref ga), ("squares", .ref sa), ("thread", .ref ta)] = [(("garden" : Str), V.ref ga), ("squares", .ref sa), ("thread", .ref ta), ("gone", .ref goa)] := by
    rw [put_past (by decide +kernel), put_past (by decide +kernel), put_past (by decide +kernel)]; rfl
  have e5 : putF "seen" (.ref sea) [(("garden" : Str), V.ref ga), ("squares", .ref sa), ("thread", .ref ta), ("gone", .ref goa)] = [(("garden" : Str), V.ref ga), ("squares", .ref sa), ("thread", .ref ta), ("gone", .ref goa), ("seen", .ref sea)] := by
    rw [put_past (by decide +kernel), put_past (by decide +kernel), put_past (by decide +kernel), put_past (by decide +kernel)]; rfl
  rw [e1, e2, e3, e4, e5, put_past (by decide +kernel), put_past (by decide +kernel), put_past (by decide +kernel), put_past (by decide +kernel), put_past (by decide +kernel)]
  rfl
theorem WkA.turnTo (A : WkA CW H0 H a ga dx sa ta goa sea W) (c : Bool) : WkA CW H0 (upd H a (.ins CW dx (putF "must_turn" (.bl c) (wF ga sa ta goa sea W.turn)))) a ga dx sa ta goa sea { W with turn := c } :=
  { A with
    ob := by rw [upd_same, wF_put]
    sq := by rw [upd_ne (ne_of A.sq A.ob (by intro z; cases z))]; exact A.sq
    th := by rw [upd_ne (ne_of A.th A.ob (by intro z; cases z))]; exact A.th
    go := by rw [upd_ne (ne_of A.go A.ob (by intro z; cases z))]; exact A.go
    se := by rw [upd_ne (ne_of A.se A.ob (by intro z; cases z))]; exact A.se }
end
/-! the dicts -/
theorem gK_inj {p q : Nat × Nat} : gK p = gK q ↔ p = q := by
  unfold gK
  constructor
  · intro h
    have h1 := List.cons.inj h
    have h2 := List.cons.inj h1.2
    have a1 := Sum.inl.inj h1.1
    have a2 := Sum.inl.inj h2.1
    obtain ⟨x, y⟩ := p
    obtain ⟨x', y'⟩ := q
    simp only at a1 a2
    rw [Int.ofNat.inj a1, Int.ofNat.inj a2]
  · rintro rfl; rfl
theorem gone_any (g : List (Nat × Nat)) (p : Nat × Nat) : ((goneKV g).any fun kv => decide (kv.1 = gK p)) = (g.any fun q => decide (q = p)) := by
  induction g with
  | nil => rfl
  | cons q r ih =>
    show (decide (gK q = gK p) || (goneKV r).any fun kv => decide (kv.1 = gK p)) = (decide (q = p) || r.any fun q => decide (q = p))
    rw [ih, decide_eq_decide.mpr gK_inj]
theorem gone_isSome (W : Wk) (s k : Nat) : (valV (goneKV W.gone) (gK (s, k))).isSome = W.went s k := by
  rw [← valV_any, gone_any]; rfl
theorem gone_put (g : List (Nat × Nat)) (p : Nat × Nat) : putK (goneKV g) (gK p) (.bl true) = goneKV (goneAdd g p) := by
  unfold putK goneAdd
  rw [gone_any]
  split
  · have e : ∀ kv ∈ goneKV g, (if kv.1 = gK p then (kv.1, V.bl true) else kv) = kv := by
      intro kv hkv
      obtain ⟨q, _, rfl⟩ := List.mem_map.mp hkv
      split <;> rfl
    rw [List.map_congr_left e, List.map_id']
  · unfold goneKV; rw [List.map_append]; rfl
theorem seen_any (g : List (Nat × Nat)) (u : Nat) : ((seenKV g).any fun kv => decide (kv.1 = (Sum.inl (u : Int) : Key))) = (g.any fun q => decide (q.1 = u)) := by
  induction g with
  | nil => rfl
  | cons q r ih =>
    show (decide ((Sum.inl (q.1 : Int) : Key) = Sum.inl (u : Int)) || (seenKV r).any fun kv => decide (kv.1 = (Sum.inl (u : Int) : Key))) = (decide (q.1 = u) || r.any fun q => decide (q.1 = u))
    have e : ((Sum.inl (q.1 : Int) : Key) = Sum.inl (u : Int)) ↔ (q.1 = u) := by
      constructor
      · intro h; exact Int.ofNat.inj (Sum.inl.inj h)
      · rintro rfl; rfl
    rw [ih, decide_eq_decide.mpr e]
theorem seen_isSome (W : Wk) (u : Nat) : (valV (seenKV W.seen) (Sum.inl (u : Int) : Key)).isSome = W.sees u := by
  rw [← valV_any, seen_any]; rfl
theorem seen_put {g : List (Nat × Nat)} {u n : Nat} (h : (g.any fun q => decide (q.1 = u)) = false) : putK (seenKV g) (Sum.inl (u : Int) : Key) (vN n) = seenKV (g ++ [(u, n)]) := by
  unfold putK
  rw [seen_any, h]
  unfold seenKV
  rw [List.map_append]
  rfl
theorem seen_val (W : Wk) (u : Nat) : valV (seenKV W.seen) (Sum.inl (u : Int) : Key) = (W.seenAt u).map vN := by
  unfold valV Wk.seenAt
  generalize W.seen = g
  induction g with
  | nil => rfl
  | cons q r ih =>
    have e0 : seenKV (q :: r) = ((Sum.inl (q.1 : Int) : Key), vN q.2) :: seenKV r := rfl
    rw [e0, List.find?_cons, List.find?_cons]
    by_cases h : q.1 = u
    · rw [decide_eq_true (by rw [h]), decide_eq_true h]; rfl
    · have h2 : ¬ (Sum.inl (q.1 : Int) : Key) = Sum.inl (u : Int) := fun z => h (Int.ofNat.inj (Sum.inl.inj z))
      rw [decide_eq_false h2, decide_eq_false h]
      exact ih
/-- what the program's top has written of the class Walk and of what its methods read -/
structure TxtW (K : PySem.W.Frag) (mg : Str → Option Value) (C : Addr) : Prop where
  cl : Cls K C
  nG : NoAttr K C "garden"
  nS : NoAttr K C "squares"
  nT : NoAttr K C "thread"
  nO : NoAttr K C "gone"
  nE : NoAttr K C "seen"
  nM : NoAttr K C "must_turn"
  gW : mg "Walk" = some (.ref C)
  SIDES : Cn mg "SIDES" 4
  len : mg "len" = none
  range : mg "range" = none
/-- a garden that can be walked in: its sides lead to squares of its own -/
structure Gd (L : List (List Int)) : Prop where
  lies : Lies L
  closed : ∀ s k, s < wd L * hg L → k < 4 → hasP L s k = true → ∃ t : Nat, t < wd L * hg L ∧ beside (wd L) s k = t
def spWInit (C : Addr) : Sp := fun vs H Q _ => ∃ (p dx ga : Addr) (s : Nat), vs = [.ref p, .ref ga, vN s] ∧ H p = some (.ins C dx []) ∧
  ∀ (H' : Hp) (sa ta goa sea : Addr), WkA C (fun b => if b = p then none else H b) H' p ga dx sa ta goa sea (initM s) → (∀ b o, H b = some o → b ≠ p → H' b = some o) → Q .non H'
def spHere (C : Addr) : Sp := fun vs H Q _ => ∃ (a ga : Addr) (H0 : Hp) (W : Wk), vs = [.ref a] ∧ WkAt C H0 H a ga W ∧ W.thread ≠ [] ∧ Q (vN W.here) H
def spSideTo (CG C : Addr) : Sp := fun vs H Q _ => ∃ (a ga : Addr) (H0 : Hp) (W : Wk) (L : List (List Int)) (o : Nat), vs = [.ref a, vN o] ∧ WkAt C H0 H a ga W ∧ GdAt CG H ga L ∧ Lies L ∧ W.thread ≠ [] ∧ W.here < wd L * hg L ∧ Q (vN (sideTo (hasP L) (wd L) W.here o)) H
def spWayBack (CG C : Addr) : Sp := fun vs H Q _ => ∃ (a ga : Addr) (H0 : Hp) (W : Wk) (L : List (List Int)), vs = [.ref a] ∧ WkAt C H0 H a ga W ∧ GdAt CG H ga L ∧ Lies L ∧ 2 ≤ W.thread.length ∧ W.here < wd L * hg L ∧ Q (vN (sideTo (hasP L) (wd L) W.here W.before)) H
def spNext (CG C : Addr) : Sp := fun vs H Q _ => ∃ (a ga : Addr) (H0 : Hp) (W : Wk) (L : List (List Int)), vs = [.ref a] ∧ WkAt C H0 H a ga W ∧ GdAt CG H ga L ∧ Lies L ∧ W.thread ≠ [] ∧ W.here < wd L * hg L ∧ ∀ H' : Hp, Same H H' → Q (vN (nextSide (hasP L) (wd L) W)) H'
def spStep (CG C : Addr) : Sp := fun vs H Q _ => ∃ (a ga : Addr) (H0 : Hp) (W : Wk) (L : List (List Int)) (k : Nat), vs = [.ref a, vN k] ∧ WkAt C H0 H a ga W ∧ Same H0 H ∧ GdAt CG H0 ga L ∧ Gd L ∧ W.thread ≠ [] ∧ W.here < wd L * hg L ∧ k < 4 ∧ hasP L W.here k = true ∧
  W.squares.length ≤ 100000 ∧ W.thread.length ≤ 100000 ∧ W.gone.length ≤ 100000 ∧ W.seen.length ≤ 100000 ∧ ∀ H' : Hp, Same H0 H' → WkAt C H0 H' a ga (stepM (wd L) W k) → Q .non H'
theorem here_at {W : Wk} (h : W.thread ≠ []) : W.thread[W.thread.length - 1]? = some W.here := by
  have := List.length_pos_iff.mpr h
  rw [Wk.here, List.getLastD_eq_getLast?, List.getLast?_eq_getElem?, List.getElem?_eq_getElem (by omega)]; rfl
theorem before_at {W : Wk} (h : 2 ≤ W.thread.length) : W.thread[W.thread.length - 2]? = some W.before := by
  rw [Wk.before, List.getD_eq_getElem?_getD, List.getElem?_eq_getElem (by omega)]; rfl
theorem find_here {p : Nat → Bool} {i : Nat} (hi : i < 4) (hn : ∀ j, j < i → p j = false) (h : p i = true) : sides.find? p = some i := by
  have : i = 0 ∨ i = 1 ∨ i = 2 ∨ i = 3 := by omega
  rcases this with rfl | rfl | rfl | rfl
  · simp [sides, h]
  · simp [sides, h, hn 0]
  · simp [sides, h, hn 0, hn 1]
  · simp [sides, h, hn 0, hn 1, hn 2]
theorem find_never {p : Nat → Bool} (hn : ∀ j, j < 4 → p j = false) : sides.find? p = none := by simp [sides, hn 0, hn 1, hn 2, hn 3]
section
variable {σ : L2.St} {H : Hp} {ta tb to te td : TE} {D : Ends} {K : PySem.W.Frag} {C a dx : Addr} {fs : List (Str × V)} {y v x z : V} {m : Str} {sp : Sp}
theorem val_meth0 (ho : Val to σ H (.ref a)) (ha : H a = some (.ins C dx fs)) (hn : fs.lookup m = none) (hs : ∀ Q : VK, Q v H → sp [.ref a] H Q E0) : Val (tMeth C m sp [] E0 to tNil) σ H v := fun Q q => ho _ ⟨a, dx, fs, rfl, ha, hn, hs Q q⟩
theorem val_meth1 (ho : Val to σ H (.ref a)) (ha : H a = some (.ins C dx fs)) (hn : fs.lookup m = none) (h1 : Val ta σ H x) (hs : ∀ Q : VK, Q v H → sp [.ref a, x] H Q E0) : Val (tMeth C m sp [] E0 to (tCons ta tNil)) σ H v := fun Q q =>
  ho _ ⟨a, dx, fs, rfl, ha, hn, h1 _ (hs Q q)⟩
theorem val_meth2 (ho : Val to σ H (.ref a)) (ha : H a = some (.ins C dx fs)) (hn : fs.lookup m = none) (h1 : Val ta σ H x) (h2 : Val tb σ H y) (hs : ∀ Q : VK, Q v H → sp [.ref a, x, y] H Q E0) : Val (tMeth C m sp [] E0 to (tCons ta (tCons tb tNil))) σ H v := fun Q q =>
  ho _ ⟨a, dx, fs, rfl, ha, hn, h1 _ (h2 _ (hs Q q))⟩
end
section
variable {P : Program} {w : World} {K : PySem.W.Frag} {mg : Str → Option Value} {base : Heap} {CG C : Addr}
theorem scWInit : FnScope ["self", "garden", "start"] ["self", "garden", "start"] (defScope sWInit) := ⟨rfl, rfl, rfl, by decide +kernel, rfl, by decide +kernel, by decide +kernel⟩
theorem ok_winit {f : Addr} {fd : FuncData} (F : Fun K "__init__" "Walk.__init__" sWInit f fd) (T : TxtW K mg C) : FnOk P w K mg base CX0 1 f fd ["self", "garden", "start"] (spWInit C) := by
  refine F.ok scWInit (fun vs H Q E h => ?_) (fun cdv A outer s H vs Q E hr h => ?_)
  · obtain ⟨p, dx, ga, s, rfl, _⟩ := h
    rfl
  · refine ⟨_, pss_cons (ps_fld (pv 0) (pv 1) rfl)
      (pss_cons (ps_fld (pv 0) (pe_lst (pa_cons (pv 2) pa_nil)) rfl)
      (pss_cons (ps_fld (pv 0) (pe_lst (pa_cons (pv 2) pa_nil)) rfl)
      (pss_cons (ps_fld (pv 0) pe_dnewT rfl)
      (pss_cons (ps_fld (pv 0) (pe_disp (pps_cons (pv 2) pe_int pps_nil) (by rfl) (by rfl) (fun z => by cases z) (by decide)) rfl)
      (pss_one (ps_fld (pv 0) pe_bl rfl)))))), ?_⟩
    obtain ⟨p, dx, ga, s, rfl, hp, k⟩ := h
    refine st_seq (st_fld (val_var rfl) (val_var rfl) hp T.cl T.nG (by show 0 < 1000; decide) ?_)
    dsimp only
    refine ⟨_, rfl, by show 1 ≤ sizeLine; decide, fun sa hsa => ?_⟩
    have psa : p ≠ sa := ne_of_none upd_same hsa
    refine ⟨_, rfl, p, C, dx, _, rfl, by rw [upd_ne psa]; exact upd_same, T.cl, T.nS, by show 1 < 1000; decide, ?_⟩
    refine ⟨_, rfl, by show 1 ≤ sizeLine; decide, fun ta hta => ?_⟩
    have pta : p ≠ ta := ne_of_none upd_same hta
    have sta : sa ≠ ta := fun z => by rw [← z, upd_ne psa.symm, upd_same] at hta; cases hta
    refine ⟨_, rfl, p, C, dx, _, rfl, by rw [upd_ne pta]; exact upd_same, T.cl, T.nT, by show 2 < 1000; decide, ?_⟩
    refine fun goa hgo => ?_
    have pgo : p ≠ goa := ne_of_none upd_same hgo
    have tgo : ta ≠ goa := fun z => by rw [← z, upd_ne pta.symm, upd_same] at hgo; cases hgo
    have sgo : sa ≠ goa := fun z => by rw [← z, upd_ne psa.symm, upd_ne sta, upd_ne psa.symm, upd_same] at hgo; cases hgo
    refine ⟨_, rfl, p, C, dx, _, rfl, by rw [upd_ne pgo]; exact upd_same, T.cl, T.nO, by show 3 < 1000; decide, ?_⟩
    refine fun sea hse => ?_
    have pse : p ≠ sea := ne_of_none upd_same hse
    have gse : goa ≠ sea := fun z => by rw [← z, upd_ne pgo.symm, upd_same] at hse; cases hse
    have tse : ta ≠ sea := fun z => by rw [← z, upd_ne pta.symm, upd_ne tgo, upd_ne pta.symm, upd_same] at hse; cases hse
    have sse : sa ≠ sea := fun z => by rw [← z, upd_ne psa.symm, upd_ne sgo, upd_ne psa.symm, upd_ne sta, upd_ne psa.symm, upd_same] at hse; cases hse
    refine ⟨_, rfl, upd_same, [(Sum.inl (s : Int), vN 0)], rfl, by show 1 ≤ 15; decide, ?_⟩
    refine ⟨_, rfl, p, C, dx, _, rfl, by rw [upd_ne pse, upd_ne pse]; exact upd_same, T.cl, T.nE, by show 4 < 1000; decide, ?_⟩
    refine ⟨_, rfl, p, C, dx, _, rfl, upd_same, T.cl, T.nM, by show 5 < 1000; decide, ?_⟩
    rw [upd_ne (Ne.symm psa)] at hsa
    rw [upd_ne (Ne.symm pta), upd_ne (Ne.symm sta), upd_ne (Ne.symm pta)] at hta
    rw [upd_ne (Ne.symm pgo), upd_ne (Ne.symm tgo), upd_ne (Ne.symm pgo), upd_ne (Ne.symm sgo), upd_ne (Ne.symm pgo)] at hgo
    rw [upd_ne (Ne.symm pse), upd_ne (Ne.symm gse), upd_ne (Ne.symm pse), upd_ne (Ne.symm tse), upd_ne (Ne.symm pse), upd_ne (Ne.symm sse), upd_ne (Ne.symm pse)] at hse
    refine k _ sa ta goa sea
      { ob := by rw [upd_same, wF_new]; rfl
        sq := by rw [upd_ne psa.symm, upd_ne psa.symm, upd_ne sse, upd_ne sse, upd_ne psa.symm, upd_ne sgo, upd_ne psa.symm, upd_ne sta, upd_ne psa.symm, upd_same]; rfl
        th := by rw [upd_ne pta.symm, upd_ne pta.symm, upd_ne tse, upd_ne tse, upd_ne pta.symm, upd_ne tgo, upd_ne pta.symm, upd_same]; rfl
        go := by rw [upd_ne pgo.symm, upd_ne pgo.symm, upd_ne gse, upd_ne gse, upd_ne pgo.symm, upd_same]; rfl
        se := by rw [upd_ne pse.symm, upd_ne pse.symm, upd_same]; rfl
        na := if_pos rfl
        nsq := by rw [if_neg (Ne.symm psa)]; exact hsa
        nth := by rw [if_neg (Ne.symm pta)]; exact hta
        ngo := by rw [if_neg (Ne.symm pgo)]; exact hgo
        nse := by rw [if_neg (Ne.symm pse)]; exact hse
        st := sta } fun b o e hb => ?_
    rw [upd_ne hb, upd_ne hb, upd_ne (ne_of_none e hse), upd_ne (ne_of_none e hse), upd_ne hb, upd_ne (ne_of_none e hgo), upd_ne hb, upd_ne (ne_of_none e hta), upd_ne hb, upd_ne (ne_of_none e hsa), upd_ne hb]
    exact e
theorem scHere : FnScope ["self"] ["self"] (defScope sHere) := ⟨rfl, rfl, rfl, by decide +kernel, rfl, by decide +kernel, by decide +kernel⟩
theorem ok_here {f : Addr} {fd : FuncData} (F : Fun K "here" "Walk.here" sHere f fd) (T : TxtW K mg C) : FnOk P w K mg base CX0 1 f fd ["self"] (spHere C) := by
  refine F.ok scHere (fun vs H Q E h => ?_) (fun cdv A outer s H vs Q E hr h => ?_)
  · obtain ⟨a, ga, H0, W, rfl, _⟩ := h
    rfl
  · refine ⟨_, pss_one (ps_ret (pe_ix ix_list (pe_fld (pv 0) rfl) (pe_op op_sub (pe_callB call_len_seq (by rfl) T.len PySem.boot_len (pa_cons (pe_fld (pv 0) rfl) pa_nil)) pe_int) (fun _ _ => rfl))), ?_⟩
    obtain ⟨a, ga, H0, W, rfl, ⟨dx, sa, ta, goa, sea, A⟩, hne, q⟩ := h
    have hl := List.length_pos_iff.mpr hne
    have vt := val_fld (σ := start ["self"] [V.ref a]) (ta := tVar 0) (val_var rfl) A.ob T.cl T.nT wF_thread
    exact st_ret (val_ix (n := W.thread.length - 1) vt (val_sub (val_len vt (SqL.of A.th)) val_c) (SqL.of A.th) (by rw [List.length_map]; omega) (map_at (here_at hne))) q
theorem scSideTo : FnScope ["self", "other", "side"] ["self", "other"] (defScope sSideTo) := ⟨rfl, rfl, rfl, by decide +kernel, rfl, by decide +kernel, by decide +kernel⟩
/-- the methods that are called on the way -/
structure MethsG (P : Program) (w : World) (K : PySem.W.Frag) (mg : Str → Option Value) (base : Heap) (CG : Addr) : Prop where
  cl : Cls K CG
  has : ∃ f fd, Meth K CG "has_passage" f ∧ Binds K fd ["self", "square", "side"] [] ∧ FnOk P w K mg base CX0 1 f fd ["self", "square", "side"] (spHas CG)
  beside : ∃ f fd, Meth K CG "beside" f ∧ Binds K fd ["self", "square", "side"] [] ∧ FnOk P w K mg base CX0 1 f fd ["self", "square", "side"] (spBeside CG)
theorem ok_sideTo {f fh : Addr} {fd fdh : FuncData} (F : Fun K "side_to" "Walk.side_to" sSideTo f fd) (T : TxtW K mg C) (M : MethsG P w K mg base CG) (mh : Meth K C "here" fh) (bh : Binds K fdh ["self"] []) (Gh : FnOk P w K mg base CX0 1 fh fdh ["self"] (spHere C)) :
    FnOk P w K mg base CX0 2 f fd ["self", "other"] (spSideTo CG C) := by
  obtain ⟨f1, fd1, m1, b1, G1⟩ := M.has
  obtain ⟨f2, fd2, m2, b2, G2⟩ := M.beside
  refine F.ok scSideTo (fun vs H Q E h => ?_) (fun cdv A outer s H vs Q E hr h => ?_)
  · obtain ⟨a, ga, H0, W, L, o, rfl, _⟩ := h
    rfl
  · refine ⟨_, pss_cons (ps_for PassesOwn.never rfl (pi_range1 rfl T.range (pa_cons (pe_cn T.SIDES) pa_nil)) (pg_name (i := 2) scSideTo.nd rfl (Or.inl rfl))
        (pss_one (ps_if (PW.pt (pw_and (pt_val (pe_meth (pe_fld (pv 0) rfl) M.cl m1 G1 hr b1 .nil pass0 (pa_cons (pe_meth0 (pv 0) T.cl mh Gh hr bh .nil pass0) (pa_cons (pv 2) pa_nil))))
          (pw_and1 (pt_cmpR op_eq (pe_meth (pe_fld (pv 0) rfl) M.cl m2 G2 hr b2 .nil pass0 (pa_cons (pe_meth0 (pv 0) T.cl mh Gh hr bh .nil pass0) (pa_cons (pv 2) pa_nil))) (pv 1) (nomark _)))))
          (pss_one (ps_ret (pv 2))) pss_nil)))
      (pss_one (ps_ret (pe_cn T.SIDES))), ?_⟩
    obtain ⟨a, ga, H0, W, L, o, rfl, hW, hG, hL, hne, hh, q⟩ := h
    have hW2 := hW
    obtain ⟨dx, sa, ta, goa, sea, A⟩ := hW2
    have hG2 := hG
    obtain ⟨dg, la, hga, _⟩ := hG2
    refine st_seq (st_rng (n := 4) val_c (by decide) (fun i σ H' => H' = H ∧ (∃ v, σ = [some (.ref a), some (vN o), v]) ∧ ∀ j, j < i → (hasP L W.here j && decide (beside (wd L) W.here j = (o : Int))) = false) ⟨rfl, ⟨none, rfl⟩, fun j hj => absurd hj (by omega)⟩ ?_ ?_)
    · rintro i σ H' hi ⟨rfl, ⟨v, rfl⟩, inv⟩
      have vh : Val (tMeth C "here" (spHere C) [] E0 (tVar 0) tNil) [some (V.ref a), some (vN o), some (vN i)] H' (vN W.here) := val_meth0 (val_var rfl) A.ob (wF_no (by decide +kernel)) fun Q q => ⟨a, ga, H0, W, rfl, hW, hne, q⟩
      have vg : Val (tFld K (tVar 0) "garden") [some (V.ref a), some (vN o), some (vN i)] H' (.ref ga) := val_fld (val_var rfl) A.ob T.cl T.nG wF_garden
      refine st_ifs (ans_and2 (ans_B (val_meth2 (v := .bl (hasP L W.here i)) vg hga (gF_no (by decide +kernel) (by decide +kernel) (by decide +kernel)) vh (val_var rfl) fun Q q => ⟨ga, L, W.here, i, rfl, hG, hL, hh, hi, q⟩))
        (val_test (val_eq (val_meth2 (v := .int (beside (wd L) W.here i)) vg hga (gF_no (by decide +kernel) (by decide +kernel) (by decide +kernel)) vh (val_var rfl) fun Q q => ⟨ga, L, W.here, i, rfl, hG, hi, q⟩) (val_var rfl)))) (fun c => ?_) fun c => ?_
      · refine st_ret (val_var rfl) ?_
        have e : sideTo (hasP L) (wd L) W.here o = i := by
          unfold sideTo; rw [find_here hi inv c]; rfl
        rw [e] at q; exact q
      · refine st_next ⟨rfl, ⟨_, rfl⟩, fun j hj => ?_⟩
        by_cases hji : j = i
        · rw [hji]; exact c
        · exact inv j (by omega)
    · rintro σ H' ⟨rfl, ⟨v, rfl⟩, inv⟩
      dsimp only
      refine st_ret val_c ?_
      have e : sideTo (hasP L) (wd L) W.here o = 4 := by
        unfold sideTo; rw [find_never inv]; rfl
      rw [e] at q; exact q
theorem scWayBack : FnScope ["self", "before"] ["self"] (defScope sWayBack) := ⟨rfl, rfl, rfl, by decide +kernel, rfl, by decide +kernel, by decide +kernel⟩
theorem ok_wayBack {f fs : Addr} {fd fds : FuncData} (F : Fun K "way_back" "Walk.way_back" sWayBack f fd) (T : TxtW K mg C) (ms : Meth K C "side_to" fs) (bs : Binds K fds ["self", "other"] []) (Gs : FnOk P w K mg base CX0 2 fs fds ["self", "other"] (spSideTo CG C)) :
    FnOk P w K mg base CX0 3 f fd ["self"] (spWayBack CG C) := by
  refine F.ok scWayBack (fun vs H Q E h => ?_) (fun cdv A outer s H vs Q E hr h => ?_)
  · obtain ⟨a, ga, H0, W, L, rfl, _⟩ := h
    rfl
  · refine ⟨_, pss_cons (ps_set (i := 1) scWayBack.nd rfl (Or.inl rfl) (pe_ix ix_list (pe_fld (pv 0) rfl) (pe_op op_sub (pe_callB call_len_seq (by rfl) T.len PySem.boot_len (pa_cons (pe_fld (pv 0) rfl) pa_nil)) pe_int) (fun _ _ => rfl)))
      (pss_one (ps_ret (pe_meth (pv 0) T.cl ms Gs hr bs .nil pass0 (pa_cons (pv 1) pa_nil)))), ?_⟩
    obtain ⟨a, ga, H0, W, L, rfl, hW, hG, hL, hl, hh, q⟩ := h
    have hW2 := hW
    obtain ⟨dx, sa, ta, goa, sea, A⟩ := hW2
    have vt := val_fld (σ := start ["self", "before"] [V.ref a]) (ta := tVar 0) (val_var rfl) A.ob T.cl T.nT wF_thread
    refine st_seq (st_set (val_ix (n := W.thread.length - 2) vt (val_sub (val_len vt (SqL.of A.th)) val_c) (SqL.of A.th) (by rw [List.length_map]; omega) (map_at (before_at hl))) ?_)
    dsimp only
    exact st_ret (val_meth1 (val_var rfl) A.ob (wF_no (by decide +kernel)) (val_var rfl) fun Q q => ⟨a, ga, H0, W, L, W.before, rfl, hW, hG, hL, (fun z => by rw [z] at hl; simp at hl), hh, q⟩) q
end
end Tw

/-! ### A walk goes on -/
namespace Tw
open PySem PySem.Spec PyProof.Rows L2
open PySem.W (Codec)
theorem st_dputT {σ : L2.St} {H : Hp} {td ta tb tv : TE} {D : Ends} {d : Addr} {kvs : List (List Key × V)} {p : Nat × Nat} {y : V} (hv : Val tv σ H y) (hd : Val td σ H (.ref d)) (h1 : Val ta σ H (vN p.1)) (h2 : Val tb σ H (vN p.2)) (he : H d = some (.dT kvs)) (hl : kvs.length < sizeLine)
    (q : ∀ b, H b = none → D.nx σ (upd (upd H b (.tup [vN p.1, vN p.2])) d (.dT (putK kvs (gK p) y)))) : sDPut td (tTup (tCons ta (tCons tb tNil))) tv D σ H := by
  refine hv _ ?_
  refine hd _ ?_
  refine h1 _ ?_
  refine h2 _ ?_
  refine ⟨by show 2 ≤ sizeLine; decide, fun b hb => ⟨d, _, rfl, DPut.t (k := gK p) (by rw [upd_ne (ne_of_none he hb)]; exact he) upd_same hl, q b hb⟩⟩
section
variable {P : Program} {w : World} {K : PySem.W.Frag} {mg : Str → Option Value} {base : Heap} {CG C : Addr}
theorem scNext : FnScope ["self", "side"] ["self"] (defScope sNext) := ⟨rfl, rfl, rfl, by decide +kernel, rfl, by decide +kernel, by decide +kernel⟩
theorem ok_next {f fh fb : Addr} {fd fdh fdb : FuncData} (F : Fun K "next_side" "Walk.next_side" sNext f fd) (T : TxtW K mg C) (M : MethsG P w K mg base CG) (mh : Meth K C "here" fh) (bh : Binds K fdh ["self"] []) (Gh : FnOk P w K mg base CX0 1 fh fdh ["self"] (spHere C))
    (mb : Meth K C "way_back" fb) (bb : Binds K fdb ["self"] []) (Gb : FnOk P w K mg base CX0 3 fb fdb ["self"] (spWayBack CG C)) : FnOk P w K mg base CX0 4 f fd ["self"] (spNext CG C) := by
  obtain ⟨f1, fd1, m1, b1, G1⟩ := M.has
  refine F.ok scNext (fun vs H Q E h => ?_) (fun cdv A outer s H vs Q E hr h => ?_)
  · obtain ⟨a, ga, H0, W, L, rfl, _⟩ := h
    rfl
  · have hu := hu_of hr
    have hr1 : Room 1 _ := hr.mono (by decide)
    refine ⟨_, pss_cons (ps_if (pt_not (pt_val (pe_fld (pv 0) rfl)))
        (pss_one (ps_for PassesOwn.never rfl (pi_range1 rfl T.range (pa_cons (pe_cn T.SIDES) pa_nil)) (pg_name (i := 1) scNext.nd rfl (Or.inl rfl))
          (pss_one (ps_if (PW.pt (pw_and (pt_val (pe_meth (pe_fld (pv 0) rfl) M.cl m1 G1 hr1 b1 .nil pass0 (pa_cons (pe_meth0 (pv 0) T.cl mh Gh hr1 bh .nil pass0) (pa_cons (pv 1) pa_nil))))
            (pw_and1 (pt_cmp (pc_dnotin hu (pe_tup (pa_cons (pe_meth0 (pv 0) T.cl mh Gh hr1 bh .nil pass0) (pa_cons (pv 1) pa_nil))) (pe_fld (pv 0) rfl))))))
            (pss_one (ps_ret (pv 1))) pss_nil)))) pss_nil)
      (pss_cons (ps_if (pt_cmpR op_eq (pe_callB call_len_seq (by rfl) T.len PySem.boot_len (pa_cons (pe_fld (pv 0) rfl) pa_nil)) pe_int (nomark _)) (pss_one (ps_ret (pe_cn T.SIDES))) pss_nil)
      (pss_one (ps_ret (pe_meth0 (pv 0) T.cl mb Gb hr bb .nil pass0)))), ?_⟩
    obtain ⟨a, ga, H0, W, L, rfl, hW, hG, hL, hne, hh, q⟩ := h
    have hW2 := hW
    obtain ⟨dx, sa, ta, goa, sea, A⟩ := hW2
    -- behind the loop: at the thread's end, or back
    have tail : ∀ (v : Option V) (H' : Hp), Same H H' → (if W.turn = true then none else freshM (hasP L) W) = none →
        tSeq (tIfS (tTest (tOp rEq (tCB (fun xs H Q => ∃ p ys, xs = [.ref p] ∧ (SqL K H p ys ∨ SqT K H p ys) ∧ Q (.int ys.length) H) (tCons (tFld K (tVar 0) "thread") tNil)) (tC (.int 1)))) (tRet (tC (.int 4))) tNext)
          (tRet (tMeth C "way_back" (spWayBack CG C) [] E0 (tVar 0) tNil)) { nx := fun _ H' => Q .non H', rt := Q } [some (V.ref a), v] H' := by
      intro v H' s1 hf
      have hW' := hW.same s1
      have A' := A.same s1
      have vt := val_fld (σ := [some (V.ref a), v]) (ta := tVar 0) (val_var rfl) A'.ob T.cl T.nT wF_thread
      have q1 := q H' s1
      unfold nextSide at q1
      rw [hf] at q1
      dsimp only at q1
      have vl := val_len (K := K) vt (SqL.of A'.th)
      rw [List.length_map] at vl
      refine st_seq (st_ifs (val_test (val_eq vl val_c)) (fun c => ?_) fun c => ?_)
      · have hc := of_decide_eq_true c
        rw [if_pos (by omega)] at q1
        exact st_ret val_c q1
      · have hc := of_decide_eq_false c
        have hp := List.length_pos_iff.mpr hne
        rw [if_neg (by omega)] at q1
        refine st_next (st_ret (val_meth0 (val_var rfl) A'.ob (wF_no (by decide +kernel)) fun Q q => ⟨a, ga, H0, W, L, rfl, hW', hG.same s1, hL, by omega, hh, q⟩) q1)
    have vtu : Val (tFld K (tVar 0) "must_turn") (start ["self", "side"] [V.ref a]) H (.bl W.turn) := val_fld (val_var rfl) A.ob T.cl T.nM wF_turn
    refine st_seq (st_ifs (ans_not (ans_B vtu)) (fun ct => ?_) fun ct => ?_)
    · rw [Bool.not_eq_true'] at ct
      have eN : (if W.turn = true then none else freshM (hasP L) W) = freshM (hasP L) W := by rw [ct]; rfl
      refine st_rng (n := 4) val_c (by decide) (fun i σ H' => Same H H' ∧ (∃ v, σ = [some (.ref a), v]) ∧ ∀ j, j < i → (hasP L W.here j && !W.went W.here j) = false) ⟨fun _ _ e => e, ⟨none, rfl⟩, fun j hj => absurd hj (by omega)⟩ ?_ ?_
      · rintro i σ H' hi ⟨s1, ⟨v, rfl⟩, inv⟩
        have hW' := hW.same s1
        have A' := A.same s1
        have hG' := hG.same s1
        have hG2 := hG'
        obtain ⟨dg, la, hga, _⟩ := hG2
        have vh : Val (tMeth C "here" (spHere C) [] E0 (tVar 0) tNil) [some (V.ref a), some (vN i)] H' (vN W.here) := val_meth0 (val_var rfl) A'.ob (wF_no (by decide +kernel)) fun Q q => ⟨a, ga, H0, W, rfl, hW', hne, q⟩
        have vg : Val (tFld K (tVar 0) "garden") [some (V.ref a), some (vN i)] H' (.ref ga) := val_fld (val_var rfl) A'.ob T.cl T.nG wF_garden
        have ah : Ans (tB (tMeth CG "has_passage" (spHas CG) [] E0 (tFld K (tVar 0) "garden") (tCons (tMeth C "here" (spHere C) [] E0 (tVar 0) tNil) (tCons (tVar 1) tNil)))) [some (V.ref a), some (vN i)] H' (hasP L W.here i) :=
          ans_B (val_meth2 (v := .bl (hasP L W.here i)) vg hga (gF_no (by decide +kernel) (by decide +kernel) (by decide +kernel)) vh (val_var rfl) fun Q q => ⟨ga, L, W.here, i, rfl, hG', hL, hh, hi, q⟩)
        refine ah _ ?_
        cases hp : hasP L W.here i with
        | false =>
          refine iteF (iteF ⟨s1, ⟨_, rfl⟩, fun j hj => ?_⟩)
          by_cases hji : j = i
          · rw [hji, hp]; rfl
          · exact inv j (by omega)
        | true =>
          refine iteT ?_
          refine vh _ ⟨_, rfl, by show 2 ≤ sizeLine; decide, fun p hp0 => ?_⟩
          have s2 : Same H' (upd H' p (.tup [vN W.here, vN i])) := same_new hp0
          have A2 := A'.same s2
          refine ⟨_, rfl, a, C, dx, _, _, rfl, A2.ob, T.cl, T.nO, wF_gone, goa, _, rfl, DGet.t (k := gK (W.here, i)) A2.go upd_same, _, rfl, ?_⟩
          rw [gone_isSome]
          cases hw : W.went W.here i with
          | true =>
            refine iteF ⟨s1.trans s2, ⟨_, rfl⟩, fun j hj => ?_⟩
            by_cases hji : j = i
            · rw [hji, hp, hw]; rfl
            · exact inv j (by omega)
          | false =>
            refine iteT (st_ret (val_var rfl) ?_)
            have q1 := q _ (s1.trans s2)
            have ef : freshM (hasP L) W = some i := by
              unfold freshM
              exact find_here hi inv (by rw [hp, hw]; rfl)
            unfold nextSide at q1
            rw [eN, ef] at q1
            exact q1
      · rintro σ H' ⟨s1, ⟨v, rfl⟩, inv⟩
        refine tail v H' s1 ?_
        rw [eN]
        unfold freshM
        exact find_never inv
    · rw [Bool.not_eq_false'] at ct
      exact st_next (tail none H (fun _ _ e => e) (by rw [if_pos ct]))
theorem scStep : FnScope ["self", "side", "here", "there"] ["self", "side"] (defScope sStep) := ⟨rfl, rfl, rfl, by decide +kernel, rfl, by decide +kernel, by decide +kernel⟩
theorem ok_step {f fh : Addr} {fd fdh : FuncData} (F : Fun K "step" "Walk.step" sStep f fd) (T : TxtW K mg C) (M : MethsG P w K mg base CG) (mh : Meth K C "here" fh) (bh : Binds K fdh ["self"] []) (Gh : FnOk P w K mg base CX0 1 fh fdh ["self"] (spHere C)) :
    FnOk P w K mg base CX0 2 f fd ["self", "side"] (spStep CG C) := by
  obtain ⟨f2, fd2, m2, b2, G2⟩ := M.beside
  refine F.ok scStep (fun vs H Q E h => ?_) (fun cdv A outer s H vs Q E hr h => ?_)
  · obtain ⟨a, ga, H0, W, L, k, rfl, _⟩ := h
    rfl
  · have hu := hu_of hr
    refine ⟨_, pss_cons (ps_set (i := 2) scStep.nd rfl (Or.inl rfl) (pe_meth0 (pv 0) T.cl mh Gh hr bh .nil pass0))
      (pss_cons (ps_set (i := 3) scStep.nd rfl (Or.inl rfl) (pe_meth (pe_fld (pv 0) rfl) M.cl m2 G2 hr b2 .nil pass0 (pa_cons (pv 2) (pa_cons (pv 1) pa_nil))))
      (pss_cons (ps_if (pt_cmp (pc_din hu (pe_tup (pa_cons (pv 2) (pa_cons (pv 1) pa_nil))) (pe_fld (pv 0) rfl)))
        (pss_cons (ps_expr (pe_bm0 PySem.F.plainAttrs_list PySem.F.slot_list_pop PySem.F.type_list_pop mt_pop (pe_fld (pv 0) rfl))) (pss_one (ps_fld (pv 0) pe_bl rfl)))
        (pss_cons (ps_dput hu (pe_fld (pv 0) rfl) (pe_tup (pa_cons (pv 2) (pa_cons (pv 1) pa_nil))) pe_bl rfl)
        (pss_cons (ps_dput hu (pe_fld (pv 0) rfl) (pe_tup (pa_cons (pv 3) (pa_cons (pe_op op_mod (pe_op op_add (pv 1) pe_int) (pe_cn T.SIDES)) pa_nil))) pe_bl rfl)
        (pss_cons (ps_expr (pe_bm PySem.F.plainAttrs_list PySem.F.slot_list_append PySem.F.type_list_append mt_append (pe_fld (pv 0) rfl) (pa_cons (pv 3) pa_nil)))
        (pss_one (ps_fld (pv 0) (pe_cmp (pc_din hu (pv 3) (pe_fld (pv 0) rfl)) rfl) rfl))))))
      (pss_cons (ps_expr (pe_bm PySem.F.plainAttrs_list PySem.F.slot_list_append PySem.F.type_list_append mt_append (pe_fld (pv 0) rfl) (pa_cons (pv 3) pa_nil)))
      (pss_one (ps_if (pt_cmp (pc_dnotin hu (pv 3) (pe_fld (pv 0) rfl)))
        (pss_one (ps_dput hu (pe_fld (pv 0) rfl) (pv 3) (pe_op op_sub (pe_callB call_len_seq (by rfl) T.len PySem.boot_len (pa_cons (pe_fld (pv 0) rfl) pa_nil)) pe_int) rfl)) pss_nil))))), ?_⟩
    obtain ⟨a, ga, H0, W, L, k, rfl, hW, s0, hG0, hGd, hne, hh, hk, hp, z1, z2, z3, z4, q⟩ := h
    obtain ⟨t, tlt, ht⟩ := hGd.closed _ _ hh hk hp
    have eth : (beside (wd L) W.here k).toNat = t := by rw [ht]; rfl
    have hG := hG0.same s0
    have hW2 := hW
    obtain ⟨dx, sa, ta, goa, sea, A⟩ := hW2
    have hG2 := hG
    obtain ⟨dg, la, hga, _⟩ := hG2
    refine st_seq (st_set (v := vN W.here) (val_meth0 (val_var rfl) A.ob (wF_no (by decide +kernel)) fun Q q => ⟨a, ga, H0, W, rfl, hW, hne, q⟩) ?_)
    dsimp only
    refine st_seq (st_set (v := vN t) (val_meth2 (val_fld (val_var rfl) A.ob T.cl T.nG wF_garden) hga (gF_no (by decide +kernel) (by decide +kernel) (by decide +kernel)) (val_var rfl) (val_var rfl) fun Q q => ⟨ga, L, W.here, k, rfl, hG, hk, by rw [ht]; exact q⟩) ?_)
    dsimp only
    have eσ : ((start ["self", "side", "here", "there"] [V.ref a, vN k]).set 2 (some (vN W.here))).set 3 (some (vN t)) = [some (V.ref a), some (vN k), some (vN W.here), some (vN t)] := rfl
    rw [eσ]
    -- what stands behind the test: the square, and when it was first come to
    have tail : ∀ (H1 : Hp) (W1 : Wk), Same H0 H1 → WkA C H0 H1 a ga dx sa ta goa sea W1 → W1.squares = W.squares → W1.seen = W.seen →
        (∀ H' : Hp, Same H0 H' → WkAt C H0 H' a ga { W1 with squares := W.squares ++ [t], seen := if W.sees t = true then W.seen else W.seen ++ [(t, W.squares.length)] } → Q .non H') →
        tSeq (tDrop (tBM K "list" rAppend (tFld K (tVar 0) "squares") (tCons (tVar 3) tNil)))
          (tIfS (tB (tDNotIn (tVar 3) (tFld K (tVar 0) "seen"))) (sDPut (tFld K (tVar 0) "seen") (tVar 3) (tOp (rI0 fun i j => .int (i - j)) (tCB (fun xs H Q => ∃ p ys, xs = [.ref p] ∧ (SqL K H p ys ∨ SqT K H p ys) ∧ Q (.int ys.length) H) (tCons (tFld K (tVar 0) "squares") tNil)) (tC (.int 1)))) tNext)
          { nx := fun _ H' => Q .non H', rt := Q } [some (V.ref a), some (vN k), some (vN W.here), some (vN t)] H1 := by
      intro H1 W1 s1 A1 esq ese q1
      have z5 : (vNs W1.squares).length < 1000000 := by rw [List.length_map, esq]; omega
      refine st_seq (st_app (val_fld (val_var rfl) A1.ob T.cl T.nS wF_squares) (val_var rfl) A1.sq z5 ?_)
      have e1 : vNs W1.squares ++ [vN t] = vNs (W1.squares ++ [t]) := by simp
      rw [e1]
      have A2 := A1.squaresTo (W1.squares ++ [t])
      have s2 : Same H0 (upd H1 sa (.lst (vNs (W1.squares ++ [t])))) := same_mut s1 A1.nsq
      dsimp only
      refine ⟨_, rfl, _, rfl, a, C, dx, _, _, rfl, A2.ob, T.cl, T.nE, wF_seen, sea, _, rfl, DGet.k (k := (Sum.inl (t : Int) : Key)) A2.se, _, rfl, ?_⟩
      rw [seen_isSome]
      have es : ({ W1 with squares := W1.squares ++ [t] } : Wk).sees t = W.sees t := by unfold Wk.sees; rw [ese]
      rw [es]
      cases hs : W.sees t with
      | true =>
        refine iteF ?_
        refine q1 _ s2 ⟨dx, sa, ta, goa, sea, ?_⟩
        rw [if_pos hs, ← esq, ← ese]
        exact A2
      | false =>
        refine iteT ?_
        refine val_sub (val_len (val_fld (val_var rfl) A2.ob T.cl T.nS wF_squares) (SqL.of A2.sq)) val_c _ ?_
        refine ⟨_, rfl, a, C, dx, _, _, rfl, A2.ob, T.cl, T.nE, wF_seen, _, rfl, sea, _, rfl, DPut.k (k := (Sum.inl (t : Int) : Key)) A2.se (by
          rw [seenKV, List.length_map]
          show W1.seen.length < sizeLine
          rw [ese]; exact Nat.lt_of_le_of_lt z4 (by decide)), ?_⟩
        have en : (V.int (((vNs ({ W1 with squares := W1.squares ++ [t] } : Wk).squares).length : Int) - 1)) = vN W.squares.length := by
          rw [List.length_map]
          show V.int (((W1.squares ++ [t]).length : Int) - 1) = _
          rw [List.length_append, esq]
          show V.int (((W.squares.length + 1 : Nat) : Int) - 1) = V.int (W.squares.length : Int)
          congr 1; omega
        rw [en]
        have hs2 : (W1.seen.any fun q => decide (q.1 = t)) = false := by rw [ese]; exact hs
        have ep : putK (seenKV ({ W1 with squares := W1.squares ++ [t] } : Wk).seen) (Sum.inl (t : Int) : Key) (vN W.squares.length) = seenKV (W1.seen ++ [(t, W.squares.length)]) := seen_put hs2
        rw [ep]
        have A3 := A2.seenTo (W1.seen ++ [(t, W.squares.length)])
        refine q1 _ (same_mut s2 A1.nse) ⟨dx, sa, ta, goa, sea, ?_⟩
        rw [if_neg (by rw [hs]; decide), ← esq, ← ese]
        rw [← esq] at A3
        exact A3
    refine st_seq ?_
    refine ⟨_, rfl, _, rfl, by show 2 ≤ sizeLine; decide, fun p hp0 => ?_⟩
    have sp0 : Same H (upd H p (.tup [vN W.here, vN k])) := same_new hp0
    have A1 := A.same sp0
    refine ⟨_, rfl, a, C, dx, _, _, rfl, A1.ob, T.cl, T.nO, wF_gone, goa, _, rfl, DGet.t (k := gK (W.here, k)) A1.go upd_same, _, rfl, ?_⟩
    rw [gone_isSome]
    have s1 : Same H0 (upd H p (.tup [vN W.here, vN k])) := s0.trans sp0
    generalize hH1 : upd H p (.tup [vN W.here, vN k]) = H1 at A1 s1 ⊢
    cases hw : W.went W.here k with
    | true =>
      refine iteT (st_seq ?_)
      have eS : stepM (wd L) W k = ⟨W.squares ++ [t], W.thread.dropLast, W.gone, if W.sees t = true then W.seen else W.seen ++ [(t, W.squares.length)], false⟩ := by
        unfold stepM; rw [eth, if_pos hw]
      have hlast : (vNs W.thread)[(vNs W.thread).length - 1]? = some (vN W.here) := by
        rw [List.length_map]; exact map_at (here_at hne)
      refine ⟨_, rfl, a, C, dx, _, _, rfl, A1.ob, T.cl, T.nT, wF_thread, .inl ⟨rfl, _, SqL.of A1.th⟩, ta, _, vN W.here, rfl, rfl, A1.th, hlast, ?_⟩
      have e1 : (vNs W.thread).dropLast = vNs W.thread.dropLast := by simp [vNs]
      rw [e1]
      have A2 := A1.threadTo W.thread.dropLast
      refine st_fld val_c (val_var rfl) A2.ob T.cl T.nM (by show 6 < 1000; decide) ?_
      have A3 := A2.turnTo false
      refine tail _ _ (same_mut (same_mut s1 A.nth) A.na) A3 rfl rfl fun H' s' hW' => q H' s' ?_
      rw [eS]; exact hW'
    | false =>
      refine iteF (st_seq ?_)
      have eS : stepM (wd L) W k = ⟨W.squares ++ [t], W.thread ++ [t], goneAdd (goneAdd W.gone (W.here, k)) (t, (k + 2) % 4), if W.sees t = true then W.seen else W.seen ++ [(t, W.squares.length)], W.sees t⟩ := by
        unfold stepM; rw [eth, if_neg (by rw [hw]; decide)]
      have gl : ∀ g : List (Nat × Nat), g.length ≤ 100001 → (goneKV g).length < sizeLine := fun g hg => by
        rw [goneKV, List.length_map]; exact Nat.lt_of_le_of_lt hg (by decide)
      -- self.gone[(here, side)] = True
      refine st_dputT (p := (W.here, k)) val_c (val_fld (val_var rfl) A1.ob T.cl T.nO wF_gone) (val_var rfl) (val_var rfl) A1.go (gl _ (by omega)) fun p1 hp1 => ?_
      have sq1 : Same H1 (upd H1 p1 (.tup [vN W.here, vN k])) := same_new hp1
      have A2 := A1.same sq1
      rw [gone_put]
      have A3 := A2.goneTo (goneAdd W.gone (W.here, k))
      have s3 : Same H0 (upd (upd H1 p1 (.tup [vN W.here, vN k])) goa (.dT (goneKV (goneAdd W.gone (W.here, k))))) := same_mut (s1.trans sq1) A.ngo
      generalize hH3 : upd (upd H1 p1 (.tup [vN W.here, vN k])) goa (.dT (goneKV (goneAdd W.gone (W.here, k)))) = H3 at A3 s3 ⊢
      -- self.gone[(there, (side + 2) % SIDES)] = True
      have ek : (((k : Int) + 2) % 4) = (((k + 2) % 4 : Nat) : Int) := by omega
      have vk : Val (tOp (rI (fun _ j => 0 < j) fun i j => .int (i % j)) (tOp (rI0 fun i j => .int (i + j)) (tVar 1) (tC (.int 2))) (tC (.int 4))) [some (V.ref a), some (vN k), some (vN W.here), some (vN t)] H3 (vN ((k + 2) % 4)) := by
        have q := val_mod (val_add (val_var (σ := [some (V.ref a), some (vN k), some (vN W.here), some (vN t)]) (H := H3) (i := 1) rfl) (val_c (v := .int 2))) (val_c (v := .int 4)) (by decide)
        rw [ek] at q
        exact q
      have g1 := goneAdd_len (g := W.gone) (p := (W.here, k))
      dsimp only
      refine st_seq (st_dputT (p := (t, (k + 2) % 4)) val_c (val_fld (val_var rfl) A3.ob T.cl T.nO wF_gone) (val_var rfl) vk A3.go (gl _ (by show (goneAdd W.gone (W.here, k)).length ≤ 100001; omega)) fun p2 hp2 => ?_)
      have sq2 : Same H3 (upd H3 p2 (.tup [vN t, vN ((k + 2) % 4)])) := same_new hp2
      have A4 := A3.same sq2
      dsimp only
      rw [gone_put]
      have A5 := A4.goneTo (goneAdd (goneAdd W.gone (W.here, k)) (t, (k + 2) % 4))
      have s5 : Same H0 (upd (upd H3 p2 (.tup [vN t, vN ((k + 2) % 4)])) goa (.dT (goneKV (goneAdd (goneAdd W.gone (W.here, k)) (t, (k + 2) % 4))))) := same_mut (s3.trans sq2) A.ngo
      generalize hH5 : upd (upd H3 p2 (.tup [vN t, vN ((k + 2) % 4)])) goa (.dT (goneKV (goneAdd (goneAdd W.gone (W.here, k)) (t, (k + 2) % 4)))) = H5 at A5 s5 ⊢
      -- self.thread.append(there)
      refine st_seq (st_app (val_fld (val_var rfl) A5.ob T.cl T.nT wF_thread) (val_var rfl) A5.th (by rw [List.length_map]; show W.thread.length < 1000000; omega) ?_)
      have e1 : vNs W.thread ++ [vN t] = vNs (W.thread ++ [t]) := by simp
      have A6 := A5.threadTo (W.thread ++ [t])
      have s6 : Same H0 (upd H5 ta (.lst (vNs (W.thread ++ [t])))) := same_mut s5 A.nth
      rw [← e1] at A6 s6
      -- self.must_turn = there in self.seen
      dsimp only
      refine ⟨_, rfl, _, rfl, a, C, dx, _, _, rfl, A6.ob, T.cl, T.nE, wF_seen, sea, _, rfl, DGet.k (k := (Sum.inl (t : Int) : Key)) A6.se, ?_⟩
      rw [seen_isSome]
      refine ⟨_, rfl, a, C, dx, _, rfl, A6.ob, T.cl, T.nM, (by show 6 < 1000; decide), ?_⟩
      have A7 := A6.turnTo (W.sees t)
      refine tail _ _ (same_mut s6 A.na) A7 rfl rfl fun H' s' hW' => q H' s' ?_
      rw [eS]; exact hW'
end
end Tw

/-! ### The walk after so many steps -/
namespace Tw
open PySem PySem.Spec PyProof.Rows L2
open PySem.W (Codec)
/-- q squares, n steps -/
structure WOk (q n : Nat) (W : Wk) : Prop where
  ne : W.thread ≠ []
  lt : ∀ x ∈ W.thread, x < q
  sq : W.squares.length = n + 1
  th : W.thread.length ≤ n + 1
  go : W.gone.length ≤ 2 * n
  se : W.seen.length ≤ n + 1
theorem WOk.init {q s : Nat} (h : s < q) : WOk q 0 (initM s) := ⟨by simp [initM], fun x hx => by simp [initM] at hx; omega, rfl, Nat.le_refl _, Nat.le_refl _, Nat.le_refl _⟩
theorem WOk.here {q n : Nat} {W : Wk} (h : WOk q n W) : W.here < q := h.lt _ (List.mem_of_getElem? (here_at h.ne))
theorem next_has {hp : Nat → Nat → Bool} {w : Nat} {W : Wk} (h : nextSide hp w W < 4) : hp W.here (nextSide hp w W) = true ∧ (W.went W.here (nextSide hp w W) = true → ¬ W.thread.length = 1) := by
  have sd : ∀ o, sideTo hp w W.here o < 4 → hp W.here (sideTo hp w W.here o) = true := fun o ho => by
    unfold sideTo at ho ⊢
    cases hf : sides.find? fun k => hp W.here k && decide (beside w W.here k = (o : Int)) with
    | none => rw [hf] at ho; exact absurd ho (by decide)
    | some j =>
      have := List.find?_some hf
      rw [Bool.and_eq_true] at this
      exact this.1
  unfold nextSide at h ⊢
  cases hf : (if W.turn = true then none else freshM hp W) with
  | some k =>
    rw [hf] at h
    have : freshM hp W = some k := by
      split at hf
      · cases hf
      · exact hf
    have q := List.find?_some this
    rw [Bool.and_eq_true, Bool.not_eq_true'] at q
    refine ⟨q.1, fun z => ?_⟩
    dsimp only at z
    rw [q.2] at z; cases z
  | none =>
    rw [hf] at h
    dsimp only at h ⊢
    by_cases c : W.thread.length = 1
    · rw [if_pos c] at h; omega
    · rw [if_neg c] at h ⊢
      exact ⟨sd _ h, fun _ => c⟩
theorem WOk.step {L : List (List Int)} (G : Gd L) {n : Nat} {W : Wk} (h : WOk (wd L * hg L) n W) (hk : nextSide (hasP L) (wd L) W < 4) : WOk (wd L * hg L) (n + 1) (stepM (wd L) W (nextSide (hasP L) (wd L) W)) := by
  obtain ⟨h1, h2⟩ := next_has hk
  obtain ⟨t, tlt, ht⟩ := G.closed _ _ h.here hk h1
  have eth : (beside (wd L) W.here (nextSide (hasP L) (wd L) W)).toNat = t := by rw [ht]; rfl
  generalize nextSide (hasP L) (wd L) W = k at *
  have z1 := h.sq
  have z2 := h.th
  have z3 := h.go
  have z4 := h.se
  have hse : (if W.sees t = true then W.seen else W.seen ++ [(t, W.squares.length)]).length ≤ n + 1 + 1 := by
    split
    · omega
    · rw [List.length_append]; show W.seen.length + 1 ≤ _; omega
  unfold stepM
  rw [eth]
  dsimp only
  split
  · rename_i c
    have hl := h2 c
    have hpos := List.length_pos_iff.mpr h.ne
    refine ⟨?_, fun x hx => h.lt x (List.dropLast_subset _ hx), ?_, ?_, ?_, hse⟩
    · intro z
      have := congrArg List.length z
      rw [List.length_dropLast] at this
      simp at this; omega
    · rw [List.length_append]; show W.squares.length + 1 = _; omega
    · show W.thread.dropLast.length ≤ _; rw [List.length_dropLast]; omega
    · show W.gone.length ≤ _; omega
  · refine ⟨by simp, fun x hx => ?_, ?_, ?_, ?_, hse⟩
    · rcases List.mem_append.mp hx with hx | hx
      · exact h.lt x hx
      · rw [List.mem_singleton.mp hx]; exact tlt
    · rw [List.length_append]; show W.squares.length + 1 = _; omega
    · show (W.thread ++ [t]).length ≤ _; rw [List.length_append]; show W.thread.length + 1 ≤ _; omega
    · have g1 := goneAdd_len (g := W.gone) (p := (W.here, k))
      have g2 := goneAdd_len (g := goneAdd W.gone (W.here, k)) (p := (t, (k + 2) % 4))
      dsimp only; omega
def spWalked (CG C : Addr) : Sp := fun vs H Q _ => ∃ (ga : Addr) (s M : Nat) (L : List (List Int)), vs = [.ref ga, vN s, vN M] ∧ GdAt CG H ga L ∧ Gd L ∧ s < wd L * hg L ∧ M ≤ 20000 ∧
  ∀ (H' : Hp) (a : Addr), Same H H' → WkAt C H H' a ga (goM (hasP L) (wd L) M (initM s)) → WOk (wd L * hg L) ((goM (hasP L) (wd L) M (initM s)).squares.length - 1) (goM (hasP L) (wd L) M (initM s)) → Q (.ref a) H'
section
variable {P : Program} {w : World} {K : PySem.W.Frag} {mg : Str → Option Value} {base : Heap} {CG C : Addr}
theorem scWalked : FnScope ["garden", "start", "most", "found", "side"] ["garden", "start", "most"] (defScope sWalked) := ⟨rfl, rfl, rfl, by decide +kernel, rfl, by decide +kernel, by decide +kernel⟩
theorem ok_walked {f fi fn fs : Addr} {fd fdi fdn fds : FuncData} (F : Fun K "walked" "walked" sWalked f fd) (T : TxtW K mg C) (MI : Mk K C fi) (bi : Binds K fdi ["self", "garden", "start"] []) (Gi : FnOk P w K mg base CX0 1 fi fdi ["self", "garden", "start"] (spWInit C))
    (mn : Meth K C "next_side" fn) (bn : Binds K fdn ["self"] []) (Gn : FnOk P w K mg base CX0 4 fn fdn ["self"] (spNext CG C)) (ms : Meth K C "step" fs) (bs : Binds K fds ["self", "side"] []) (Gs : FnOk P w K mg base CX0 2 fs fds ["self", "side"] (spStep CG C)) :
    FnOk P w K mg base CX0 5 f fd ["garden", "start", "most"] (spWalked CG C) := by
  refine F.ok scWalked (fun vs H Q E h => ?_) (fun cdv A outer s H vs Q E hr h => ?_)
  · obtain ⟨ga, s, M, L, rfl, _⟩ := h
    rfl
  · have hr2 : Room 2 _ := hr.mono (by decide)
    refine ⟨_, pss_cons (ps_set (i := 3) scWalked.nd rfl (Or.inl rfl) (pe_make MI Gi hr2 rfl T.gW bi .nil pass0 (pa_cons (pv 0) (pa_cons (pv 1) pa_nil))))
      (pss_cons (ps_set (i := 4) scWalked.nd rfl (Or.inl rfl) (pe_meth0 (pv 3) T.cl mn Gn hr bn .nil pass0))
      (pss_cons (ps_while PassesOwn.never (PW.pt (pw_and (pt_cmpR op_lt (pv 4) (pe_cn T.SIDES) (nomark _)) (pw_and1 (pt_cmpR op_le (pe_callB call_len_seq (by rfl) T.len PySem.boot_len (pa_cons (pe_fld (pv 3) rfl) pa_nil)) (pv 2) (nomark _)))))
        (pss_cons (ps_expr (pe_meth (pv 3) T.cl ms Gs hr2 bs .nil pass0 (pa_cons (pv 4) pa_nil)))
        (pss_one (ps_set (i := 4) scWalked.nd rfl (Or.inl rfl) (pe_meth0 (pv 3) T.cl mn Gn hr bn .nil pass0)))))
      (pss_one (ps_ret (pv 3))))), ?_⟩
    obtain ⟨ga, s, M, L, rfl, hG, hGd, hs, hM, q⟩ := h
    have hL := hGd.lies
    -- found = Walk(garden, start)
    refine ⟨_, rfl, _, rfl, fun x dx nx nd ne => ?_⟩
    refine ⟨x, dx, ga, s, rfl, upd_same, fun H1 sa ta goa sea A0 k => ⟨rfl, ?_⟩⟩
    have s1 : Same H H1 := Same.made nx nd k
    have back : ∀ b, b ≠ x → (fun b => if b = x then none else (upd (upd H dx (.own x)) x (.ins C dx [])) b) b = none → H b = none := fun b hb h0 => by
      dsimp only at h0
      rw [if_neg hb, upd_ne hb] at h0
      by_cases hbd : b = dx
      · rw [hbd, upd_same] at h0; cases h0
      · rw [upd_ne hbd] at h0; exact h0
    have A1 : WkAt C H H1 x ga (initM s) := ⟨dx, sa, ta, goa, sea, { A0 with
      na := nx
      nsq := back _ (ne_of A0.sq A0.ob (by intro z; cases z)) A0.nsq
      nth := back _ (ne_of A0.th A0.ob (by intro z; cases z)) A0.nth
      ngo := back _ (ne_of A0.go A0.ob (by intro z; cases z)) A0.ngo
      nse := back _ (ne_of A0.se A0.ob (by intro z; cases z)) A0.nse }⟩
    -- side = found.next_side()
    have nexts : ∀ (W : Wk) (n : Nat) (H2 : Hp) (σ : L2.St) (Q2 : VK), Same H H2 → WkAt C H H2 x ga W → WOk (wd L * hg L) n W → σ[3]? = some (some (V.ref x)) → (∀ H3, Same H2 H3 → Q2 (vN (nextSide (hasP L) (wd L) W)) H3) →
        tMeth C "next_side" (spNext CG C) [] E0 (tVar 3) tNil σ H2 Q2 := fun W n H2 σ Q2 s2 hW hO hσ hq => by
      have hW2 := hW
      obtain ⟨dx, sa, ta, goa, sea, A⟩ := hW2
      exact ⟨_, hσ, x, dx, _, rfl, A.ob, wF_no (by decide +kernel), x, ga, H, W, L, rfl, hW, hG.same s2, hL, hO.ne, hO.here, hq⟩
    refine st_seq ?_
    refine nexts (initM s) 0 H1 _ _ s1 A1 (WOk.init hs) rfl fun H2 s2 => ?_
    -- the loop
    refine st_seq ?_
    refine ⟨fun r σ H' => ∃ (i : Nat) (W : Wk), i + r = M ∧ WOk (wd L * hg L) i W ∧ goM (hasP L) (wd L) M (initM s) = goM (hasP L) (wd L) r W ∧ WkAt C H H' x ga W ∧ Same H H' ∧
        σ = [some (.ref ga), some (vN s), some (vN M), some (.ref x), some (vN (nextSide (hasP L) (wd L) W))], ⟨M, 0, initM s, by omega, WOk.init hs, rfl, A1.same s2, s1.trans s2, rfl⟩, ?_⟩
    rintro r σ H3 ⟨i, W, hir, hO, eg, hW, s3, rfl⟩
    have hW2 := hW
    obtain ⟨dx3, sa3, ta3, goa3, sea3, A3⟩ := hW2
    have vl := val_len (K := K) (val_fld (σ := [some (V.ref ga), some (vN s), some (vN M), some (.ref x), some (vN (nextSide (hasP L) (wd L) W))]) (ta := tVar 3) (val_var rfl) A3.ob T.cl T.nS wF_squares) (SqL.of A3.sq)
    rw [List.length_map, hO.sq] at vl
    refine ans_and2 (val_test (val_lt (val_var rfl) val_c)) (val_test (val_le vl (val_var rfl))) _ ?_
    by_cases c : nextSide (hasP L) (wd L) W < 4 ∧ i + 1 ≤ M
    · have e1 : (decide ((nextSide (hasP L) (wd L) W : Int) < 4) && decide (((i + 1 : Nat) : Int) ≤ (M : Int))) = true := by
        rw [decide_eq_true (by omega), decide_eq_true (by omega)]; rfl
      rw [e1]
      refine iteT ⟨fun σ' H' => ∃ (W' : Wk), WOk (wd L * hg L) (i + 1) W' ∧ goM (hasP L) (wd L) M (initM s) = goM (hasP L) (wd L) (r - 1) W' ∧ WkAt C H H' x ga W' ∧ Same H H' ∧
        σ' = [some (.ref ga), some (vN s), some (vN M), some (.ref x), some (vN (nextSide (hasP L) (wd L) W'))], ?_, ?_⟩
      · rintro σ' H' ⟨W', h1, h2, h3, h4, h5⟩
        exact ⟨r - 1, by omega, i + 1, W', by omega, h1, h2, h3, h4, h5⟩
      · obtain ⟨hh, _⟩ := next_has c.1
        have g1 := hO.sq
        have g2 := hO.th
        have g3 := hO.go
        have g4 := hO.se
        refine st_seq ?_
        refine ⟨_, rfl, x, dx3, _, rfl, A3.ob, wF_no (by decide +kernel), _, rfl, x, ga, H, W, L, _, rfl, hW, s3, hG, hGd, hO.ne, hO.here, c.1, hh, by omega, by omega, by omega, by omega, fun H4 s4 hW4 => ?_⟩
        have hO4 := hO.step hGd c.1
        refine nexts _ (i + 1) H4 _ _ s4 hW4 hO4 rfl fun H5 s5 => ?_
        refine ⟨_, hO4, ?_, hW4.same s5, s4.trans s5, rfl⟩
        rw [eg]
        obtain ⟨r', rfl⟩ : ∃ r', r = r' + 1 := ⟨r - 1, by omega⟩
        show (if nextSide (hasP L) (wd L) W < 4 then _ else _) = _
        rw [if_pos c.1]; rfl
    · have e1 : (decide ((nextSide (hasP L) (wd L) W : Int) < 4) && decide (((i + 1 : Nat) : Int) ≤ (M : Int))) = false := by
        rw [Bool.eq_false_iff]; intro z
        rw [Bool.and_eq_true, decide_eq_true_eq, decide_eq_true_eq] at z
        exact c ⟨by omega, by omega⟩
      rw [e1]
      refine iteF ?_
      have ee : goM (hasP L) (wd L) M (initM s) = W := by
        rw [eg]
        cases r with
        | zero => rfl
        | succ r =>
          show (if nextSide (hasP L) (wd L) W < 4 then _ else _) = _
          rw [if_neg fun z => c ⟨z, by omega⟩]
      dsimp only
      refine st_ret (val_var rfl) (q H3 x s3 ?_ ?_)
      · rw [ee]; exact hW
      · rw [ee, hO.sq]; exact hO
end
end Tw

/-! ### What all calls share -/
namespace Tw
open PySem PySem.Spec PyProof.Rows L2
/-- every drawing that is read can be walked in -/
abbrev AllGd : Prop := ∀ (t : List Int) (L : List (List Int)), (∀ x ∈ t, 0 ≤ x ∧ x ≤ 255) → readM t = some L → Gd L
theorem all_gd : AllGd := fun _ _ _ h => ⟨(read_gd h).1, (read_gd h).2⟩
theorem withGarden_ok {t : List Int} {L : List (List Int)} {f : List (List Int) → List Int} (h : t.length ≤ 1024) (hL : readM t = some L) : withGarden t f = f L := by
  unfold withGarden; rw [if_neg (by omega), hL]
theorem withGarden_long {t : List Int} {f : List (List Int) → List Int} (h : 1024 < t.length) : withGarden t f = [-2] := by
  unfold withGarden; rw [if_pos h]
theorem withGarden_fault {t : List Int} {f : List (List Int) → List Int} (h : t.length ≤ 1024) (hL : readM t = none) : withGarden t f = [-6] := by
  unfold withGarden; rw [if_neg (by omega), hL]
theorem goM_len (hp : Nat → Nat → Bool) (w : Nat) : ∀ (n : Nat) (W : Wk), (goM hp w n W).squares.length ≤ W.squares.length + n ∧ (goM hp w n W).thread.length ≤ W.thread.length + n
  | 0, W => ⟨Nat.le_refl _, Nat.le_refl _⟩
  | n + 1, W => by
    unfold goM
    split
    · have ih := goM_len hp w n (stepM w W (nextSide hp w W))
      have e1 : (stepM w W (nextSide hp w W)).squares.length = W.squares.length + 1 := by
        unfold stepM; dsimp only; split <;> simp
      have e2 : (stepM w W (nextSide hp w W)).thread.length ≤ W.thread.length + 1 := by
        unfold stepM; dsimp only; split <;> simp <;> omega
      omega
    · omega
theorem vNs_cI (l : List Nat) : vNs l = vI (cI l) := by simp [cI, vI, vNs]
end Tw

/-! ### A square that there isn't -/
namespace Tw
open PySem PySem.Spec PyProof.Rows L2
open PySem.W (Codec)
structure TxtS (K : PySem.W.Frag) (mg : Str → Option Value) : Prop where
  NO_SQUARE : Cn mg "NO_SQUARE" (-4)
  ALL_STEPS : Cn mg "ALL_STEPS" 1000
def spAsk (CG CR : Addr) : Sp := fun vs H Q E => ∃ (g : Addr) (s : Int) (L : List (List Int)), vs = [.ref g, .int s] ∧ GdAt CG H g L ∧ wd L ≤ 1000 ∧ (((wd L * hg L : Nat) : Int) ≤ s → Ref CR H E (-4)) ∧ (¬ ((wd L * hg L : Nat) : Int) ≤ s → Q .non H)
section
variable {P : Program} {w : World} {K : PySem.W.Frag} {mg : Str → Option Value} {base : Heap} {CG CR fR : Addr}
theorem scAsk : FnScope ["garden", "square"] ["garden", "square"] (defScope sAsk) := ⟨rfl, rfl, rfl, by decide +kernel, rfl, by decide +kernel, by decide +kernel⟩
theorem ok_ask {f fm : Addr} {fd fdm : FuncData} (F : Fun K "ask_square" "ask_square" sAsk f fd) (TG : TxtG K mg CG) (TR : TxtR K mg CR fR) (TS : TxtS K mg) (mm : Meth K CG "many" fm) (bm : Binds K fdm ["self"] []) (Gm : FnOk P w K mg base CX0 1 fm fdm ["self"] (spMany CG)) :
    FnOk P w K mg base (L2.CX P w) 3 f fd ["garden", "square"] (spAsk CG CR) := by
  refine F.okX scAsk (fun vs H Q E h => ?_) (fun cdv A outer s H vs Q E hr h => ?_)
  · obtain ⟨g, s, L, rfl, _⟩ := h
    rfl
  · have hr1 : Room 1 _ := hr.mono (by decide)
    refine ⟨_, pss_one (ps_if (pt_cmpR op_ge (pv 1) (pe_meth0 (pv 0) TG.cl mm Gm hr1 bm .nil pass0) (nomark _)) (pss_one (ps_raiseRef rfl TR.ref hr (takes_of rfl rfl rfl rfl) (by exact (pa_cons (pe_cn TS.NO_SQUARE) pa_nil)))) pss_nil), ?_⟩
    obtain ⟨g, s, L, rfl, hG, hw, k1, k2⟩ := h
    have hG2 := hG
    obtain ⟨dg, la, hga, _⟩ := hG2
    have vm : Val (tMeth CG "many" (spMany CG) [] E0 (tVar 0) tNil) (start ["garden", "square"] [V.ref g, .int s]) H (vN (wd L * hg L)) :=
      val_meth0 (val_var rfl) hga (gF_no (by decide +kernel) (by decide +kernel) (by decide +kernel)) fun Q q => ⟨g, L, rfl, hG, hw, q⟩
    refine st_ifs (val_test (val_ge (val_var rfl) vm)) (fun c => ?_) fun c => ?_
    · exact ⟨_, rfl, fun d hd => k1 (of_decide_eq_true c) _ d (same_new hd) upd_same⟩
    · exact st_next (k2 (of_decide_eq_false c))
end
theorem Ref.same {CR : Addr} {H H' : Hp} {E : XK} {c : Int} (e : Same H H') (h : Ref CR H E c) : Ref CR H' E c := fun H2 d s hd => h H2 d (e.trans s) hd
end Tw

/-! ### The walk after so many steps, or a refusal -/
namespace Tw
open PySem PySem.Spec PyProof.Rows L2
open PySem.W (Codec)
structure TxtD (K : PySem.W.Frag) (mg : Str → Option Value) : Prop where
  NEVER : Cn mg "NEVER" (-5)
  min : mg "min" = none
/-- the defs that are called -/
structure CallsD (P : Program) (w : World) (K : PySem.W.Frag) (mg : Str → Option Value) (base : Heap) (CG CW CR : Addr) : Prop where
  garden : ∃ f fd, mg "garden_of" = some (.ref f) ∧ PySem.W.keepIn K (.ref f) = true ∧ Binds K fd ["text"] [] ∧ FnOk P w K mg base (L2.CX P w) 4 f fd ["text"] (spGardenOf K CG CR)
  ask : ∃ f fd, mg "ask_square" = some (.ref f) ∧ PySem.W.keepIn K (.ref f) = true ∧ Binds K fd ["garden", "square"] [] ∧ FnOk P w K mg base (L2.CX P w) 3 f fd ["garden", "square"] (spAsk CG CR)
  walked : ∃ f fd, mg "walked" = some (.ref f) ∧ PySem.W.keepIn K (.ref f) = true ∧ Binds K fd ["garden", "start", "most"] [] ∧ FnOk P w K mg base CX0 5 f fd ["garden", "start", "most"] (spWalked CG CW)
def spAfter (K : PySem.W.Frag) (CW CR : Addr) : Sp := fun vs H Q E => ∃ (b : Addr) (s i : Int) (t : List Int), vs = [.int s, .int i, .ref b] ∧ SqL K H b (vI t) ∧ t.length ≤ 4000 ∧ (∀ x ∈ t, 0 ≤ x ∧ x ≤ 255) ∧ 0 ≤ s ∧ 0 ≤ i ∧
  (∀ c : Int, (∀ f, aAfter s i t f = [c]) → Ref CR H E c) ∧
  ∀ (L : List (List Int)) (W : Wk) (n : Nat), (∀ f, aAfter s i t f = f W) → WOk (wd L * hg L) n W → n ≤ 1000 → ∀ (H0 H' : Hp) (a ga : Addr), WkAt CW H0 H' a ga W → Q (.ref a) H'
section
variable {P : Program} {w : World} {K : PySem.W.Frag} {mg : Str → Option Value} {base : Heap} {CG CW CR fR : Addr}
theorem scAfter : FnScope ["s", "i", "garden", "place", "found"] ["s", "i", "garden"] (defScope sAfter) := ⟨rfl, rfl, rfl, by decide +kernel, rfl, by decide +kernel, by decide +kernel⟩
theorem ok_after (AG : AllGd) {f : Addr} {fd : FuncData} (F : Fun K "walk_after" "walk_after" sAfter f fd) (TG : TxtG K mg CG) (TW : TxtW K mg CW) (TR : TxtR K mg CR fR) (TS : TxtS K mg) (TD : TxtD K mg) (D : CallsD P w K mg base CG CW CR) :
    FnOk P w K mg base (L2.CX P w) 7 f fd ["s", "i", "garden"] (spAfter K CW CR) := by
  obtain ⟨f1, fd1, m1, k1, b1, G1⟩ := D.garden
  obtain ⟨f2, fd2, m2, k2, b2, G2⟩ := D.ask
  obtain ⟨f3, fd3, m3, k3, b3, G3⟩ := D.walked
  refine F.okX scAfter (fun vs H Q E h => ?_) (fun cdv A outer s H vs Q E hr h => ?_)
  · obtain ⟨b, s, i, t, rfl, _⟩ := h
    rfl
  · have hr3 : Room 3 _ := hr.mono (by decide)
    have hr4 : Room 4 _ := hr.mono (by decide)
    have hr5 : Room 5 _ := hr.mono (by decide)
    refine ⟨_, pss_cons (ps_set (i := 3) scAfter.nd rfl (Or.inl rfl) (pe_callS (E := WE (fun cls d _ H => E cls d H)) G1 hr4 rfl m1 k1 b1 (fun σ => passAt (takes_of rfl rfl rfl rfl) σ) (by exact (pa_cons (pv 2) pa_nil))))
      (pss_cons (ps_expr (pe_callS (E := WE (fun cls d _ H => E cls d H)) G2 hr3 rfl m2 k2 b2 (fun σ => passAt (takes_of rfl rfl rfl rfl) σ) (by exact (pa_cons (pv 3) (pa_cons (pv 0) pa_nil)))))
      (pss_cons (ps_set (i := 4) scAfter.nd rfl (Or.inl rfl) (pe_call G3 hr5 rfl m3 k3 b3 .nil pass0 (pa_cons (pv 3) (pa_cons (pv 0) (pa_cons (pe_callB (call_min2 rfl) (by rfl) TD.min (by decide +kernel) (pa_cons (pv 1) (pa_cons (pe_cn TS.ALL_STEPS) pa_nil))) pa_nil)))))
      (pss_cons (ps_if (pt_cmpR op_lt (pe_op op_sub (pe_callB call_len_seq (by rfl) TG.len PySem.boot_len (pa_cons (pe_fld (pv 4) rfl) pa_nil)) pe_int) (pv 1) (nomark _)) (pss_one (ps_raiseRef rfl TR.ref hr (takes_of rfl rfl rfl rfl) (by exact (pa_cons (pe_cn TD.NEVER) pa_nil)))) pss_nil)
      (pss_one (ps_ret (pv 4)))))), ?_⟩
    obtain ⟨b, s, i, t, rfl, ht, zt, bt, hs0, hi0, kR, kS⟩ := h
    refine ⟨_, rfl, b, t, rfl, ht, by omega, fun h2 => kR (-2) fun f => withGarden_long h2, fun h2 hn => kR (-6) fun f => withGarden_fault h2 hn, fun h2 L hL H1 g s1 hgd => ?_⟩
    have hGd := AG t L bt hL
    have hL3 := hGd.lies
    have ea : ∀ f, aAfter s i t f = if ((wd L * hg L : Nat) : Int) ≤ s then [-4] else if ((gone L s.toNat (min i 1000).toNat).squares.length : Int) - 1 < i then [-5] else f (gone L s.toNat (min i 1000).toNat) := fun f => withGarden_ok h2 hL
    refine ⟨_, rfl, _, rfl, g, s, L, rfl, hgd, hL3.2.1, fun c => (kR (-4) fun f => by rw [ea f, if_pos c]).same s1, fun c => ?_⟩
    have es : (V.int s) = vN s.toNat := by show V.int s = V.int _; congr 1; omega
    have em : (V.int (if 1000 < i then 1000 else i)) = vN (min i 1000).toNat := by
      show V.int _ = V.int _
      congr 1
      split <;> omega
    refine ⟨_, rfl, _, rfl, _, rfl, ⟨i, 1000, rfl, ?_⟩⟩
    refine ⟨g, s.toNat, (min i 1000).toNat, L, by rw [es, em]; rfl, hgd, hGd, by omega, by omega, fun H3 x s3 hW hO => ?_⟩
    have hW2 := hW
    obtain ⟨dx, sa, ta, goa, sea, A⟩ := hW2
    have hgl : (goM (hasP L) (wd L) (min i 1000).toNat (initM s.toNat)).squares.length ≤ 1 + 1000 := by
      have := (goM_len (hasP L) (wd L) (min i 1000).toNat (initM s.toNat)).1
      have e : (initM s.toNat).squares.length = 1 := rfl
      omega
    have vl := val_len (K := K) (val_fld (σ := [some (V.int s), some (.int i), some (.ref b), some (.ref g), some (.ref x)]) (ta := tVar 4) (val_var rfl) A.ob TW.cl TW.nS wF_squares) (SqL.of A.sq)
    rw [List.length_map] at vl
    dsimp only
    refine st_seq (st_ifs (val_test (val_lt (val_sub vl val_c) (val_var rfl))) (fun c2 => ?_) fun c2 => ?_)
    · have h3 := of_decide_eq_true c2
      refine ⟨_, rfl, fun d hd => ?_⟩
      exact (kR (-5) fun f => by rw [ea f, if_neg c]; exact if_pos h3) _ d (s1.trans (s3.trans (same_new hd))) upd_same
    · have h3 := of_decide_eq_false c2
      refine st_next ?_
      dsimp only
      refine st_ret (val_var rfl) (kS L _ _ (fun f => by rw [ea f, if_neg c]; exact if_neg h3) hO (by omega) H1 H3 x g hW)
end
end Tw

/-! ### What is asked: at -/
namespace Tw
open PySem PySem.Spec PyProof.Rows L2
open PySem.W (Codec)
def spAns (K : PySem.W.Frag) : Sp := fun vs H Q _ => ∃ (b : Addr) (s i : Int) (t : List Int), vs = [.int s, .int i, .ref b] ∧ SqL K H b (vI t) ∧ t.length ≤ 4000 ∧ (∀ x ∈ t, 0 ≤ x ∧ x ≤ 255) ∧ 0 ≤ s ∧ 0 ≤ i ∧
  ∀ (H' : Hp) (p : Addr), H' p = some (.lst (vI (aAt s i t))) → Q (.ref p) H'
section
variable {P : Program} {w : World} {K : PySem.W.Frag} {mg : Str → Option Value} {base : Heap} {CG CW CR fR : Addr}
theorem scAns : FnScope ["s", "i", "garden", "found", "refusal"] ["s", "i", "garden"] (defScope sAns) := ⟨rfl, rfl, rfl, by decide +kernel, rfl, by decide +kernel, by decide +kernel⟩
theorem ok_ans {f fh : Addr} {fd fdh : FuncData} (F : Fun K "at" "at" sAns f fd) (TG : TxtG K mg CG) (TW : TxtW K mg CW) (TR : TxtR K mg CR fR)
    (D : ∃ f fd, mg "walk_after" = some (.ref f) ∧ PySem.W.keepIn K (.ref f) = true ∧ Binds K fd ["s", "i", "garden"] [] ∧ FnOk P w K mg base (L2.CX P w) 7 f fd ["s", "i", "garden"] (spAfter K CW CR))
    (mh : Meth K CW "here" fh) (bh : Binds K fdh ["self"] []) (Gh : FnOk P w K mg base CX0 1 fh fdh ["self"] (spHere CW)) : FnOk P w K mg base CX0 10 f fd ["s", "i", "garden"] (spAns K) := by
  obtain ⟨f1, fd1, m1, k1, b1, G1⟩ := D
  refine F.ok scAns (fun vs H Q E h => ?_) (fun cdv A outer s H vs Q E hr h => ?_)
  · obtain ⟨b, s, i, t, rfl, _⟩ := h
    rfl
  · have hr1 : Room 1 _ := hr.mono (by decide)
    have hr7 : Room 7 _ := hr.mono (by decide)
    refine ⟨_, pss_cons (ps_try_as (i := 4) (tb := fun W => tAsg (tCallS (spAfter K CW CR) (WE W) (tCons (tVar 0) (tCons (tVar 1) (tCons (tVar 2) tNil)))) (gName 3)) (ts := fun a cls d => tRet (tLst (tCons (tCodeRef CR a cls d (tVar 4)) tNil))) (Wout := fun _ _ _ _ => False) rfl rfl scAns.nd rfl rfl ⟨rfl, by decide, Or.inl TR.ref.gC⟩ takes0
          (fun W pn xe tk _ => pss_one (ps_set (i := 3) scAns.nd rfl (Or.inl rfl) (by exact (pe_callS G1 hr7 rfl m1 k1 b1 (fun σ => passAt tk σ) (by exact (pa_cons (pv 0) (pa_cons (pv 1) (pa_cons (pv 2) pa_nil))))))))
          (fun a oe cls d pn hz hf => pss_one (ps_ret (pe_lst (pa_cons (pe_codeRef TR.ref hz hf (pv 4)) pa_nil)))))
      (pss_one (ps_ret (pe_lst (pa_cons pe_int (pa_cons (pe_meth0 (pv 3) TW.cl mh Gh hr1 bh .nil pass0) (pa_cons (pe_op op_sub (pe_callB call_len_seq (by rfl) TG.len PySem.boot_len (pa_cons (pe_fld (pv 3) rfl) pa_nil)) pe_int)
        (pa_cons (pe_callB call_lenD (by rfl) TG.len PySem.boot_len (pa_cons (pe_fld (pv 3) rfl) pa_nil)) pa_nil))))))), ?_⟩
    obtain ⟨b, s, i, t, rfl, ht, zt, bt, hs0, hi0, q⟩ := h
    refine st_seq ?_
    refine ⟨_, rfl, _, rfl, _, rfl, b, s, i, t, rfl, ht, zt, bt, hs0, hi0, fun c hc => ?_, fun L W n hc hO hn H0 H' a ga hW => ?_⟩
    · intro H' d s1 hd
      refine ⟨true, TR.ref.te, fun _ a0 _ => ?_, fun q => Bool.noConfusion q⟩
      exact ⟨_, rfl, rfl, rfl, d, _, rfl, hd, by show 1 ≤ sizeLine; decide, fun p hp => q _ p (by rw [upd_same, show aAt s i t = [c] from hc _]; rfl)⟩
    · have hW2 := hW
      obtain ⟨dx, sa, ta, goa, sea, A⟩ := hW2
      have z1 := hO.th
      have z2 := hO.se
      have vh : Val (tMeth CW "here" (spHere CW) [] E0 (tVar 3) tNil) [some (V.int s), some (.int i), some (.ref b), some (.ref a), none] H' (vN W.here) := val_meth0 (val_var rfl) A.ob (wF_no (by decide +kernel)) fun Q q => ⟨a, ga, H0, W, rfl, hW, hO.ne, q⟩
      have vt := val_len (K := K) (val_fld (σ := [some (V.int s), some (.int i), some (.ref b), some (.ref a), none]) (ta := tVar 3) (val_var rfl) A.ob TW.cl TW.nT wF_thread) (SqL.of A.th)
      rw [List.length_map] at vt
      refine vh _ ?_
      refine val_sub vt val_c _ ?_
      refine ⟨_, rfl, a, CW, dx, _, _, rfl, A.ob, TW.cl, TW.nE, wF_seen, sea, _, rfl, A.se, ?_⟩
      refine ⟨by show 4 ≤ sizeLine; decide, fun p hp => q _ p ?_⟩
      rw [upd_same, show aAt s i t = [0, (W.here : Int), (W.thread.length : Int) - 1, (W.seen.length : Int)] from hc _]
      have e : (seenKV W.seen).length = W.seen.length := by unfold seenKV; rw [List.length_map]
      rw [e]; rfl
end
end Tw

namespace Tw
open PySem PySem.Spec PyProof.Rows L2
open PySem.W (Codec)
theorem request (K : PySem.W.Frag) (H : Hp) (xs : List V) (a : Codec.denoteAll PySem.Challenge.rw_threadwalk_s02_at.args) (hwi : Codec.withinAll PySem.Challenge.rw_threadwalk_s02_at.args a = true) (hx : DwAll K H xs (Codec.encAll PySem.Challenge.rw_threadwalk_s02_at.args a)) :
    spAns K xs H (fun v H' => Dw K H' v (PySem.Challenge.rw_threadwalk_s02_at.ret.enc (Codec.app PySem.Challenge.rw_threadwalk_s02_at.args PySem.Challenge.rw_threadwalk_s02_at.f a))) fun _ _ _ => False := by
  cases hx with
  | cons h1 h2 =>
    cases h2 with
    | cons h2 h3 =>
      cases h3 with
      | cons h3 h4 =>
        cases h4
        cases h1 with
        | int =>
          cases h2 with
          | int =>
            cases h3 with
            | lst hs2 ha2 =>
              have e2 := L2.ints_dw a.2.2.1 _ ha2
              subst e2
              have q : (Codec.inInt 0 4294967295 a.1 && (Codec.inInt 0 4294967295 a.2.1 && ((Codec.inLen 0 4000 a.2.2.1 && a.2.2.1.all (Codec.inInt 0 255)) && true))) = true := hwi
              rw [Bool.and_eq_true, Bool.and_eq_true, Bool.and_eq_true, Bool.and_eq_true] at q
              obtain ⟨q1, q2, ⟨q3, q4⟩, _⟩ := q
              have bt : ∀ x ∈ a.2.2.1, 0 ≤ x ∧ x ≤ 255 := fun x hx => by
                have := List.all_eq_true.mp q4 x hx
                simpa [Codec.inInt] using this
              have b1 : 0 ≤ a.1 ∧ a.1 ≤ 4294967295 := by simpa [Codec.inInt] using q1
              have b2 : 0 ≤ a.2.1 ∧ a.2.1 ≤ 4294967295 := by simpa [Codec.inInt] using q2
              refine ⟨_, a.1, a.2.1, a.2.2.1, rfl, hs2, (Codec.inNat_iff.mp q3).2, bt, b1.1, b2.1, fun H' p hp => ?_⟩
              rw [aAt_eq a.1 a.2.1 a.2.2.1 b1.1 b2.1 bt] at hp
              exact .lst (L2.SqL.of hp) (L2.dw_ints _)
end Tw

/-! ### The end: what the top has written -/
namespace Tw
open PySem PySem.Spec PyProof.Rows L2
open PySem.W (Codec)
theorem exm_self {K : PySem.W.Frag} {S : Addr} (h1 : PySem.W.subIn K (.ref S) (.type "BaseException") = some true) (h2 : PySem.W.isClsIn K S = true) (h3 : PySem.W.typeIn K (.ref S) = some (.type "type")) (h4 : PySem.W.subIn K (.ref S) (.ref S) = some true) :
    PySem.W.exmOne K (.ref S) (.ref S) = some true := by
  have e1 : (PySem.W.subIn K (.ref S) (.type "BaseException") == some true) = true := by rw [h1] <;> rfl
  have e2 : ((PySem.W.clsIn K S).isSome && PySem.W.typeIn K (.ref S) == some (.type "type")) = true := by
    have h2' : (PySem.W.clsIn K S).isSome = true := h2
    rw [h2', h3] <;> rfl
  show (if (PySem.W.subIn K (.ref S) (.type "BaseException") == some true) = true then (if ((PySem.W.clsIn K S).isSome && PySem.W.typeIn K (.ref S) == some (.type "type")) = true then PySem.W.subIn K (.ref S) (.ref S) else none) else none) = some true
  rw [if_pos e1, if_pos e2]
  exact h4
theorem all_mk (AG : AllGd) {P : Program} {w : World} {K : PySem.W.Frag} {h : Heap} {mg : Str → Option Value} {fa CG CW CR fR fgi fgm fgh fgb fwi fwh fwb fws fwn fwt flo flv fup fsd frd fgo fak fwk faf fan : Addr} (X : K.In h) (G : h.Ns mainGlobals mg) (hfa : mg "at" = some (.ref fa))
    {t_NEWLINE t_BLANK t_CORNER t_LEVEL t_UPRIGHT t_MOST t_UPPER t_RIGHT t_LOWER t_TOO_LONG t_FAULT t_NO_SQUARE t_LONGEST t_SIDES t_NEVER t_ALL_STEPS : Tok}
    {nmR qR : Str} {NR : Addr} {bsR : List Value} {snR : List Str} {subR : List Value} {abR : Bool} {colR : Option Bool} {ddR : Option Addr} {m0 m1 m2 m3 m5 : Option Value}
    {odR anR : Option Addr} {slR : Array (Option Value)} {ocR dcR pmR cdR ctR : Value}
    {odgi angi : Option Addr} {slgi : Array (Option Value)} {ocgi kVgi dcgi pmgi cdgi ctgi : Value}
    {odgm angm : Option Addr} {slgm : Array (Option Value)} {ocgm kVgm dcgm pmgm cdgm ctgm : Value}
    {odgh angh : Option Addr} {slgh : Array (Option Value)} {ocgh kVgh dcgh pmgh cdgh ctgh : Value}
    {odgb angb : Option Addr} {slgb : Array (Option Value)} {ocgb kVgb dcgb pmgb cdgb ctgb : Value}
    {odwi anwi : Option Addr} {slwi : Array (Option Value)} {ocwi kVwi dcwi pmwi cdwi ctwi : Value}
    {odwh anwh : Option Addr} {slwh : Array (Option Value)} {ocwh kVwh dcwh pmwh cdwh ctwh : Value}
    {odwb anwb : Option Addr} {slwb : Array (Option Value)} {ocwb kVwb dcwb pmwb cdwb ctwb : Value}
    {odws anws : Option Addr} {slws : Array (Option Value)} {ocws kVws dcws pmws cdws ctws : Value}
    {odwn anwn : Option Addr} {slwn : Array (Option Value)} {ocwn kVwn dcwn pmwn cdwn ctwn : Value}
    {odwt anwt : Option Addr} {slwt : Array (Option Value)} {ocwt kVwt dcwt pmwt cdwt ctwt : Value}
    {odlo anlo : Option Addr} {sllo : Array (Option Value)} {oclo kVlo dclo pmlo cdlo ctlo : Value}
    {odlv anlv : Option Addr} {sllv : Array (Option Value)} {oclv kVlv dclv pmlv cdlv ctlv : Value}
    {odup anup : Option Addr} {slup : Array (Option Value)} {ocup kVup dcup pmup cdup ctup : Value}
    {odsd ansd : Option Addr} {slsd : Array (Option Value)} {ocsd kVsd dcsd pmsd cdsd ctsd : Value}
    {odrd anrd : Option Addr} {slrd : Array (Option Value)} {ocrd kVrd dcrd pmrd cdrd ctrd : Value}
    {odgo ango : Option Addr} {slgo : Array (Option Value)} {ocgo kVgo dcgo pmgo cdgo ctgo : Value}
    {odak anak : Option Addr} {slak : Array (Option Value)} {ocak kVak dcak pmak cdak ctak : Value}
    {odwk anwk : Option Addr} {slwk : Array (Option Value)} {ocwk kVwk dcwk pmwk cdwk ctwk : Value}
    {odaf anaf : Option Addr} {slaf : Array (Option Value)} {ocaf kVaf dcaf pmaf cdaf ctaf : Value}
    {odan anan : Option Addr} {slan : Array (Option Value)} {ocan kVan dcan pman cdan ctan : Value}
    (c_NEWLINE : PySem.W.nsIn K mainGlobals "NEWLINE" = some (some (.int 10 t_NEWLINE)))
    (c_BLANK : PySem.W.nsIn K mainGlobals "BLANK" = some (some (.int 32 t_BLANK)))
    (c_CORNER : PySem.W.nsIn K mainGlobals "CORNER" = some (some (.int 43 t_CORNER)))
    (c_LEVEL : PySem.W.nsIn K mainGlobals "LEVEL" = some (some (.int 45 t_LEVEL)))
    (c_UPRIGHT : PySem.W.nsIn K mainGlobals "UPRIGHT" = some (some (.int 124 t_UPRIGHT)))
    (c_MOST : PySem.W.nsIn K mainGlobals "MOST" = some (some (.int 10 t_MOST)))
    (c_UPPER : PySem.W.nsIn K mainGlobals "UPPER" = some (some (.int 0 t_UPPER)))
    (c_RIGHT : PySem.W.nsIn K mainGlobals "RIGHT" = some (some (.int 1 t_RIGHT)))
    (c_LOWER : PySem.W.nsIn K mainGlobals "LOWER" = some (some (.int 2 t_LOWER)))
    (c_TOO_LONG : PySem.W.nsIn K mainGlobals "TOO_LONG" = some (some (.int (-2) t_TOO_LONG)))
    (c_FAULT : PySem.W.nsIn K mainGlobals "FAULT" = some (some (.int (-6) t_FAULT)))
    (c_NO_SQUARE : PySem.W.nsIn K mainGlobals "NO_SQUARE" = some (some (.int (-4) t_NO_SQUARE)))
    (c_LONGEST : PySem.W.nsIn K mainGlobals "LONGEST" = some (some (.int 1024 t_LONGEST)))
    (c_SIDES : PySem.W.nsIn K mainGlobals "SIDES" = some (some (.int 4 t_SIDES)))
    (c_NEVER : PySem.W.nsIn K mainGlobals "NEVER" = some (some (.int (-5) t_NEVER)))
    (c_ALL_STEPS : PySem.W.nsIn K mainGlobals "ALL_STEPS" = some (some (.int 1000 t_ALL_STEPS)))
    (n_len : PySem.W.nsIn K mainGlobals "len" = some none)
    (n_range : PySem.W.nsIn K mainGlobals "range" = some none)
    (n_min : PySem.W.nsIn K mainGlobals "min" = some none)
    (n_Exc : PySem.W.nsIn K mainGlobals "Exception" = some none)
    (aG : PySem.W.nsIn K mainGlobals "Garden" = some (some (.ref CG)))
    (aW : PySem.W.nsIn K mainGlobals "Walk" = some (some (.ref CW)))
    (aR : PySem.W.nsIn K mainGlobals "Refused" = some (some (.ref CR)))
    (pgG : PySem.W.plainGet K CG Str.empty = true)
    (hdG : PySem.W.hasDictIn K CG = true)
    (poG : PySem.W.plainOver K CG = true)
    (saG : PySem.W.findIn K (.ref CG) "__setattr__" = some (some (.builtin "object.__setattr__")))
    (mkG : PySem.W.makesIn K CG = true)
    (kcG : PySem.W.keepIn K (.ref CG) = true)
    (naG_wide : PySem.W.findIn K (.ref CG) "wide" = some none)
    (naG_high : PySem.W.findIn K (.ref CG) "high" = some none)
    (naG_lines : PySem.W.findIn K (.ref CG) "lines" = some none)
    (pgW : PySem.W.plainGet K CW Str.empty = true)
    (hdW : PySem.W.hasDictIn K CW = true)
    (poW : PySem.W.plainOver K CW = true)
    (saW : PySem.W.findIn K (.ref CW) "__setattr__" = some (some (.builtin "object.__setattr__")))
    (mkW : PySem.W.makesIn K CW = true)
    (kcW : PySem.W.keepIn K (.ref CW) = true)
    (naW_garden : PySem.W.findIn K (.ref CW) "garden" = some none)
    (naW_squares : PySem.W.findIn K (.ref CW) "squares" = some none)
    (naW_thread : PySem.W.findIn K (.ref CW) "thread" = some none)
    (naW_gone : PySem.W.findIn K (.ref CW) "gone" = some none)
    (naW_seen : PySem.W.findIn K (.ref CW) "seen" = some none)
    (naW_must_turn : PySem.W.findIn K (.ref CW) "must_turn" = some none)
    (xR : K.lookup CR = some (excClassObj nmR qR CR NR bsR PySem.ESX.exTail true snR subR abR colR ddR m0 m1 m2 m3 m5 "Exception.__new__"))
    (saR : PySem.W.findIn K (.ref CR) "__setattr__" = some (some (.builtin "object.__setattr__")))
    (gaR : PySem.W.findIn K (.ref CR) "__getattribute__" = some (some (.builtin "BaseException.__getattribute__")))
    (ggR : PySem.W.findIn K (.ref CR) "__getattr__" = some none)
    (nbR : PySem.W.findIn K (.ref CR) "code" = some none)
    (iR : PySem.W.findIn K (.ref CR) "__init__" = some (some (.ref fR)))
    (tfR : PySem.W.typeIn K (.ref fR) = some (.type "function"))
    (lR : K.lookup fR = some ⟨ocR, odR, .func (PySem.W.fnOf "__init__" "Refused.__init__" PySem.RefX.iA PySem.RefX.iB PySem.RefX.iS .none .none dcR pmR anR cdR ctR), slR⟩)
    (cR : PySem.W.codeIn K cdR "Refused.__init__" = true)
    (kR : PySem.W.keepIn K (.ref CR) = true)
    (eR : PySem.W.subIn K (.ref CR) (.type "BaseException") = some true)
    (tR : PySem.W.typeIn K (.ref CR) = some (.type "type"))
    (hR : PySem.W.hasDictIn K CR = true)
    (icR : PySem.W.isClsIn K CR = true)
    (sR : PySem.W.subIn K (.ref CR) (.ref CR) = some true)
    (vR : PySem.W.findCls K (.type "Exception") (.type "type") "__init__" = some (.val (.builtin "Exception.__init__")))
    (agi : PySem.W.findIn K (.ref CG) "__init__" = some (some (.ref fgi)))
    (igi : PySem.W.isFn K (.ref fgi) = true)
    (lgi : K.lookup fgi = some ⟨ocgi, odgi, .func (PySem.W.fnOf "__init__" "Garden.__init__" (defArgs sGInit) (defBody sGInit) (defScope sGInit) .none kVgi dcgi pmgi angi cdgi ctgi), slgi⟩)
    (cgi : PySem.W.codeIn K cdgi "Garden.__init__" = true)
    (kgi : PySem.W.keepIn K (.ref fgi) = true)
    (agm : PySem.W.findIn K (.ref CG) "many" = some (some (.ref fgm)))
    (igm : PySem.W.isFn K (.ref fgm) = true)
    (lgm : K.lookup fgm = some ⟨ocgm, odgm, .func (PySem.W.fnOf "many" "Garden.many" (defArgs sMany) (defBody sMany) (defScope sMany) .none kVgm dcgm pmgm angm cdgm ctgm), slgm⟩)
    (cgm : PySem.W.codeIn K cdgm "Garden.many" = true)
    (kgm : PySem.W.keepIn K (.ref fgm) = true)
    (agh : PySem.W.findIn K (.ref CG) "has_passage" = some (some (.ref fgh)))
    (igh : PySem.W.isFn K (.ref fgh) = true)
    (lgh : K.lookup fgh = some ⟨ocgh, odgh, .func (PySem.W.fnOf "has_passage" "Garden.has_passage" (defArgs sHas) (defBody sHas) (defScope sHas) .none kVgh dcgh pmgh angh cdgh ctgh), slgh⟩)
    (cgh : PySem.W.codeIn K cdgh "Garden.has_passage" = true)
    (kgh : PySem.W.keepIn K (.ref fgh) = true)
    (agb : PySem.W.findIn K (.ref CG) "beside" = some (some (.ref fgb)))
    (igb : PySem.W.isFn K (.ref fgb) = true)
    (lgb : K.lookup fgb = some ⟨ocgb, odgb, .func (PySem.W.fnOf "beside" "Garden.beside" (defArgs sBeside) (defBody sBeside) (defScope sBeside) .none kVgb dcgb pmgb angb cdgb ctgb), slgb⟩)
    (cgb : PySem.W.codeIn K cdgb "Garden.beside" = true)
    (kgb : PySem.W.keepIn K (.ref fgb) = true)
    (awi : PySem.W.findIn K (.ref CW) "__init__" = some (some (.ref fwi)))
    (iwi : PySem.W.isFn K (.ref fwi) = true)
    (lwi : K.lookup fwi = some ⟨ocwi, odwi, .func (PySem.W.fnOf "__init__" "Walk.__init__" (defArgs sWInit) (defBody sWInit) (defScope sWInit) .none kVwi dcwi pmwi anwi cdwi ctwi), slwi⟩)
    (cwi : PySem.W.codeIn K cdwi "Walk.__init__" = true)
    (kwi : PySem.W.keepIn K (.ref fwi) = true)
    (awh : PySem.W.findIn K (.ref CW) "here" = some (some (.ref fwh)))
    (iwh : PySem.W.isFn K (.ref fwh) = true)
    (lwh : K.lookup fwh = some ⟨ocwh, odwh, .func (PySem.W.fnOf "here" "Walk.here" (defArgs sHere) (defBody sHere) (defScope sHere) .none kVwh dcwh pmwh anwh cdwh ctwh), slwh⟩)
    (cwh : PySem.W.codeIn K cdwh "Walk.here" = true)
    (kwh : PySem.W.keepIn K (.ref fwh) = true)
    (awb : PySem.W.findIn K (.ref CW) "way_back" = some (some (.ref fwb)))
    (iwb : PySem.W.isFn K (.ref fwb) = true)
    (lwb : K.lookup fwb = some ⟨ocwb, odwb, .func (PySem.W.fnOf "way_back" "Walk.way_back" (defArgs sWayBack) (defBody sWayBack) (defScope sWayBack) .none kVwb dcwb pmwb anwb cdwb ctwb), slwb⟩)
    (cwb : PySem.W.codeIn K cdwb "Walk.way_back" = true)
    (kwb : PySem.W.keepIn K (.ref fwb) = true)
    (aws : PySem.W.findIn K (.ref CW) "side_to" = some (some (.ref fws)))
    (iws : PySem.W.isFn K (.ref fws) = true)
    (lws : K.lookup fws = some ⟨ocws, odws, .func (PySem.W.fnOf "side_to" "Walk.side_to" (defArgs sSideTo) (defBody sSideTo) (defScope sSideTo) .none kVws dcws pmws anws cdws ctws), slws⟩)
    (cws : PySem.W.codeIn K cdws "Walk.side_to" = true)
    (kws : PySem.W.keepIn K (.ref fws) = true)
    (awn : PySem.W.findIn K (.ref CW) "next_side" = some (some (.ref fwn)))
    (iwn : PySem.W.isFn K (.ref fwn) = true)
    (lwn : K.lookup fwn = some ⟨ocwn, odwn, .func (PySem.W.fnOf "next_side" "Walk.next_side" (defArgs sNext) (defBody sNext) (defScope sNext) .none kVwn dcwn pmwn anwn cdwn ctwn), slwn⟩)
    (cwn : PySem.W.codeIn K cdwn "Walk.next_side" = true)
    (kwn : PySem.W.keepIn K (.ref fwn) = true)
    (awt : PySem.W.findIn K (.ref CW) "step" = some (some (.ref fwt)))
    (iwt : PySem.W.isFn K (.ref fwt) = true)
    (lwt : K.lookup fwt = some ⟨ocwt, odwt, .func (PySem.W.fnOf "step" "Walk.step" (defArgs sStep) (defBody sStep) (defScope sStep) .none kVwt dcwt pmwt anwt cdwt ctwt), slwt⟩)
    (cwt : PySem.W.codeIn K cdwt "Walk.step" = true)
    (kwt : PySem.W.keepIn K (.ref fwt) = true)
    (alo : PySem.W.nsIn K mainGlobals "lines_of" = some (some (.ref flo)))
    (llo : K.lookup flo = some ⟨oclo, odlo, .func (PySem.W.fnOf "lines_of" "lines_of" (defArgs sLinesOf) (defBody sLinesOf) (defScope sLinesOf) .none kVlo dclo pmlo anlo cdlo ctlo), sllo⟩)
    (clo : PySem.W.codeIn K cdlo "lines_of" = true)
    (klo : PySem.W.keepIn K (.ref flo) = true)
    (alv : PySem.W.nsIn K mainGlobals "is_level_line" = some (some (.ref flv)))
    (llv : K.lookup flv = some ⟨oclv, odlv, .func (PySem.W.fnOf "is_level_line" "is_level_line" (defArgs sLevel) (defBody sLevel) (defScope sLevel) .none kVlv dclv pmlv anlv cdlv ctlv), sllv⟩)
    (clv : PySem.W.codeIn K cdlv "is_level_line" = true)
    (klv : PySem.W.keepIn K (.ref flv) = true)
    (aup : PySem.W.nsIn K mainGlobals "is_upright_line" = some (some (.ref fup)))
    (lup : K.lookup fup = some ⟨ocup, odup, .func (PySem.W.fnOf "is_upright_line" "is_upright_line" (defArgs sUpright) (defBody sUpright) (defScope sUpright) .none kVup dcup pmup anup cdup ctup), slup⟩)
    (cup : PySem.W.codeIn K cdup "is_upright_line" = true)
    (kup : PySem.W.keepIn K (.ref fup) = true)
    (asd : PySem.W.nsIn K mainGlobals "is_side" = some (some (.ref fsd)))
    (lsd : K.lookup fsd = some ⟨ocsd, odsd, .func (PySem.W.fnOf "is_side" "is_side" (defArgs sSide) (defBody sSide) (defScope sSide) .none kVsd dcsd pmsd ansd cdsd ctsd), slsd⟩)
    (csd : PySem.W.codeIn K cdsd "is_side" = true)
    (ksd : PySem.W.keepIn K (.ref fsd) = true)
    (ard : PySem.W.nsIn K mainGlobals "read_garden" = some (some (.ref frd)))
    (lrd : K.lookup frd = some ⟨ocrd, odrd, .func (PySem.W.fnOf "read_garden" "read_garden" (defArgs sRead) (defBody sRead) (defScope sRead) .none kVrd dcrd pmrd anrd cdrd ctrd), slrd⟩)
    (crd : PySem.W.codeIn K cdrd "read_garden" = true)
    (krd : PySem.W.keepIn K (.ref frd) = true)
    (ago : PySem.W.nsIn K mainGlobals "garden_of" = some (some (.ref fgo)))
    (lgo : K.lookup fgo = some ⟨ocgo, odgo, .func (PySem.W.fnOf "garden_of" "garden_of" (defArgs sGardenOf) (defBody sGardenOf) (defScope sGardenOf) .none kVgo dcgo pmgo ango cdgo ctgo), slgo⟩)
    (cgo : PySem.W.codeIn K cdgo "garden_of" = true)
    (kgo : PySem.W.keepIn K (.ref fgo) = true)
    (aak : PySem.W.nsIn K mainGlobals "ask_square" = some (some (.ref fak)))
    (lak : K.lookup fak = some ⟨ocak, odak, .func (PySem.W.fnOf "ask_square" "ask_square" (defArgs sAsk) (defBody sAsk) (defScope sAsk) .none kVak dcak pmak anak cdak ctak), slak⟩)
    (cak : PySem.W.codeIn K cdak "ask_square" = true)
    (kak : PySem.W.keepIn K (.ref fak) = true)
    (awk : PySem.W.nsIn K mainGlobals "walked" = some (some (.ref fwk)))
    (lwk : K.lookup fwk = some ⟨ocwk, odwk, .func (PySem.W.fnOf "walked" "walked" (defArgs sWalked) (defBody sWalked) (defScope sWalked) .none kVwk dcwk pmwk anwk cdwk ctwk), slwk⟩)
    (cwk : PySem.W.codeIn K cdwk "walked" = true)
    (kwk : PySem.W.keepIn K (.ref fwk) = true)
    (aaf : PySem.W.nsIn K mainGlobals "walk_after" = some (some (.ref faf)))
    (laf : K.lookup faf = some ⟨ocaf, odaf, .func (PySem.W.fnOf "walk_after" "walk_after" (defArgs sAfter) (defBody sAfter) (defScope sAfter) .none kVaf dcaf pmaf anaf cdaf ctaf), slaf⟩)
    (caf : PySem.W.codeIn K cdaf "walk_after" = true)
    (kaf : PySem.W.keepIn K (.ref faf) = true)
    (aan : PySem.W.nsIn K mainGlobals "at" = some (some (.ref fan)))
    (lan : K.lookup fan = some ⟨ocan, odan, .func (PySem.W.fnOf "at" "at" (defArgs sAns) (defBody sAns) (defScope sAns) .none kVan dcan pman anan cdan ctan), slan⟩)
    (can : PySem.W.codeIn K cdan "at" = true)
    (kan : PySem.W.keepIn K (.ref fan) = true) :
    ∃ fd : FuncData, (∀ (s : Shared) (us : List Value), us.length = (["s", "i", "garden"] : List Str).length → BindsTo s fd ⟨us, []⟩ ((["s", "i", "garden"] : List Str).zip us)) ∧ ∀ base : Heap, K.In base → base.Ns mainGlobals mg → FnOk P w K mg base CX0 10 fa fd ["s", "i", "garden"] (spAns K) := by
  have e := hfa.symm.trans (PySem.W.mg_of X G aan)
  cases e
  have low : PySem.RefX.RefTxt K mg CR fR :=
    { gC := PySem.W.mg_of X G aR, cls := ⟨nmR, qR, NR, bsR, snR, subR, abR, colR, ddR, m0, m1, m2, m3, m5, xR⟩, sa := saR, ga := gaR, gg := ggR, noN := nbR, iC := iR, tC := tfR, kC := kR, exC := eR, tyC := tR, hdC := hR, te := exm_self eR icR tR sR,
      nE := PySem.W.mg_none_of X G n_Exc, vE := vR, fn := ⟨_, _, _, _, _, _, _, _, lR, cR⟩ }
  have TG : TxtG K mg CG := { cl := ⟨pgG, hdG, poG, saG⟩, nW := naG_wide, nH := naG_high, nL := naG_lines, gC := PySem.W.mg_of X G aG, NEWLINE := ⟨_, PySem.W.mg_of X G c_NEWLINE, ⟨_, rfl⟩⟩, BLANK := ⟨_, PySem.W.mg_of X G c_BLANK, ⟨_, rfl⟩⟩, CORNER := ⟨_, PySem.W.mg_of X G c_CORNER, ⟨_, rfl⟩⟩, LEVEL := ⟨_, PySem.W.mg_of X G c_LEVEL, ⟨_, rfl⟩⟩, UPRIGHT := ⟨_, PySem.W.mg_of X G c_UPRIGHT, ⟨_, rfl⟩⟩, MOST := ⟨_, PySem.W.mg_of X G c_MOST, ⟨_, rfl⟩⟩, UPPER := ⟨_, PySem.W.mg_of X G c_UPPER, ⟨_, rfl⟩⟩, RIGHT := ⟨_, PySem.W.mg_of X G c_RIGHT, ⟨_, rfl⟩⟩, LOWER := ⟨_, PySem.W.mg_of X G c_LOWER, ⟨_, rfl⟩⟩, len := PySem.W.mg_none_of X G n_len, range := PySem.W.mg_none_of X G n_range }
  have TW : TxtW K mg CW := { cl := ⟨pgW, hdW, poW, saW⟩, nG := naW_garden, nS := naW_squares, nT := naW_thread, nO := naW_gone, nE := naW_seen, nM := naW_must_turn, gW := PySem.W.mg_of X G aW, SIDES := ⟨_, PySem.W.mg_of X G c_SIDES, ⟨_, rfl⟩⟩, len := PySem.W.mg_none_of X G n_len, range := PySem.W.mg_none_of X G n_range }
  have TR : TxtR K mg CR fR := { ref := low, TOO_LONG := ⟨_, PySem.W.mg_of X G c_TOO_LONG, ⟨_, rfl⟩⟩, FAULT := ⟨_, PySem.W.mg_of X G c_FAULT, ⟨_, rfl⟩⟩, LONGEST := ⟨_, PySem.W.mg_of X G c_LONGEST, ⟨_, rfl⟩⟩ }
  have TS : TxtS K mg := { NO_SQUARE := ⟨_, PySem.W.mg_of X G c_NO_SQUARE, ⟨_, rfl⟩⟩, ALL_STEPS := ⟨_, PySem.W.mg_of X G c_ALL_STEPS, ⟨_, rfl⟩⟩ }
  have TD : TxtD K mg := { NEVER := ⟨_, PySem.W.mg_of X G c_NEVER, ⟨_, rfl⟩⟩, min := PySem.W.mg_none_of X G n_min }
  have Fgi := fun_mk (st := sGInit) lgi cgi kgi
  have bgi := Fgi.binds (ps := ["self", "lines"]) fun _ _ _ _ _ _ us hl => match us, hl with | [_, _], _ => rfl
  have Fgm := fun_mk (st := sMany) lgm cgm kgm
  have bgm := Fgm.binds (ps := ["self"]) fun _ _ _ _ _ _ us hl => match us, hl with | [_], _ => rfl
  have Fgh := fun_mk (st := sHas) lgh cgh kgh
  have bgh := Fgh.binds (ps := ["self", "square", "side"]) fun _ _ _ _ _ _ us hl => match us, hl with | [_, _, _], _ => rfl
  have Fgb := fun_mk (st := sBeside) lgb cgb kgb
  have bgb := Fgb.binds (ps := ["self", "square", "side"]) fun _ _ _ _ _ _ us hl => match us, hl with | [_, _, _], _ => rfl
  have Fwi := fun_mk (st := sWInit) lwi cwi kwi
  have bwi := Fwi.binds (ps := ["self", "garden", "start"]) fun _ _ _ _ _ _ us hl => match us, hl with | [_, _, _], _ => rfl
  have Fwh := fun_mk (st := sHere) lwh cwh kwh
  have bwh := Fwh.binds (ps := ["self"]) fun _ _ _ _ _ _ us hl => match us, hl with | [_], _ => rfl
  have Fwb := fun_mk (st := sWayBack) lwb cwb kwb
  have bwb := Fwb.binds (ps := ["self"]) fun _ _ _ _ _ _ us hl => match us, hl with | [_], _ => rfl
  have Fws := fun_mk (st := sSideTo) lws cws kws
  have bws := Fws.binds (ps := ["self", "other"]) fun _ _ _ _ _ _ us hl => match us, hl with | [_, _], _ => rfl
  have Fwn := fun_mk (st := sNext) lwn cwn kwn
  have bwn := Fwn.binds (ps := ["self"]) fun _ _ _ _ _ _ us hl => match us, hl with | [_], _ => rfl
  have Fwt := fun_mk (st := sStep) lwt cwt kwt
  have bwt := Fwt.binds (ps := ["self", "side"]) fun _ _ _ _ _ _ us hl => match us, hl with | [_, _], _ => rfl
  have Flo := fun_mk (st := sLinesOf) llo clo klo
  have blo := Flo.binds (ps := ["text"]) fun _ _ _ _ _ _ us hl => match us, hl with | [_], _ => rfl
  have Flv := fun_mk (st := sLevel) llv clv klv
  have blv := Flv.binds (ps := ["line", "is_border"]) fun _ _ _ _ _ _ us hl => match us, hl with | [_, _], _ => rfl
  have Fup := fun_mk (st := sUpright) lup cup kup
  have bup := Fup.binds (ps := ["line"]) fun _ _ _ _ _ _ us hl => match us, hl with | [_], _ => rfl
  have Fsd := fun_mk (st := sSide) lsd csd ksd
  have bsd := Fsd.binds (ps := ["number"]) fun _ _ _ _ _ _ us hl => match us, hl with | [_], _ => rfl
  have Frd := fun_mk (st := sRead) lrd crd krd
  have brd := Frd.binds (ps := ["text"]) fun _ _ _ _ _ _ us hl => match us, hl with | [_], _ => rfl
  have Fgo := fun_mk (st := sGardenOf) lgo cgo kgo
  have bgo := Fgo.binds (ps := ["text"]) fun _ _ _ _ _ _ us hl => match us, hl with | [_], _ => rfl
  have Fak := fun_mk (st := sAsk) lak cak kak
  have bak := Fak.binds (ps := ["garden", "square"]) fun _ _ _ _ _ _ us hl => match us, hl with | [_, _], _ => rfl
  have Fwk := fun_mk (st := sWalked) lwk cwk kwk
  have bwk := Fwk.binds (ps := ["garden", "start", "most"]) fun _ _ _ _ _ _ us hl => match us, hl with | [_, _, _], _ => rfl
  have Faf := fun_mk (st := sAfter) laf caf kaf
  have baf := Faf.binds (ps := ["s", "i", "garden"]) fun _ _ _ _ _ _ us hl => match us, hl with | [_, _, _], _ => rfl
  have Fan := fun_mk (st := sAns) lan can kan
  have Mgi : Mk K CG fgi := ⟨mkG, agi, igi, kcG⟩
  have Mwi : Mk K CW fwi := ⟨mkW, awi, iwi, kcW⟩
  have Mgm : Meth K CG "many" fgm := ⟨agm, igm, kgm⟩
  have Mgh : Meth K CG "has_passage" fgh := ⟨agh, igh, kgh⟩
  have Mgb : Meth K CG "beside" fgb := ⟨agb, igb, kgb⟩
  have Mwh : Meth K CW "here" fwh := ⟨awh, iwh, kwh⟩
  have Mwb : Meth K CW "way_back" fwb := ⟨awb, iwb, kwb⟩
  have Mws : Meth K CW "side_to" fws := ⟨aws, iws, kws⟩
  have Mwn : Meth K CW "next_side" fwn := ⟨awn, iwn, kwn⟩
  have Mwt : Meth K CW "step" fwt := ⟨awt, iwt, kwt⟩
  have mlo := PySem.W.mg_of X G alo
  have mlv := PySem.W.mg_of X G alv
  have mup := PySem.W.mg_of X G aup
  have msd := PySem.W.mg_of X G asd
  have mrd := PySem.W.mg_of X G ard
  have mgo := PySem.W.mg_of X G ago
  have mak := PySem.W.mg_of X G aak
  have mwk := PySem.W.mg_of X G awk
  have maf := PySem.W.mg_of X G aaf
  refine ⟨PySem.W.fnOf "at" "at" (defArgs sAns) (defBody sAns) (defScope sAns) .none kVan dcan pman anan cdan ctan, fun s us hu => match us, hu with | [_, _, _], _ => .of_eq rfl, fun base _ _ => ?_⟩
  have Ggi : FnOk P w K mg base CX0 1 fgi _ _ _ := ok_ginit Fgi TG
  have Ggm : FnOk P w K mg base CX0 1 fgm _ _ _ := ok_many Fgm TG
  have Ggh : FnOk P w K mg base CX0 1 fgh _ _ _ := ok_has Fgh TG
  have Ggb : FnOk P w K mg base CX0 1 fgb _ _ _ := ok_beside Fgb TG
  have Glo : FnOk P w K mg base CX0 1 flo _ _ _ := ok_lines Flo TG
  have Glv : FnOk P w K mg base CX0 1 flv _ _ _ := ok_level Flv TG
  have Gup : FnOk P w K mg base CX0 1 fup _ _ _ := ok_upright Fup TG
  have Gsd : FnOk P w K mg base CX0 1 fsd _ _ _ := ok_side Fsd TG
  have R : CallsR P w K mg base CG := ⟨⟨_, _, mlo, klo, blo, Glo⟩, ⟨_, _, msd, ksd, bsd, Gsd⟩, ⟨_, _, mlv, klv, blv, Glv⟩, ⟨_, _, mup, kup, bup, Gup⟩, ⟨_, _, Mgi, bgi, Ggi⟩⟩
  have Grd : FnOk P w K mg base CX0 3 frd _ _ _ := ok_read Frd TG R
  have Ggo : FnOk P w K mg base (L2.CX P w) 4 fgo _ _ _ := ok_gardenOf Fgo TG TR mrd krd brd Grd
  have MG : MethsG P w K mg base CG := ⟨TG.cl, ⟨_, _, Mgh, bgh, Ggh⟩, ⟨_, _, Mgb, bgb, Ggb⟩⟩
  have Gwi : FnOk P w K mg base CX0 1 fwi _ _ _ := ok_winit Fwi TW
  have Gwh : FnOk P w K mg base CX0 1 fwh _ _ _ := ok_here Fwh TW
  have Gws : FnOk P w K mg base CX0 2 fws _ _ _ := ok_sideTo Fws TW MG Mwh bwh Gwh
  have Gwb : FnOk P w K mg base CX0 3 fwb _ _ _ := ok_wayBack Fwb TW Mws bws Gws
  have Gwn : FnOk P w K mg base CX0 4 fwn _ _ _ := ok_next Fwn TW MG Mwh bwh Gwh Mwb bwb Gwb
  have Gwt : FnOk P w K mg base CX0 2 fwt _ _ _ := ok_step Fwt TW MG Mwh bwh Gwh
  have Gwk : FnOk P w K mg base CX0 5 fwk _ _ _ := ok_walked Fwk TW Mwi bwi Gwi Mwn bwn Gwn Mwt bwt Gwt
  have Gak : FnOk P w K mg base (L2.CX P w) 3 fak _ _ _ := ok_ask Fak TG TR TS Mgm bgm Ggm
  have Gaf : FnOk P w K mg base (L2.CX P w) 7 faf _ _ _ := ok_after AG Faf TG TW TR TS TD ⟨⟨_, _, mgo, kgo, bgo, Ggo⟩, ⟨_, _, mak, kak, bak, Gak⟩, ⟨_, _, mwk, kwk, bwk, Gwk⟩⟩
  exact ok_ans Fan TG TW TR ⟨_, _, maf, kaf, baf, Gaf⟩ Mwh bwh Gwh
end Tw
open PySem PySem.W PyProof.Rows
set_option maxRecDepth 100000 in
set_option maxHeartbeats 8000000 in
theorem PySem.Challenge.cw_threadwalk_s02_at_holds : PySem.Challenge.rw_threadwalk_s02_at.Holds := by
  w_on; k_headS; (case hw => exact ⟨[.int 0, .int 0, .list []], by decide +kernel, by decide +kernel⟩)
  k_fillS
  refine L2.walk_specK (r := PySem.Challenge.rw_threadwalk_s02_at) (k := 10) (CX := L2.CX0) (ps := ["s", "i", "garden"]) (sp := Tw.spAns) (by decide +kernel) rfl rfl ⟨rfl, by decide, by decide⟩ (fun w h Y => PySem.W.kIn_of Y) ?F ?S (fun _ _ _ _ z => z)
  case F =>
    intro w mg fa h Y KX G hmg
    refine' Tw.all_mk Tw.all_gd KX G hmg ?c_NEWLINE ?c_BLANK ?c_CORNER ?c_LEVEL ?c_UPRIGHT ?c_MOST ?c_UPPER ?c_RIGHT ?c_LOWER ?c_TOO_LONG ?c_FAULT ?c_NO_SQUARE ?c_LONGEST ?c_SIDES ?c_NEVER ?c_ALL_STEPS ?n_len ?n_range ?n_min ?n_Exc ?aG ?aW ?aR ?pgG ?hdG ?poG ?saG ?mkG ?kcG ?naG_wide ?naG_high ?naG_lines ?pgW ?hdW ?poW ?saW ?mkW ?kcW ?naW_garden ?naW_squares ?naW_thread ?naW_gone ?naW_seen ?naW_must_turn ?xR ?saR ?gaR ?ggR ?nbR ?iR ?tfR ?lR ?cR ?kR ?eR ?tR ?hR ?icR ?sR ?vR ?agi ?igi ?lgi ?cgi ?kgi ?agm ?igm ?lgm ?cgm ?kgm ?agh ?igh ?lgh ?cgh ?kgh ?agb ?igb ?lgb ?cgb ?kgb ?awi ?iwi ?lwi ?cwi ?kwi ?awh ?iwh ?lwh ?cwh ?kwh ?awb ?iwb ?lwb ?cwb ?kwb ?aws ?iws ?lws ?cws ?kws ?awn ?iwn ?lwn ?cwn ?kwn ?awt ?iwt ?lwt ?cwt ?kwt ?alo ?llo ?clo ?klo ?alv ?llv ?clv ?klv ?aup ?lup ?cup ?kup ?asd ?lsd ?csd ?ksd ?ard ?lrd ?crd ?krd ?ago ?lgo ?cgo ?kgo ?aak ?lak ?cak ?kak ?awk ?lwk ?cwk ?kwk ?aaf ?laf ?caf ?kaf ?aan ?lan ?can ?kan
    (case c_NEWLINE => k_is)
    (case c_BLANK => k_is)
    (case c_CORNER => k_is)
    (case c_LEVEL => k_is)
    (case c_UPRIGHT => k_is)
    (case c_MOST => k_is)
    (case c_UPPER => k_is)
    (case c_RIGHT => k_is)
    (case c_LOWER => k_is)
    (case c_TOO_LONG => k_is)
    (case c_FAULT => k_is)
    (case c_NO_SQUARE => k_is)
    (case c_LONGEST => k_is)
    (case c_SIDES => k_is)
    (case c_NEVER => k_is)
    (case c_ALL_STEPS => k_is)
    (case n_len => k_is)
    (case n_range => k_is)
    (case n_min => k_is)
    (case n_Exc => k_is)
    (case aG => k_is)
    (case aW => k_is)
    (case aR => k_is)
    (case pgG => k_is)
    (case hdG => k_is)
    (case poG => k_is)
    (case saG => k_is)
    (case mkG => k_is)
    (case kcG => k_is)
    (case naG_wide => k_is)
    (case naG_high => k_is)
    (case naG_lines => k_is)
    (case pgW => k_is)
    (case hdW => k_is)
    (case poW => k_is)
    (case saW => k_is)
    (case mkW => k_is)
    (case kcW => k_is)
    (case naW_garden => k_is)
    (case naW_squares => k_is)
    (case naW_thread => k_is)
    (case naW_gone => k_is)
    (case naW_seen => k_is)
    (case naW_must_turn => k_is)
    (case xR => k_is)
    (case saR => k_is)
    (case gaR => k_is)
    (case ggR => k_is)
    (case nbR => k_is)
    (case iR => k_is)
    (case tfR => k_is)
    (case lR => k_is)
    (case cR => k_is)
    (case kR => k_is)
    (case eR => k_is)
    (case tR => k_is)
    (case hR => k_is)
    (case icR => k_is)
    (case sR => first | rfl | k_is)
    (case vR => first | k_is | rfl | decide +kernel)
    (case agi => k_is)
    (case igi => k_is)
    (case lgi => k_is)
    (case cgi => k_is)
    (case kgi => k_is)
    (case agm => k_is)
    (case igm => k_is)
    (case lgm => k_is)
    (case cgm => k_is)
    (case kgm => k_is)
    (case agh => k_is)
    (case igh => k_is)
    (case lgh => k_is)
    (case cgh => k_is)
    (case kgh => k_is)
    (case agb => k_is)
    (case igb => k_is)
    (case lgb => k_is)
    (case cgb => k_is)
    (case kgb => k_is)
    (case awi => k_is)
    (case iwi => k_is)
    (case lwi => k_is)
    (case cwi => k_is)
    (case kwi => k_is)
    (case awh => k_is)
    (case iwh => k_is)
    (case lwh => k_is)
    (case cwh => k_is)
    (case kwh => k_is)
    (case awb => k_is)
    (case iwb => k_is)
    (case lwb => k_is)
    (case cwb => k_is)
    (case kwb => k_is)
    (case aws => k_is)
    (case iws => k_is)
    (case lws => k_is)
    (case cws => k_is)
    (case kws => k_is)
    (case awn => k_is)
    (case iwn => k_is)
    (case lwn => k_is)
    (case cwn => k_is)
    (case kwn => k_is)
    (case awt => k_is)
    (case iwt => k_is)
    (case lwt => k_is)
    (case cwt => k_is)
    (case kwt => k_is)
    (case alo => k_is)
    (case llo => k_is)
    (case clo => k_is)
    (case klo => k_is)
    (case alv => k_is)
    (case llv => k_is)
    (case clv => k_is)
    (case klv => k_is)
    (case aup => k_is)
    (case lup => k_is)
    (case cup => k_is)
    (case kup => k_is)
    (case asd => k_is)
    (case lsd => k_is)
    (case csd => k_is)
    (case ksd => k_is)
    (case ard => k_is)
    (case lrd => k_is)
    (case crd => k_is)
    (case krd => k_is)
    (case ago => k_is)
    (case lgo => k_is)
    (case cgo => k_is)
    (case kgo => k_is)
    (case aak => k_is)
    (case lak => k_is)
    (case cak => k_is)
    (case kak => k_is)
    (case awk => k_is)
    (case lwk => k_is)
    (case cwk => k_is)
    (case kwk => k_is)
    (case aaf => k_is)
    (case laf => k_is)
    (case caf => k_is)
    (case kaf => k_is)
    (case aan => k_is)
    (case lan => k_is)
    (case can => k_is)
    (case kan => k_is)
  case S =>
    intro K H xs a hO hwi hask hx
    exact Tw.request K H xs a hwi hx
#print axioms PySem.Challenge.cw_threadwalk_s02_at_holds
