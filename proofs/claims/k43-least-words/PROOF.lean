import PyProof.Rows.All
import Wide.All
import OpenK.AllK
import Wide.FinOn
import KE.DataFind
import HandS.ForMost
import HandS.ForExc
import HandS.Defaults
import HandS.IsInst
import HandS.Codes
import HandS.DictComp
import HandS.Deep
import HandS.Style
import HandS.Flow
import HandS.ForSpec
import HandS.ExcInit
import HandS.HeadHook4
import HandS.Lambda
import KE.SortData
import KE.SortKeyHeap
import HandS.More
import HandS.ExcValue
import KE.GoesMore
import KE.GoesEnum
import PyProof.StrBlock2
import PyProof.ListStr
import HandS.Zip
import HandS.Walk
import HandS.Conv
import HandS.EndTab
import PySem.Challenge.RW_lostletters_k43_least_words
import HandS.Head0
import HandS.Head1
import HandS.Head2
import HandS.HeadEnd
import HandS.HeadHook1
import HandS.HeadHook2
import HandS.HeadHook3
import HandS.HeadWalk
import HandS.Words
set_option Elab.async false
set_option linter.all false
set_option maxRecDepth 100000
set_option maxHeartbeats 4000000
namespace Lo
open PySem PySem.Spec PyProof.Rows L2

/-! ### a def as its callers take it -/
structure FnA (P : Program) (w : World) (K : PySem.W.Frag) (mg : Str → Option Value) (base : Heap) (CX : CXT) (k : Nat) (x : Str) (ps : List Str) (sp : Sp) where
  f : Addr
  fd : FuncData
  ok : FnOk P w K mg base CX k f fd ps sp
  g : mg x = some (.ref f)
  kp : PySem.W.keepIn K (.ref f) = true
  b : Binds K fd ps []

section
variable {X : Cx} {k : Nat} {x : Str} {ps : List Str} {sp : Sp} {e : Expr} {es : List Expr} {p pos : Pos} {t : TA}
/-- a call of a def from which no exception comes -/
theorem pe_fn (G : FnA X.prog X.w X.K X.mg X.base CX0 k x ps sp) (hr : Room k X.A) (ha : PA X (e :: es) t) (hg : Gl X x := by rfl) (hdb : (x == ("__debug__" : Str)) = false := by decide)
    (he : starEach (e :: es) X.env = (false, eval e X.env) :: starEach es X.env := by rfl) (hpl : (backTo pos (starEach es X.env)).any (·.1) = false := by rfl) :
    PE X (.Call (.Name x p) (e :: es) [] pos) (tCall sp [] E0 t) := pe_call G.ok hr hg G.g G.kp G.b .nil pass0 ha hdb he hpl
/-- of a def that may raise, where what it raises is taken -/
theorem pe_fnX {E : XK} (G : FnA X.prog X.w X.K X.mg X.base (L2.CX X.prog X.w) k x ps sp) (hr : Room k X.A) (hx : Passes (L2.CX X.prog X.w) X E) (ha : PA X (e :: es) t) (hg : Gl X x := by rfl) (hdb : (x == ("__debug__" : Str)) = false := by decide)
    (he : starEach (e :: es) X.env = (false, eval e X.env) :: starEach es X.env := by rfl) (hpl : (backTo pos (starEach es X.env)).any (·.1) = false := by rfl) :
    PE X (.Call (.Name x p) (e :: es) [] pos) (tCall sp [] E t) := pe_call G.ok hr hg G.g G.kp G.b .nil hx ha hdb he hpl
/-- .. that raises nothing here -/
theorem pe_fnN (G : FnA X.prog X.w X.K X.mg X.base (L2.CX X.prog X.w) k x ps sp) (hr : Room k X.A) (ha : PA X (e :: es) t) (hg : Gl X x := by rfl) (hdb : (x == ("__debug__" : Str)) = false := by decide)
    (he : starEach (e :: es) X.env = (false, eval e X.env) :: starEach es X.env := by rfl) (hpl : (backTo pos (starEach es X.env)).any (·.1) = false := by rfl) :
    PE X (.Call (.Name x p) (e :: es) [] pos) (tCall sp [] E0 t) := pe_fnX G hr passL ha hg hdb he hpl
theorem PE.or {e : Expr} {t u : TE} (h1 : PE X e t) (h2 : PE X e u) : PE X e (fun σ H Q => t σ H Q ∨ u σ H Q) :=
  ⟨fun pins s σ H Q I h => h.elim (h1.run pins s σ H Q I) (h2.run pins s σ H Q I)⟩
theorem PI.or {tg e : Expr} {t u : TI} (h1 : PI X tg e t) (h2 : PI X tg e u) : PI X tg e (fun σ H R => t σ H R ∨ u σ H R) :=
  ⟨fun pins s σ H R I h => h.elim (h1.run pins s σ H R I) (h2.run pins s σ H R I)⟩
end

/-! ### list.count of data -/
def rCountD (K : PySem.W.Frag) : V → List V → Hp → VK → Prop := fun x xs H Q => ∃ (a : Addr) (y : V) (d : PyData) (ds : List PyData), x = V.ref a ∧ xs = [y] ∧ Dp K H (V.ref a) (.list ds) ∧ Dp K H y d ∧
  SeqAt.shaped (.list ds) = true ∧ SeqAt.shaped d = true ∧ PyData.plainAll ds = true ∧ d.plain = true ∧ Q (.int ((ds.countP fun z => PyData.eqv z d : Nat) : Int)) H
section
variable {X : Cx}
theorem mt_countD (hu : X.A.units + 65 < cLine) : MtR X "list.count" (rCountD X.K) := by
  intro pins s σ H x xs v us Q I rx rxs h
  obtain ⟨a, y, d, ds, rfl, rfl, hl, hy, sl, sd, pl, pd, q⟩ := h
  cases rx
  cases rxs with
  | cons ry rt =>
    rename_i uy ut
    cases rt
    obtain ⟨bs, r1⟩ := Dp.reads I d y uy hy ry
    have hroom : X.A.units + 1 + min (PyData.depthAll ds) d.depth < cLine := room_in_shaped sd hu
    cases hl with
    | lst hs ha =>
      obtain ⟨its, rv, ho, hlen⟩ := I.list hs
      obtain ⟨as, h4⟩ := Dp.readsAll I ds _ its ha rv
      exact SeqAt.count_list_data (vs := its.toArray) ho.isList (by simpa using h4) r1 pl pd hroom ⟨.int _, H, I.tok _, ⟨_, rfl⟩, q⟩
end
end Lo

namespace Lo
open PySem PySem.Spec PyProof.Rows L2
/-! ### readings by short names -/
abbrev rLenU (K : PySem.W.Frag) : List V → Hp → VK → Prop := fun xs H Q => ∃ x n, xs = [x] ∧ LenV K x H n ∧ Q (.int (n : Nat)) H
abbrev rLenD : List V → Hp → VK → Prop := fun xs H Q => ∃ a kvs, xs = [V.ref a] ∧ H a = some (.dK kvs) ∧ Q (.int kvs.length) H
abbrev rListOf (K : PySem.W.Frag) : List V → Hp → VK → Prop := fun xs H Q => ∃ p ys, xs = [.ref p] ∧ (SqL K H p ys ∨ SqT K H p ys) ∧ ∀ l, H l = none → Q (.ref l) (upd H l (.lst ys))
abbrev rTupleOf (K : PySem.W.Frag) : List V → Hp → VK → Prop := fun xs H Q => ∃ p ys, xs = [.ref p] ∧ ((SqL K H p ys ∧ ∀ l, H l = none → Q (.ref l) (upd H l (.tup ys))) ∨ (SqT K H p ys ∧ Q (.ref p) H))
abbrev rDictP (K : PySem.W.Frag) : List V → Hp → VK → Prop := fun xs H Q => ∃ (a : Addr) (ps : List Addr) (kvs : List (Key × V)), xs = [.ref a] ∧ SqL K H a (ps.map V.ref) ∧ Paired (fun p kv => SqT K H p [kV kv.1, kv.2]) ps kvs ∧ ∀ p, H p = none → Q (.ref p) (upd H p (.dK (mergeK [] kvs)))
abbrev rInt1 : List V → Hp → VK → Prop := fun xs H Q => (∃ i, xs = [.int i] ∧ Q (.int i) H) ∨ ∃ k, xs = [.bl k] ∧ Q (.int (if k then 1 else 0)) H
abbrev rBool1 : List V → Hp → VK → Prop := fun xs H Q => (∃ i, xs = [.int i] ∧ Q (.bl (i != 0)) H) ∨ ∃ k, xs = [.bl k] ∧ Q (.bl k) H
abbrev rJoin (K : PySem.W.Frag) : V → List V → Hp → VK → Prop := fun x xs H Q => ∃ a p, ∃ ys : List Str, x = .str a ∧ xs = [.ref p] ∧ (SqL K H p (ys.map V.str) ∨ SqT K H p (ys.map V.str)) ∧
  (ys.map (·.length)).sum + ys.length * a.length ≤ 16777216 ∧ Q (.str (Txt.join a ys)) H
abbrev rFind : V → List V → Hp → VK → Prop := fun x xs H Q => ∃ a b, x = .str a ∧ xs = [.str b] ∧ Q (.int (Txt.find a b)) H
def rIsN : R2 := fun x y H Q => y = .non ∧ Q (.bl (decide (x = .non))) H
def rNotN : R2 := fun x y H Q => y = .non ∧ Q (.bl (!decide (x = .non))) H
def rInS : R2 := fun x y H Q => ∃ (c : Nat) (z : PySem.Str), x = .str ⟨#[c]⟩ ∧ y = .str z ∧ Q (.bl (decide (c ∈ z.cps.toList))) H
def rNotInS : R2 := fun x y H Q => ∃ (c : Nat) (z : PySem.Str), x = .str ⟨#[c]⟩ ∧ y = .str z ∧ Q (.bl (!decide (c ∈ z.cps.toList))) H
def rAddS : R2 := fun x y H Q => ∃ i j, x = .str i ∧ y = .str j ∧ i.length + j.length ≤ sizeLine ∧ Q (.str (i ++ j)) H
theorem op_isN1 {X : Cx} : OpR X (compareOp .Is) rIsN := op_isN
theorem op_notN1 {X : Cx} : OpR X (compareOp .IsNot) rNotN := op_notN
theorem op_inS {X : Cx} : OpR X (compareOp .In) rInS := op_in_sign
theorem op_notInS {X : Cx} : OpR X (compareOp .NotIn) rNotInS := op_notIn_sign
/-! ### the built-in names -/
theorem bt_list : bootBuiltins "list" = some (.type "list") := by decide +kernel
theorem bt_tuple : bootBuiltins "tuple" = some (.type "tuple") := by decide +kernel
theorem bt_dict : bootBuiltins "dict" = some (.type "dict") := by decide +kernel
theorem bt_int : bootBuiltins "int" = some (.type "int") := by decide +kernel
theorem bt_str : bootBuiltins "str" = some (.type "str") := by decide +kernel
theorem bt_bool : bootBuiltins "bool" = some (.type "bool") := by decide +kernel
theorem bt_len : bootBuiltins "len" = some (.builtin "len") := by decide +kernel
theorem bt_isinstance : bootBuiltins "isinstance" = some (.builtin "isinstance") := by decide +kernel
theorem bt_all : bootBuiltins "all" = some (.builtin "all") := by decide +kernel
theorem bt_any : bootBuiltins "any" = some (.builtin "any") := by decide +kernel
theorem bt_sum : bootBuiltins "sum" = some (.builtin "sum") := by decide +kernel
theorem bt_sorted : bootBuiltins "sorted" = some (.builtin "sorted") := by decide +kernel
/-! ### a def of the text, where it stands -/
structure DefAt (K : PySem.W.Frag) (mg : PySem.Str → Option Value) (x : PySem.Str) (st : Stmt) where
  f : Addr
  fd : FuncData
  F : FunD K x x (defArgs st) (defBody st) (defScope st) [] [] f fd
  g : mg x = some (.ref f)
section
variable {P : Program} {w : World} {K : PySem.W.Frag} {mg : PySem.Str → Option Value} {base : Heap} {x : PySem.Str} {st : Stmt} {CX : CXT} {k : Nat} {sp : Sp}
def DefAt.a {ps : List PySem.Str} (D : DefAt K mg x st) (ok : FnOk P w K mg base CX k D.f D.fd ps sp)
    (h : ∀ (kV doc pm : Value) (an : Option Addr) (cdv ct : Value) (us : List Value), us.length = ps.length → bindArgs (PySem.W.fnOf x x (defArgs st) (defBody st) (defScope st) .none kV doc pm an cdv ct) ⟨us, []⟩ = pure (ps.zip us)) :
    FnA P w K mg base CX k x ps sp := ⟨D.f, D.fd, ok, D.g, D.F.kp, D.F.bindsN h⟩
end
theorem Room.hu64 {k : Nat} {A : Around} (r : Room k A) : A.units + 64 < cLine := by have := r.un; omega
theorem Room.hu65 {k : Nat} {A : Around} (r : Room k A) : A.units + 65 < cLine := by have := r.un; omega
end Lo
set_option Elab.async false
set_option linter.all false
set_option maxRecDepth 100000
set_option maxHeartbeats 4000000
namespace Lo
open PySem PySem.Spec PyProof.Rows L2
/-- the object at C: an own class over ValueError, by looks -/
def exoB (K : PySem.W.Frag) (C : Addr) : Bool := match K.lookup C with
  | some ⟨.type c, _, .cls cd, sl⟩ => decide (c = "type") && (match cd.mro, sl.toList with
    | .ref C1 :: bm, [_, _, _, _, some (.builtin n), _] => decide (C1 = C) && (decide (n = "ValueError.__new__") && (!cd.hasDel && (cd.hasDict && PySem.HandSPX.refsVE bm)))
    | _, _ => false)
  | _ => false
theorem exoB_ok {K : PySem.W.Frag} {C : Addr} (h : exoB K C = true) : ∃ nm q N bs bm sn sub ab col dd k0 k1 k2 k3 k5, K.lookup C = some (excClassObj nm q C N bs bm true sn sub ab col dd k0 k1 k2 k3 k5 "ValueError.__new__") ∧ PySem.HandSPX.refsVE bm = true := by
  unfold exoB at h
  cases e : K.lookup C with
  | none => rw [e] at h; cases h
  | some o =>
    obtain ⟨oc, od, dt, sl⟩ := o
    rw [e] at h
    cases oc with
    | type c =>
      cases dt with
      | cls cd =>
        have h1 : (decide (c = "type") && (match cd.mro, sl.toList with
          | .ref C1 :: bm, [_, _, _, _, some (.builtin n), _] => decide (C1 = C) && (decide (n = "ValueError.__new__") && (!cd.hasDel && (cd.hasDict && PySem.HandSPX.refsVE bm)))
          | _, _ => false)) = true := h
        obtain ⟨hc, h2⟩ := Bool.and_eq_true_iff.mp h1
        have hc := of_decide_eq_true hc
        subst hc
        split at h2
        · rename_i C1 bm k0 k1 k2 k3 n k5 hm hs
          obtain ⟨a1, h3⟩ := Bool.and_eq_true_iff.mp h2
          obtain ⟨a2, h4⟩ := Bool.and_eq_true_iff.mp h3
          obtain ⟨a3, h5⟩ := Bool.and_eq_true_iff.mp h4
          obtain ⟨a4, a5⟩ := Bool.and_eq_true_iff.mp h5
          have a1 := of_decide_eq_true a1
          have a2 := of_decide_eq_true a2
          obtain ⟨nm, bs, mro, ns, qn, hd, sn, sub, ab, col, del⟩ := cd
          dsimp only at hm a3 a4
          subst hm a2 a4

          have a3 : del = false := by simpa using a3
          subst a3
          have hsl : sl = #[k0, k1, k2, k3, some (.builtin "ValueError.__new__"), k5] := by
            obtain ⟨l⟩ := sl
            simp only at hs
            rw [hs]
          subst hsl
          exact ⟨nm, qn, ns, bs, bm, sn, sub, ab, col, od, k0, k1, k2, k3, k5, by rw [← a1], a5⟩
        · cases h2
      | _ => cases h
    | _ => cases dt <;> cases h
theorem one_size (v : Value) : [v].length ≤ sizeLine := by
  rw [sizeLine_eq]
  exact (by decide : 1 ≤ 16777216)
end Lo
namespace Lo
open PySem PySem.W PySem.Calls PyProof.Rows PySem.HandSPX
theorem ldC {M : Model} {s : Shared} {name : PySem.Str} {scope : Scope} {L a : Addr} {cd : Value} {m : PySem.Str → Option Value} {x : PySem.Str} {pos : Pos} {v : Value} {Q : Value → Shared → Prop} {A : Around} {E : Value → Shared → Prop} (hn : s.heap.Ns L m) (hv : m x = some v) (h : Q v s)
    (hk : scope.kind = .function := by rfl) (hl : (envOfC name scope L a cd).kindOf x = some .local := by rfl) (hd : (x == ("__debug__" : PySem.Str)) = false := by decide) :
    wpAny M A (eval (.Name x pos) (envOfC name scope L a cd)) Q E s := wpAny_Name (wpAny_loadName_local hk hl hn hv h) hd
end Lo

namespace Lo.Er_thing
open PySem PySem.W PySem.Calls PyProof.Rows PySem.HandSPX
def iA (p1 p2 : Pos) : Arguments := { posonlyargs := [], args := [{ arg := "self", annotation := none, pos := p1 }, { arg := "thing", annotation := none, pos := p2 }], vararg := none, kwonlyargs := [], kw_defaults := [], kwarg := none, defaults := [] }
def iB (q1 q2 q3 q4 : Pos) : List Stmt := [.Assign [.Attribute (.Name "self" q1) "thing" q2] (.Name "thing" q3) q4]
def iS (more : List (PySem.Str × Const)) : Scope := { kind := .function, names := [(PySem.Str.ofString "self", .local), (PySem.Str.ofString "thing", .local)], isGenerator := false, isCoroutine := false, more := more }
structure ErrTxt (K : Frag) (mg : PySem.Str → Option Value) (cn : PySem.Str) (C fI : Addr) : Prop where
  gC : mg cn = some (.ref C)
  cls : ∃ nm q N bs bm sn sub ab col dd k0 k1 k2 k3 k5, K.lookup C = some (excClassObj nm q C N bs bm true sn sub ab col dd k0 k1 k2 k3 k5 "ValueError.__new__") ∧ refsVE bm = true
  sa : findIn K (.ref C) "__setattr__" = some (some (.builtin "object.__setattr__"))
  ga : findIn K (.ref C) "__getattribute__" = some (some (.builtin "BaseException.__getattribute__"))
  gg : findIn K (.ref C) "__getattr__" = some none
  noN : findIn K (.ref C) "thing" = some none
  iC : findIn K (.ref C) "__init__" = some (some (.ref fI))
  tC : typeIn K (.ref fI) = some (.type "function")
  kC : keepIn K (.ref C) = true
  exC : subIn K (.ref C) (.type "BaseException") = some true
  tyC : typeIn K (.ref C) = some (.type "type")
  hdC : hasDictIn K C = true
  fn : ∃ (oc : Value) (od : Option Addr) (kV doc pm : Value) (an : Option Addr) (cdv ct : Value) (osl : Array (Option Value)) (p1 p2 q1 q2 q3 q4 : Pos) (q : PySem.Str) (more : List (PySem.Str × Const)),
    K.lookup fI = some ⟨oc, od, .func (fnOf "__init__" q (iA p1 p2) (iB q1 q2 q3 q4) (iS more) .none kV doc pm an cdv ct), osl⟩ ∧ codeIn K cdv q = true
structure InitEnd (h h' : Heap) (x C dx t1 : Addr) (v : Value) : Prop where
  keep : ∀ b o, b ≠ x → h.get? b = some o → h'.get? b = some o
  obj : h'.get? x = some { cls := .ref C, dict := some dx, data := .fields #[.ref t1, .none, .none, .none, .bool false, .none] }
  dbig : h.objs.size ≤ dx
  dne : dx ≠ x
  ns : h'.Ns1 dx (fun y => if y = "thing" then some v else none)
structure OwnMade (h h' : Heap) (e C d : Addr) (v : Value) : Prop where
  keep : ∀ b o, h.get? b = some o → h'.get? b = some o
  new : h.objs.size ≤ e
  obj : ∃ oe vs, h'.get? e = some oe ∧ oe.cls = .ref C ∧ oe.dict = some d ∧ oe.data = .fields vs ∧ vs[1]? = some .none
  dbig : h.objs.size ≤ d
  dne : d ≠ e
  ns : h'.Ns1 d (fun y => if y = "thing" then some v else none)
section
variable {prog : Program} {w : World} {A : Around} {E : Value → Shared → Prop} {R : Result → Shared → Prop} {s : Shared} {K : Frag} {mg : PySem.Str → Option Value} {cn : PySem.Str} {C fI : Addr}
theorem err_init (T : ErrTxt K mg cn C fI) {x t0 : Addr} {v : Value} (X : K.In s.heap) (hlim : s.heap.NoLimit) (hx : s.heap.get? x = some (excO C t0)) (hnx : K.lookup x = none) (hroom : A.depth < recursionLimit)
    (hq : ∀ h' tk dx, InitEnd s.heap h' x C dx t0 v → R (.ok (.ret .none)) { s with heap := h', toks := tk }) :
    codeAny (model prog w) A (.call (.ref fI) ⟨[.ref x, v], []⟩) R s := by
  obtain ⟨oc, od, kV, doc, pm, an, cdv, ct, osl, p1, p2, q1, q2, q3, q4, q0, more, ho, hcd⟩ := T.fn
  obtain ⟨nm, q, N, bs, bm, sn, sub, ab, col, dd, k0, k1, k2, k3, k5, hC, hbm⟩ := T.cls
  have hcl : clsIn K C = some { name := nm, bases := bs, mro := .ref C :: bm, ns := N, qualname := q, hasDict := true, slotNames := sn, subclasses := sub, abstract := ab, collection := col, hasDel := false } := by unfold clsIn; rw [hC] <;> rfl
  refine Att.call_fn (binds := [("self", .ref x), ("thing", v)]) X hlim ho hcd hroom (BindsTo.of_eq (by first | rfl | with_unfolding_all rfl)) (by first | rfl | decide | with_unfolding_all rfl) (fun s₁ IC => ?_) rfl rfl rfl
  obtain ⟨h₁, tk₁, rfl⟩ := IC.toInCall.same
  have k : ∀ b o, s.heap.get? b = some o → h₁.get? b = some o := IC.toInCall.keep
  have hn := IC.toInCall.ns
  have X₁ : K.In h₁ := X.keeps k
  have hx₁ := k _ _ hx
  show wpAny _ _ (execs _ _) _ _ _
  refine wpAny_execs_cons (plainObj_wpAny_Assign_Attribute ?_)
  refine ldC (v := v) hn (by first | rfl | with_unfolding_all rfl | kernel_rfl) (ldC (v := .ref x) hn (by first | rfl | with_unfolding_all rfl | kernel_rfl) ?_)
  refine set_plain X₁ (ox := excO C t0) (od := none) ⟨hx₁, rfl, rfl, trivial⟩ T.sa ?_
  refine exc_osa X₁ hx₁ hcl (show refsVE (.ref C :: bm) = true from hbm) rfl T.noN (fun h₃ tk₃ dx k₃ dn dne hx₃ hn₃ => ?_)
  show wpAny _ _ (execs _ _) _ _ _
  have z : s.heap.objs.size < h₁.objs.size := hn.lt
  exact wpAny_execs_nil (hq h₃ tk₃ dx ⟨fun b o hb e => k₃ b o hb (k b o e), hx₃, Nat.le_of_lt (Nat.lt_of_lt_of_le z dn), dne, hn₃⟩)
theorem err_made (T : ErrTxt K mg cn C fI) {v : Value} (X : K.In s.heap) (hlim : s.heap.NoLimit) (hroom : A.depth + 1 < recursionLimit)
    (hq : ∀ h' tk e d, OwnMade s.heap h' e C d v → R (.ok (.ret (.ref e))) { s with heap := h', toks := tk }) :
    codeAny (model prog w) A (.call (.ref C) ⟨[v], []⟩) R s := by
  obtain ⟨nm, q, N, bs, bm, sn, sub, ab, col, dd, k0, k1, k2, k3, k5, hC, hbm⟩ := T.cls
  obtain ⟨hp, g, dr, tk, os⟩ := s
  have k : ∀ b o, hp.get? b = some o → ((hp.push (kdv_tup [v])).push (excO C hp.objs.size)).get? b = some o := fun b o e => Heap.get?_push_of_some _ (Heap.get?_push_of_some _ e)
  have hget : ((hp.push (kdv_tup [v])).push (excO C hp.objs.size)).get? (hp.objs.size + 1) = some (excO C hp.objs.size) := by heap_get
  have hnx : K.lookup (hp.objs.size + 1) = none := by
    cases e : K.lookup (hp.objs.size + 1) with
    | none => rfl
    | some o =>
      have z : hp.get? (hp.objs.size + 1) = some o := X _ _ e
      exact absurd (Nat.lt_of_succ_lt (Heap.lt_size z)) (Nat.lt_irrefl _)
  refine call_own F.excBase_ValueError (fun X => refsVE_contains X bm hbm) (X _ _ hC) (looks_findIn X T.iC) (fun self => bind_fn X self T.tC) (one_size v) ?_
  refine err_init (s := ⟨(hp.push (kdv_tup [v])).push (excO C hp.objs.size), g, dr, tk, os⟩) T (X.keeps k) (hlim.keeps k) hget hnx ?_ fun h' tk' dx ⟨k', hx, dn, dne, hns⟩ => ?_
  · show A.depth + 1 < recursionLimit
    exact hroom
  · have old : ∀ b o, hp.get? b = some o → h'.get? b = some o := fun b o e => k' b o (Nat.ne_of_lt (Nat.lt_succ_of_lt (Heap.lt_size e))) (k b o e)
    have z : hp.objs.size + 1 + 1 ≤ dx := by
      first
        | (simpa only [Heap.size_push] using dn)
        | exact dn
        | (have q := dn; rw [Heap.size_push, Heap.size_push] at q; exact q)
    exact ⟨rfl, hq h' tk' (hp.objs.size + 1) dx ⟨old, Nat.le_succ _, ⟨_, _, hx, rfl, rfl, rfl, rfl⟩, Nat.le_trans (Nat.le_trans (Nat.le_succ _) (Nat.le_succ _)) z, dne, hns⟩⟩
end
end Lo.Er_thing
namespace Lo.Er_thing
open PySem PySem.Spec PyProof.Rows L2
theorem relO_err {v : V} {v' : Value} (r : RelV v v') (f : PySem.Str) : RelO (List.lookup f [(("thing" : PySem.Str), v)]) (if f = "thing" then some v' else none) := by
  by_cases hw : f = "thing"
  · subst hw
    rw [if_pos rfl]
    have q : List.lookup ("thing" : PySem.Str) [(("thing" : PySem.Str), v)] = some v := by simp [List.lookup]
    rw [q]
    exact r
  · rw [if_neg hw]
    have qw : (f == ("thing" : PySem.Str)) = false := by simpa using hw
    have q2 : List.lookup f [(("thing" : PySem.Str), v)] = none := by simp [List.lookup, qw]
    rw [q2]
    trivial
section
variable {X : Cx} {cn : PySem.Str} {C fI : Addr}
def tMk (C : Addr) (ta : TA) : L2.St → Hp → XK → Prop := fun σ H Q => ta σ H fun vs H1 => ∃ v, vs = [v] ∧ ∀ d, H1 d = none → Q (.ref C) (some d) (upd H1 d (.xd [(("thing" : PySem.Str), v)]))
theorem pmk {a : Expr} {ta : TA} {p pos : Pos} {k : Nat} (T : ErrTxt X.K X.mg cn C fI) (hr : Room k X.A) (ha : PA X [a] ta) (hg : Gl X cn) (hcn : (cn == ("__debug__" : PySem.Str)) = false)
    (he : starEach (a :: []) X.env = (false, eval a X.env) :: starEach [] X.env := by rfl) (hpl : (backTo pos (starEach [] X.env)).any (·.1) = false := by rfl) :
    PMk X (.Call (.Name cn p) [a] [] pos) (tMk C ta) := by
  intro pins s σ H Q I h
  refine wpAny_Call_Name_kw (ld_glob I hg T.gC ?_ hcn)
  refine PySem.W.callWith_K (h₀ := X.base) I.ok.mod.kin T.kC (thn (ha.run pos pins s σ H _ I h) fun us s1 hh => ?_) he hpl
  obtain ⟨vs, H1, I1, r1, v, ev, q1⟩ := hh
  subst ev
  refine ⟨I1.kIn, ?_⟩
  cases r1 with
  | cons rv rn =>
    rename_i v' us'
    cases rn
    show wpAny _ _ (call (.ref C) [v']) _ _ _
    have hlim := I1.nolimit
    obtain ⟨hp, g, dr, tk, os⟩ := s1
    refine wpAny_call (err_made T I1.kIn hlim (by have := hr.dp; omega) fun h' tk' e d M => ?_)
    show MkP X pins σ Q (.ref e) ⟨h', g, dr, tk', os⟩
    obtain ⟨oe, fv, hoe, hc, hd, hdat, h1⟩ := M.obj
    have hns := M.ns
    obtain ⟨G', g1, g2⟩ := restrict h' fun b => decide (b ≠ e)
    have gk : ∀ b, b ≠ e → G'.get? b = h'.get? b := fun b hb => g1 b (decide_eq_true hb)
    have ge : G'.get? e = none := g2 e (by simp)
    have old : ∀ b o, hp.get? b = some o → G'.get? b = some o := fun b o q => (gk b (Nat.ne_of_lt (Nat.lt_of_lt_of_le (Heap.lt_size q) M.new))).trans (M.keep b o q)
    have ob : ObjOk X.prog X.w (upd H1 d (.xd [(("thing" : PySem.Str), v)])) G' d (.xd [(("thing" : PySem.Str), v)]) :=
      ⟨_, hns.at (fun o q => (gk d M.dne).trans q), fun f => relO_err rv f⟩
    have J : Inv X pins σ (upd H1 d (.xd [(("thing" : PySem.Str), v)])) ⟨G', g, dr, tk', os⟩ := I1.laid (t' := tk') old M.dbig ob
    refine ⟨e, oe, fv, ⟨G', g, dr, tk', os⟩, _, .ref C, some d, rfl, J, fun b o q => ?_, ge, hoe, ⟨hc, hd⟩, hdat, h1, ?_, rfl, I1.bare, raises_own T.exC T.tyC, q1 d (I1.hok.fresh M.dbig)⟩
    · by_cases hb : b = e
      · have q' : G'.get? b = some o := q
        rw [hb, ge] at q'; cases q'
      · exact (gk b hb).symm.trans q
    · rw [upd_ne (Ne.symm M.dne)]
      exact I1.hok.fresh M.new
def tByE (C : Addr) (a : Addr) (cls : Value) (d : Option Addr) (te : TE) : TE := fun σ H Q => te σ H fun x H1 => x = .ref a ∧ cls = .ref C ∧ ∃ (dd : Addr) (v : V), d = some dd ∧ H1 dd = some (.xd [(("thing" : PySem.Str), v)]) ∧ Q v H1
theorem pe_byE {a : Addr} {oe : Obj} {cls : Value} {d : Option Addr} {pn : List (Addr × Obj)} {e : Expr} {te : TE} {pos : Pos} (T : ErrTxt X.K X.mg cn C fI) (hz : Zc cls d oe) (hf : ∃ vs, oe.data = .fields vs) (he : PE (X.suite a ((a, oe) :: pn)) e te)
    (hb : attributeBase e "thing" X.env (eval e X.env) = eval e X.env := by rfl) :
    PE (X.suite a ((a, oe) :: pn)) (.Attribute e "thing" pos) (tByE C a cls d te) := by
  refine ⟨fun pins s σ H Q I h => ?_⟩
  refine attr_of hb (thn (he.run pins s σ H _ I h) fun u s1 hh => ?_)
  obtain ⟨x, H1, I1, rx, ex, ec, dd, v, ed, ea, q⟩ := hh
  subst ex
  obtain rfl : u = Value.ref a := rx
  subst ec
  subst ed
  obtain ⟨ha, _⟩ := I1.pin (a, oe) (List.mem_append_left _ List.mem_cons_self)
  obtain ⟨vs, hd⟩ := hf
  have hx : ObjOk X.prog X.w H1 s1.heap dd (.xd [(("thing" : PySem.Str), v)]) := I1.hok dd _ ea
  obtain ⟨mA, hns, hr⟩ := hx
  obtain ⟨od, ho, hl⟩ := lookIn_ns hns
  have l : List.lookup ("thing" : PySem.Str) [(("thing" : PySem.Str), v)] = some v := by simp [List.lookup]
  obtain ⟨u, hu, ru⟩ := RelO.some_of (v := v) (o := mA "thing") (by rw [← l]; exact hr "thing")
  have J : PySem.W.InstAt s1.heap a oe C (some od) := ⟨ha, hz.1, by unfold PySem.W.notCls; rw [hd] <;> rfl, by rw [hz.2]; exact ho⟩
  exact HandSPX.exc_get I1.kIn J T.ga T.gg T.exC (PySem.W.findObj_own T.hdC T.noN rfl (by rw [hl, hu])) (handed_of ru) ⟨v, H1, I1.tok _, ru, q⟩
end
/-- the error's facts by looks at the written part: the class cn, its __init__ -/
def errB (K : PySem.W.Frag) (cn : PySem.Str) : Bool :=
  exoB K (He.ga K cn) && (decide (PySem.W.findIn K (.ref (He.ga K cn)) "__setattr__" = some (some (.builtin "object.__setattr__"))) &&
  (decide (PySem.W.findIn K (.ref (He.ga K cn)) "__getattribute__" = some (some (.builtin "BaseException.__getattribute__"))) &&
  (decide (PySem.W.findIn K (.ref (He.ga K cn)) "__getattr__" = some none) && (decide (PySem.W.findIn K (.ref (He.ga K cn)) "thing" = some none) &&
  (decide (PySem.W.findIn K (.ref (He.ga K cn)) "__init__" = some (some (.ref (He.fAd K (cn, some "__init__"))))) && (decide (PySem.W.typeIn K (.ref (He.fAd K (cn, some "__init__"))) = some (.type "function")) &&
  (PySem.W.keepIn K (.ref (He.ga K cn)) && (decide (PySem.W.subIn K (.ref (He.ga K cn)) (.type "BaseException") = some true) && (decide (PySem.W.typeIn K (.ref (He.ga K cn)) = some (.type "type")) &&
  PySem.W.hasDictIn K (He.ga K cn))))))))))
theorem errB_ok {K : PySem.W.Frag} {mg : PySem.Str → Option Value} {cn q : PySem.Str} {fd : FuncData} (h : errB K cn = true) (g : mg cn = some (.ref (He.ga K cn))) {p1 p2 q1 q2 q3 q4 : Pos} {more : List (PySem.Str × Const)}
    (F : FunD K "__init__" q (iA p1 p2) (iB q1 q2 q3 q4) (iS more) [] [] (He.fAd K (cn, some "__init__")) fd) : ErrTxt K mg cn (He.ga K cn) (He.fAd K (cn, some "__init__")) := by
  unfold errB at h
  obtain ⟨a1, h⟩ := Bool.and_eq_true_iff.mp h
  obtain ⟨a2, h⟩ := Bool.and_eq_true_iff.mp h
  obtain ⟨a3, h⟩ := Bool.and_eq_true_iff.mp h
  obtain ⟨a4, h⟩ := Bool.and_eq_true_iff.mp h
  obtain ⟨a5, h⟩ := Bool.and_eq_true_iff.mp h
  obtain ⟨a6, h⟩ := Bool.and_eq_true_iff.mp h
  obtain ⟨a7, h⟩ := Bool.and_eq_true_iff.mp h
  obtain ⟨a8, h⟩ := Bool.and_eq_true_iff.mp h
  obtain ⟨a9, h⟩ := Bool.and_eq_true_iff.mp h
  obtain ⟨a10, a11⟩ := Bool.and_eq_true_iff.mp h
  refine ⟨g, exoB_ok a1, of_decide_eq_true a2, of_decide_eq_true a3, of_decide_eq_true a4, of_decide_eq_true a5, of_decide_eq_true a6, of_decide_eq_true a7, a8, of_decide_eq_true a9, of_decide_eq_true a10, a11, ?_⟩
  obtain ⟨oc, od, dV, kV, doc, pm, an, cdv, ct, osl, rfl, lk, hcd, hD, hK⟩ := F.ex
  rcases hD with ⟨_, rfl⟩ | ⟨e, _⟩
  · exact ⟨oc, od, kV, doc, pm, an, cdv, ct, osl, p1, p2, q1, q2, q3, q4, q, more, lk, hcd⟩
  · exact absurd rfl e
structure ErrAt (K : PySem.W.Frag) (mg : PySem.Str → Option Value) (cn : PySem.Str) where
  C : Addr
  fI : Addr
  T : ErrTxt K mg cn C fI
def tRaise (C : Addr) (W : WX) (ta : TA) : TS := fun _ σ H => tMk C ta σ H fun cls d H' => W cls d σ H'
theorem ps_raiseE {X : Cx} {cn : PySem.Str} {a : Expr} {ta : TA} {W : WX} {p pos pos2 : Pos} {k : Nat} {C fI : Addr} (hc : X.calm = true) (hg : Gl X cn) (D : ErrTxt X.K X.mg cn C fI) (hr : Room k X.A) (tk : Takes X W) (ha : PA X [a] ta) (hcn : (cn == ("__debug__" : PySem.Str)) = false := by decide)
    (he : starEach (a :: []) X.env = (false, eval a X.env) :: starEach [] X.env := by rfl) (hpl : (backTo pos (starEach [] X.env)).any (·.1) = false := by rfl) :
    PS X (.Raise (some (.Call (.Name cn p) [a] [] pos)) none pos2) (tRaise C W ta) := ps_raise hc tk (pmk D hr ha hg hcn he hpl)
end Lo.Er_thing

namespace Lo.Er_index
open PySem PySem.W PySem.Calls PyProof.Rows PySem.HandSPX
def iA (p1 p2 : Pos) : Arguments := { posonlyargs := [], args := [{ arg := "self", annotation := none, pos := p1 }, { arg := "index", annotation := none, pos := p2 }], vararg := none, kwonlyargs := [], kw_defaults := [], kwarg := none, defaults := [] }
def iB (q1 q2 q3 q4 : Pos) : List Stmt := [.Assign [.Attribute (.Name "self" q1) "index" q2] (.Name "index" q3) q4]
def iS (more : List (PySem.Str × Const)) : Scope := { kind := .function, names := [(PySem.Str.ofString "self", .local), (PySem.Str.ofString "index", .local)], isGenerator := false, isCoroutine := false, more := more }
structure ErrTxt (K : Frag) (mg : PySem.Str → Option Value) (cn : PySem.Str) (C fI : Addr) : Prop where
  gC : mg cn = some (.ref C)
  cls : ∃ nm q N bs bm sn sub ab col dd k0 k1 k2 k3 k5, K.lookup C = some (excClassObj nm q C N bs bm true sn sub ab col dd k0 k1 k2 k3 k5 "ValueError.__new__") ∧ refsVE bm = true
  sa : findIn K (.ref C) "__setattr__" = some (some (.builtin "object.__setattr__"))
  ga : findIn K (.ref C) "__getattribute__" = some (some (.builtin "BaseException.__getattribute__"))
  gg : findIn K (.ref C) "__getattr__" = some none
  noN : findIn K (.ref C) "index" = some none
  iC : findIn K (.ref C) "__init__" = some (some (.ref fI))
  tC : typeIn K (.ref fI) = some (.type "function")
  kC : keepIn K (.ref C) = true
  exC : subIn K (.ref C) (.type "BaseException") = some true
  tyC : typeIn K (.ref C) = some (.type "type")
  hdC : hasDictIn K C = true
  fn : ∃ (oc : Value) (od : Option Addr) (kV doc pm : Value) (an : Option Addr) (cdv ct : Value) (osl : Array (Option Value)) (p1 p2 q1 q2 q3 q4 : Pos) (q : PySem.Str) (more : List (PySem.Str × Const)),
    K.lookup fI = some ⟨oc, od, .func (fnOf "__init__" q (iA p1 p2) (iB q1 q2 q3 q4) (iS more) .none kV doc pm an cdv ct), osl⟩ ∧ codeIn K cdv q = true
structure InitEnd (h h' : Heap) (x C dx t1 : Addr) (v : Value) : Prop where
  keep : ∀ b o, b ≠ x → h.get? b = some o → h'.get? b = some o
  obj : h'.get? x = some { cls := .ref C, dict := some dx, data := .fields #[.ref t1, .none, .none, .none, .bool false, .none] }
  dbig : h.objs.size ≤ dx
  dne : dx ≠ x
  ns : h'.Ns1 dx (fun y => if y = "index" then some v else none)
structure OwnMade (h h' : Heap) (e C d : Addr) (v : Value) : Prop where
  keep : ∀ b o, h.get? b = some o → h'.get? b = some o
  new : h.objs.size ≤ e
  obj : ∃ oe vs, h'.get? e = some oe ∧ oe.cls = .ref C ∧ oe.dict = some d ∧ oe.data = .fields vs ∧ vs[1]? = some .none
  dbig : h.objs.size ≤ d
  dne : d ≠ e
  ns : h'.Ns1 d (fun y => if y = "index" then some v else none)
section
variable {prog : Program} {w : World} {A : Around} {E : Value → Shared → Prop} {R : Result → Shared → Prop} {s : Shared} {K : Frag} {mg : PySem.Str → Option Value} {cn : PySem.Str} {C fI : Addr}
theorem err_init (T : ErrTxt K mg cn C fI) {x t0 : Addr} {v : Value} (X : K.In s.heap) (hlim : s.heap.NoLimit) (hx : s.heap.get? x = some (excO C t0)) (hnx : K.lookup x = none) (hroom : A.depth < recursionLimit)
    (hq : ∀ h' tk dx, InitEnd s.heap h' x C dx t0 v → R (.ok (.ret .none)) { s with heap := h', toks := tk }) :
    codeAny (model prog w) A (.call (.ref fI) ⟨[.ref x, v], []⟩) R s := by
  obtain ⟨oc, od, kV, doc, pm, an, cdv, ct, osl, p1, p2, q1, q2, q3, q4, q0, more, ho, hcd⟩ := T.fn
  obtain ⟨nm, q, N, bs, bm, sn, sub, ab, col, dd, k0, k1, k2, k3, k5, hC, hbm⟩ := T.cls
  have hcl : clsIn K C = some { name := nm, bases := bs, mro := .ref C :: bm, ns := N, qualname := q, hasDict := true, slotNames := sn, subclasses := sub, abstract := ab, collection := col, hasDel := false } := by unfold clsIn; rw [hC] <;> rfl
  refine Att.call_fn (binds := [("self", .ref x), ("index", v)]) X hlim ho hcd hroom (BindsTo.of_eq (by first | rfl | with_unfolding_all rfl)) (by first | rfl | decide | with_unfolding_all rfl) (fun s₁ IC => ?_) rfl rfl rfl
  obtain ⟨h₁, tk₁, rfl⟩ := IC.toInCall.same
  have k : ∀ b o, s.heap.get? b = some o → h₁.get? b = some o := IC.toInCall.keep
  have hn := IC.toInCall.ns
  have X₁ : K.In h₁ := X.keeps k
  have hx₁ := k _ _ hx
  show wpAny _ _ (execs _ _) _ _ _
  refine wpAny_execs_cons (plainObj_wpAny_Assign_Attribute ?_)
  refine ldC (v := v) hn (by first | rfl | with_unfolding_all rfl | kernel_rfl) (ldC (v := .ref x) hn (by first | rfl | with_unfolding_all rfl | kernel_rfl) ?_)
  refine set_plain X₁ (ox := excO C t0) (od := none) ⟨hx₁, rfl, rfl, trivial⟩ T.sa ?_
  refine exc_osa X₁ hx₁ hcl (show refsVE (.ref C :: bm) = true from hbm) rfl T.noN (fun h₃ tk₃ dx k₃ dn dne hx₃ hn₃ => ?_)
  show wpAny _ _ (execs _ _) _ _ _
  have z : s.heap.objs.size < h₁.objs.size := hn.lt
  exact wpAny_execs_nil (hq h₃ tk₃ dx ⟨fun b o hb e => k₃ b o hb (k b o e), hx₃, Nat.le_of_lt (Nat.lt_of_lt_of_le z dn), dne, hn₃⟩)
theorem err_made (T : ErrTxt K mg cn C fI) {v : Value} (X : K.In s.heap) (hlim : s.heap.NoLimit) (hroom : A.depth + 1 < recursionLimit)
    (hq : ∀ h' tk e d, OwnMade s.heap h' e C d v → R (.ok (.ret (.ref e))) { s with heap := h', toks := tk }) :
    codeAny (model prog w) A (.call (.ref C) ⟨[v], []⟩) R s := by
  obtain ⟨nm, q, N, bs, bm, sn, sub, ab, col, dd, k0, k1, k2, k3, k5, hC, hbm⟩ := T.cls
  obtain ⟨hp, g, dr, tk, os⟩ := s
  have k : ∀ b o, hp.get? b = some o → ((hp.push (kdv_tup [v])).push (excO C hp.objs.size)).get? b = some o := fun b o e => Heap.get?_push_of_some _ (Heap.get?_push_of_some _ e)
  have hget : ((hp.push (kdv_tup [v])).push (excO C hp.objs.size)).get? (hp.objs.size + 1) = some (excO C hp.objs.size) := by heap_get
  have hnx : K.lookup (hp.objs.size + 1) = none := by
    cases e : K.lookup (hp.objs.size + 1) with
    | none => rfl
    | some o =>
      have z : hp.get? (hp.objs.size + 1) = some o := X _ _ e
      exact absurd (Nat.lt_of_succ_lt (Heap.lt_size z)) (Nat.lt_irrefl _)
  refine call_own F.excBase_ValueError (fun X => refsVE_contains X bm hbm) (X _ _ hC) (looks_findIn X T.iC) (fun self => bind_fn X self T.tC) (one_size v) ?_
  refine err_init (s := ⟨(hp.push (kdv_tup [v])).push (excO C hp.objs.size), g, dr, tk, os⟩) T (X.keeps k) (hlim.keeps k) hget hnx ?_ fun h' tk' dx ⟨k', hx, dn, dne, hns⟩ => ?_
  · show A.depth + 1 < recursionLimit
    exact hroom
  · have old : ∀ b o, hp.get? b = some o → h'.get? b = some o := fun b o e => k' b o (Nat.ne_of_lt (Nat.lt_succ_of_lt (Heap.lt_size e))) (k b o e)
    have z : hp.objs.size + 1 + 1 ≤ dx := by
      first
        | (simpa only [Heap.size_push] using dn)
        | exact dn
        | (have q := dn; rw [Heap.size_push, Heap.size_push] at q; exact q)
    exact ⟨rfl, hq h' tk' (hp.objs.size + 1) dx ⟨old, Nat.le_succ _, ⟨_, _, hx, rfl, rfl, rfl, rfl⟩, Nat.le_trans (Nat.le_trans (Nat.le_succ _) (Nat.le_succ _)) z, dne, hns⟩⟩
end
end Lo.Er_index
namespace Lo.Er_index
open PySem PySem.Spec PyProof.Rows L2
theorem relO_err {v : V} {v' : Value} (r : RelV v v') (f : PySem.Str) : RelO (List.lookup f [(("index" : PySem.Str), v)]) (if f = "index" then some v' else none) := by
  by_cases hw : f = "index"
  · subst hw
    rw [if_pos rfl]
    have q : List.lookup ("index" : PySem.Str) [(("index" : PySem.Str), v)] = some v := by simp [List.lookup]
    rw [q]
    exact r
  · rw [if_neg hw]
    have qw : (f == ("index" : PySem.Str)) = false := by simpa using hw
    have q2 : List.lookup f [(("index" : PySem.Str), v)] = none := by simp [List.lookup, qw]
    rw [q2]
    trivial
section
variable {X : Cx} {cn : PySem.Str} {C fI : Addr}
def tMk (C : Addr) (ta : TA) : L2.St → Hp → XK → Prop := fun σ H Q => ta σ H fun vs H1 => ∃ v, vs = [v] ∧ ∀ d, H1 d = none → Q (.ref C) (some d) (upd H1 d (.xd [(("index" : PySem.Str), v)]))
theorem pmk {a : Expr} {ta : TA} {p pos : Pos} {k : Nat} (T : ErrTxt X.K X.mg cn C fI) (hr : Room k X.A) (ha : PA X [a] ta) (hg : Gl X cn) (hcn : (cn == ("__debug__" : PySem.Str)) = false)
    (he : starEach (a :: []) X.env = (false, eval a X.env) :: starEach [] X.env := by rfl) (hpl : (backTo pos (starEach [] X.env)).any (·.1) = false := by rfl) :
    PMk X (.Call (.Name cn p) [a] [] pos) (tMk C ta) := by
  intro pins s σ H Q I h
  refine wpAny_Call_Name_kw (ld_glob I hg T.gC ?_ hcn)
  refine PySem.W.callWith_K (h₀ := X.base) I.ok.mod.kin T.kC (thn (ha.run pos pins s σ H _ I h) fun us s1 hh => ?_) he hpl
  obtain ⟨vs, H1, I1, r1, v, ev, q1⟩ := hh
  subst ev
  refine ⟨I1.kIn, ?_⟩
  cases r1 with
  | cons rv rn =>
    rename_i v' us'
    cases rn
    show wpAny _ _ (call (.ref C) [v']) _ _ _
    have hlim := I1.nolimit
    obtain ⟨hp, g, dr, tk, os⟩ := s1
    refine wpAny_call (err_made T I1.kIn hlim (by have := hr.dp; omega) fun h' tk' e d M => ?_)
    show MkP X pins σ Q (.ref e) ⟨h', g, dr, tk', os⟩
    obtain ⟨oe, fv, hoe, hc, hd, hdat, h1⟩ := M.obj
    have hns := M.ns
    obtain ⟨G', g1, g2⟩ := restrict h' fun b => decide (b ≠ e)
    have gk : ∀ b, b ≠ e → G'.get? b = h'.get? b := fun b hb => g1 b (decide_eq_true hb)
    have ge : G'.get? e = none := g2 e (by simp)
    have old : ∀ b o, hp.get? b = some o → G'.get? b = some o := fun b o q => (gk b (Nat.ne_of_lt (Nat.lt_of_lt_of_le (Heap.lt_size q) M.new))).trans (M.keep b o q)
    have ob : ObjOk X.prog X.w (upd H1 d (.xd [(("index" : PySem.Str), v)])) G' d (.xd [(("index" : PySem.Str), v)]) :=
      ⟨_, hns.at (fun o q => (gk d M.dne).trans q), fun f => relO_err rv f⟩
    have J : Inv X pins σ (upd H1 d (.xd [(("index" : PySem.Str), v)])) ⟨G', g, dr, tk', os⟩ := I1.laid (t' := tk') old M.dbig ob
    refine ⟨e, oe, fv, ⟨G', g, dr, tk', os⟩, _, .ref C, some d, rfl, J, fun b o q => ?_, ge, hoe, ⟨hc, hd⟩, hdat, h1, ?_, rfl, I1.bare, raises_own T.exC T.tyC, q1 d (I1.hok.fresh M.dbig)⟩
    · by_cases hb : b = e
      · have q' : G'.get? b = some o := q
        rw [hb, ge] at q'; cases q'
      · exact (gk b hb).symm.trans q
    · rw [upd_ne (Ne.symm M.dne)]
      exact I1.hok.fresh M.new
def tByE (C : Addr) (a : Addr) (cls : Value) (d : Option Addr) (te : TE) : TE := fun σ H Q => te σ H fun x H1 => x = .ref a ∧ cls = .ref C ∧ ∃ (dd : Addr) (v : V), d = some dd ∧ H1 dd = some (.xd [(("index" : PySem.Str), v)]) ∧ Q v H1
theorem pe_byE {a : Addr} {oe : Obj} {cls : Value} {d : Option Addr} {pn : List (Addr × Obj)} {e : Expr} {te : TE} {pos : Pos} (T : ErrTxt X.K X.mg cn C fI) (hz : Zc cls d oe) (hf : ∃ vs, oe.data = .fields vs) (he : PE (X.suite a ((a, oe) :: pn)) e te)
    (hb : attributeBase e "index" X.env (eval e X.env) = eval e X.env := by rfl) :
    PE (X.suite a ((a, oe) :: pn)) (.Attribute e "index" pos) (tByE C a cls d te) := by
  refine ⟨fun pins s σ H Q I h => ?_⟩
  refine attr_of hb (thn (he.run pins s σ H _ I h) fun u s1 hh => ?_)
  obtain ⟨x, H1, I1, rx, ex, ec, dd, v, ed, ea, q⟩ := hh
  subst ex
  obtain rfl : u = Value.ref a := rx
  subst ec
  subst ed
  obtain ⟨ha, _⟩ := I1.pin (a, oe) (List.mem_append_left _ List.mem_cons_self)
  obtain ⟨vs, hd⟩ := hf
  have hx : ObjOk X.prog X.w H1 s1.heap dd (.xd [(("index" : PySem.Str), v)]) := I1.hok dd _ ea
  obtain ⟨mA, hns, hr⟩ := hx
  obtain ⟨od, ho, hl⟩ := lookIn_ns hns
  have l : List.lookup ("index" : PySem.Str) [(("index" : PySem.Str), v)] = some v := by simp [List.lookup]
  obtain ⟨u, hu, ru⟩ := RelO.some_of (v := v) (o := mA "index") (by rw [← l]; exact hr "index")
  have J : PySem.W.InstAt s1.heap a oe C (some od) := ⟨ha, hz.1, by unfold PySem.W.notCls; rw [hd] <;> rfl, by rw [hz.2]; exact ho⟩
  exact HandSPX.exc_get I1.kIn J T.ga T.gg T.exC (PySem.W.findObj_own T.hdC T.noN rfl (by rw [hl, hu])) (handed_of ru) ⟨v, H1, I1.tok _, ru, q⟩
end
/-- the error's facts by looks at the written part: the class cn, its __init__ -/
def errB (K : PySem.W.Frag) (cn : PySem.Str) : Bool :=
  exoB K (He.ga K cn) && (decide (PySem.W.findIn K (.ref (He.ga K cn)) "__setattr__" = some (some (.builtin "object.__setattr__"))) &&
  (decide (PySem.W.findIn K (.ref (He.ga K cn)) "__getattribute__" = some (some (.builtin "BaseException.__getattribute__"))) &&
  (decide (PySem.W.findIn K (.ref (He.ga K cn)) "__getattr__" = some none) && (decide (PySem.W.findIn K (.ref (He.ga K cn)) "index" = some none) &&
  (decide (PySem.W.findIn K (.ref (He.ga K cn)) "__init__" = some (some (.ref (He.fAd K (cn, some "__init__"))))) && (decide (PySem.W.typeIn K (.ref (He.fAd K (cn, some "__init__"))) = some (.type "function")) &&
  (PySem.W.keepIn K (.ref (He.ga K cn)) && (decide (PySem.W.subIn K (.ref (He.ga K cn)) (.type "BaseException") = some true) && (decide (PySem.W.typeIn K (.ref (He.ga K cn)) = some (.type "type")) &&
  PySem.W.hasDictIn K (He.ga K cn))))))))))
theorem errB_ok {K : PySem.W.Frag} {mg : PySem.Str → Option Value} {cn q : PySem.Str} {fd : FuncData} (h : errB K cn = true) (g : mg cn = some (.ref (He.ga K cn))) {p1 p2 q1 q2 q3 q4 : Pos} {more : List (PySem.Str × Const)}
    (F : FunD K "__init__" q (iA p1 p2) (iB q1 q2 q3 q4) (iS more) [] [] (He.fAd K (cn, some "__init__")) fd) : ErrTxt K mg cn (He.ga K cn) (He.fAd K (cn, some "__init__")) := by
  unfold errB at h
  obtain ⟨a1, h⟩ := Bool.and_eq_true_iff.mp h
  obtain ⟨a2, h⟩ := Bool.and_eq_true_iff.mp h
  obtain ⟨a3, h⟩ := Bool.and_eq_true_iff.mp h
  obtain ⟨a4, h⟩ := Bool.and_eq_true_iff.mp h
  obtain ⟨a5, h⟩ := Bool.and_eq_true_iff.mp h
  obtain ⟨a6, h⟩ := Bool.and_eq_true_iff.mp h
  obtain ⟨a7, h⟩ := Bool.and_eq_true_iff.mp h
  obtain ⟨a8, h⟩ := Bool.and_eq_true_iff.mp h
  obtain ⟨a9, h⟩ := Bool.and_eq_true_iff.mp h
  obtain ⟨a10, a11⟩ := Bool.and_eq_true_iff.mp h
  refine ⟨g, exoB_ok a1, of_decide_eq_true a2, of_decide_eq_true a3, of_decide_eq_true a4, of_decide_eq_true a5, of_decide_eq_true a6, of_decide_eq_true a7, a8, of_decide_eq_true a9, of_decide_eq_true a10, a11, ?_⟩
  obtain ⟨oc, od, dV, kV, doc, pm, an, cdv, ct, osl, rfl, lk, hcd, hD, hK⟩ := F.ex
  rcases hD with ⟨_, rfl⟩ | ⟨e, _⟩
  · exact ⟨oc, od, kV, doc, pm, an, cdv, ct, osl, p1, p2, q1, q2, q3, q4, q, more, lk, hcd⟩
  · exact absurd rfl e
structure ErrAt (K : PySem.W.Frag) (mg : PySem.Str → Option Value) (cn : PySem.Str) where
  C : Addr
  fI : Addr
  T : ErrTxt K mg cn C fI
def tRaise (C : Addr) (W : WX) (ta : TA) : TS := fun _ σ H => tMk C ta σ H fun cls d H' => W cls d σ H'
theorem ps_raiseE {X : Cx} {cn : PySem.Str} {a : Expr} {ta : TA} {W : WX} {p pos pos2 : Pos} {k : Nat} {C fI : Addr} (hc : X.calm = true) (hg : Gl X cn) (D : ErrTxt X.K X.mg cn C fI) (hr : Room k X.A) (tk : Takes X W) (ha : PA X [a] ta) (hcn : (cn == ("__debug__" : PySem.Str)) = false := by decide)
    (he : starEach (a :: []) X.env = (false, eval a X.env) :: starEach [] X.env := by rfl) (hpl : (backTo pos (starEach [] X.env)).any (·.1) = false := by rfl) :
    PS X (.Raise (some (.Call (.Name cn p) [a] [] pos)) none pos2) (tRaise C W ta) := ps_raise hc tk (pmk D hr ha hg hcn he hpl)
end Lo.Er_index

namespace Lo.Er_many
open PySem PySem.W PySem.Calls PyProof.Rows PySem.HandSPX
def iA (p1 p2 : Pos) : Arguments := { posonlyargs := [], args := [{ arg := "self", annotation := none, pos := p1 }, { arg := "many", annotation := none, pos := p2 }], vararg := none, kwonlyargs := [], kw_defaults := [], kwarg := none, defaults := [] }
def iB (q1 q2 q3 q4 : Pos) : List Stmt := [.Assign [.Attribute (.Name "self" q1) "many" q2] (.Name "many" q3) q4]
def iS (more : List (PySem.Str × Const)) : Scope := { kind := .function, names := [(PySem.Str.ofString "self", .local), (PySem.Str.ofString "many", .local)], isGenerator := false, isCoroutine := false, more := more }
structure ErrTxt (K : Frag) (mg : PySem.Str → Option Value) (cn : PySem.Str) (C fI : Addr) : Prop where
  gC : mg cn = some (.ref C)
  cls : ∃ nm q N bs bm sn sub ab col dd k0 k1 k2 k3 k5, K.lookup C = some (excClassObj nm q C N bs bm true sn sub ab col dd k0 k1 k2 k3 k5 "ValueError.__new__") ∧ refsVE bm = true
  sa : findIn K (.ref C) "__setattr__" = some (some (.builtin "object.__setattr__"))
  ga : findIn K (.ref C) "__getattribute__" = some (some (.builtin "BaseException.__getattribute__"))
  gg : findIn K (.ref C) "__getattr__" = some none
  noN : findIn K (.ref C) "many" = some none
  iC : findIn K (.ref C) "__init__" = some (some (.ref fI))
  tC : typeIn K (.ref fI) = some (.type "function")
  kC : keepIn K (.ref C) = true
  exC : subIn K (.ref C) (.type "BaseException") = some true
  tyC : typeIn K (.ref C) = some (.type "type")
  hdC : hasDictIn K C = true
  fn : ∃ (oc : Value) (od : Option Addr) (kV doc pm : Value) (an : Option Addr) (cdv ct : Value) (osl : Array (Option Value)) (p1 p2 q1 q2 q3 q4 : Pos) (q : PySem.Str) (more : List (PySem.Str × Const)),
    K.lookup fI = some ⟨oc, od, .func (fnOf "__init__" q (iA p1 p2) (iB q1 q2 q3 q4) (iS more) .none kV doc pm an cdv ct), osl⟩ ∧ codeIn K cdv q = true
structure InitEnd (h h' : Heap) (x C dx t1 : Addr) (v : Value) : Prop where
  keep : ∀ b o, b ≠ x → h.get? b = some o → h'.get? b = some o
  obj : h'.get? x = some { cls := .ref C, dict := some dx, data := .fields #[.ref t1, .none, .none, .none, .bool false, .none] }
  dbig : h.objs.size ≤ dx
  dne : dx ≠ x
  ns : h'.Ns1 dx (fun y => if y = "many" then some v else none)
structure OwnMade (h h' : Heap) (e C d : Addr) (v : Value) : Prop where
  keep : ∀ b o, h.get? b = some o → h'.get? b = some o
  new : h.objs.size ≤ e
  obj : ∃ oe vs, h'.get? e = some oe ∧ oe.cls = .ref C ∧ oe.dict = some d ∧ oe.data = .fields vs ∧ vs[1]? = some .none
  dbig : h.objs.size ≤ d
  dne : d ≠ e
  ns : h'.Ns1 d (fun y => if y = "many" then some v else none)
section
variable {prog : Program} {w : World} {A : Around} {E : Value → Shared → Prop} {R : Result → Shared → Prop} {s : Shared} {K : Frag} {mg : PySem.Str → Option Value} {cn : PySem.Str} {C fI : Addr}
theorem err_init (T : ErrTxt K mg cn C fI) {x t0 : Addr} {v : Value} (X : K.In s.heap) (hlim : s.heap.NoLimit) (hx : s.heap.get? x = some (excO C t0)) (hnx : K.lookup x = none) (hroom : A.depth < recursionLimit)
    (hq : ∀ h' tk dx, InitEnd s.heap h' x C dx t0 v → R (.ok (.ret .none)) { s with heap := h', toks := tk }) :
    codeAny (model prog w) A (.call (.ref fI) ⟨[.ref x, v], []⟩) R s := by
  obtain ⟨oc, od, kV, doc, pm, an, cdv, ct, osl, p1, p2, q1, q2, q3, q4, q0, more, ho, hcd⟩ := T.fn
  obtain ⟨nm, q, N, bs, bm, sn, sub, ab, col, dd, k0, k1, k2, k3, k5, hC, hbm⟩ := T.cls
  have hcl : clsIn K C = some { name := nm, bases := bs, mro := .ref C :: bm, ns := N, qualname := q, hasDict := true, slotNames := sn, subclasses := sub, abstract := ab, collection := col, hasDel := false } := by unfold clsIn; rw [hC] <;> rfl
  refine Att.call_fn (binds := [("self", .ref x), ("many", v)]) X hlim ho hcd hroom (BindsTo.of_eq (by first | rfl | with_unfolding_all rfl)) (by first | rfl | decide | with_unfolding_all rfl) (fun s₁ IC => ?_) rfl rfl rfl
  obtain ⟨h₁, tk₁, rfl⟩ := IC.toInCall.same
  have k : ∀ b o, s.heap.get? b = some o → h₁.get? b = some o := IC.toInCall.keep
  have hn := IC.toInCall.ns
  have X₁ : K.In h₁ := X.keeps k
  have hx₁ := k _ _ hx
  show wpAny _ _ (execs _ _) _ _ _
  refine wpAny_execs_cons (plainObj_wpAny_Assign_Attribute ?_)
  refine ldC (v := v) hn (by first | rfl | with_unfolding_all rfl | kernel_rfl) (ldC (v := .ref x) hn (by first | rfl | with_unfolding_all rfl | kernel_rfl) ?_)
  refine set_plain X₁ (ox := excO C t0) (od := none) ⟨hx₁, rfl, rfl, trivial⟩ T.sa ?_
  refine exc_osa X₁ hx₁ hcl (show refsVE (.ref C :: bm) = true from hbm) rfl T.noN (fun h₃ tk₃ dx k₃ dn dne hx₃ hn₃ => ?_)
  show wpAny _ _ (execs _ _) _ _ _
  have z : s.heap.objs.size < h₁.objs.size := hn.lt
  exact wpAny_execs_nil (hq h₃ tk₃ dx ⟨fun b o hb e => k₃ b o hb (k b o e), hx₃, Nat.le_of_lt (Nat.lt_of_lt_of_le z dn), dne, hn₃⟩)
theorem err_made (T : ErrTxt K mg cn C fI) {v : Value} (X : K.In s.heap) (hlim : s.heap.NoLimit) (hroom : A.depth + 1 < recursionLimit)
    (hq : ∀ h' tk e d, OwnMade s.heap h' e C d v → R (.ok (.ret (.ref e))) { s with heap := h', toks := tk }) :
    codeAny (model prog w) A (.call (.ref C) ⟨[v], []⟩) R s := by
  obtain ⟨nm, q, N, bs, bm, sn, sub, ab, col, dd, k0, k1, k2, k3, k5, hC, hbm⟩ := T.cls
  obtain ⟨hp, g, dr, tk, os⟩ := s
  have k : ∀ b o, hp.get? b = some o → ((hp.push (kdv_tup [v])).push (excO C hp.objs.size)).get? b = some o := fun b o e => Heap.get?_push_of_some _ (Heap.get?_push_of_some _ e)
  have hget : ((hp.push (kdv_tup [v])).push (excO C hp.objs.size)).get? (hp.objs.size + 1) = some (excO C hp.objs.size) := by heap_get
  have hnx : K.lookup (hp.objs.size + 1) = none := by
    cases e : K.lookup (hp.objs.size + 1) with
    | none => rfl
    | some o =>
      have z : hp.get? (hp.objs.size + 1) = some o := X _ _ e
      exact absurd (Nat.lt_of_succ_lt (Heap.lt_size z)) (Nat.lt_irrefl _)
  refine call_own F.excBase_ValueError (fun X => refsVE_contains X bm hbm) (X _ _ hC) (looks_findIn X T.iC) (fun self => bind_fn X self T.tC) (one_size v) ?_
  refine err_init (s := ⟨(hp.push (kdv_tup [v])).push (excO C hp.objs.size), g, dr, tk, os⟩) T (X.keeps k) (hlim.keeps k) hget hnx ?_ fun h' tk' dx ⟨k', hx, dn, dne, hns⟩ => ?_
  · show A.depth + 1 < recursionLimit
    exact hroom
  · have old : ∀ b o, hp.get? b = some o → h'.get? b = some o := fun b o e => k' b o (Nat.ne_of_lt (Nat.lt_succ_of_lt (Heap.lt_size e))) (k b o e)
    have z : hp.objs.size + 1 + 1 ≤ dx := by
      first
        | (simpa only [Heap.size_push] using dn)
        | exact dn
        | (have q := dn; rw [Heap.size_push, Heap.size_push] at q; exact q)
    exact ⟨rfl, hq h' tk' (hp.objs.size + 1) dx ⟨old, Nat.le_succ _, ⟨_, _, hx, rfl, rfl, rfl, rfl⟩, Nat.le_trans (Nat.le_trans (Nat.le_succ _) (Nat.le_succ _)) z, dne, hns⟩⟩
end
end Lo.Er_many
namespace Lo.Er_many
open PySem PySem.Spec PyProof.Rows L2
theorem relO_err {v : V} {v' : Value} (r : RelV v v') (f : PySem.Str) : RelO (List.lookup f [(("many" : PySem.Str), v)]) (if f = "many" then some v' else none) := by
  by_cases hw : f = "many"
  · subst hw
    rw [if_pos rfl]
    have q : List.lookup ("many" : PySem.Str) [(("many" : PySem.Str), v)] = some v := by simp [List.lookup]
    rw [q]
    exact r
  · rw [if_neg hw]
    have qw : (f == ("many" : PySem.Str)) = false := by simpa using hw
    have q2 : List.lookup f [(("many" : PySem.Str), v)] = none := by simp [List.lookup, qw]
    rw [q2]
    trivial
section
variable {X : Cx} {cn : PySem.Str} {C fI : Addr}
def tMk (C : Addr) (ta : TA) : L2.St → Hp → XK → Prop := fun σ H Q => ta σ H fun vs H1 => ∃ v, vs = [v] ∧ ∀ d, H1 d = none → Q (.ref C) (some d) (upd H1 d (.xd [(("many" : PySem.Str), v)]))
theorem pmk {a : Expr} {ta : TA} {p pos : Pos} {k : Nat} (T : ErrTxt X.K X.mg cn C fI) (hr : Room k X.A) (ha : PA X [a] ta) (hg : Gl X cn) (hcn : (cn == ("__debug__" : PySem.Str)) = false)
    (he : starEach (a :: []) X.env = (false, eval a X.env) :: starEach [] X.env := by rfl) (hpl : (backTo pos (starEach [] X.env)).any (·.1) = false := by rfl) :
    PMk X (.Call (.Name cn p) [a] [] pos) (tMk C ta) := by
  intro pins s σ H Q I h
  refine wpAny_Call_Name_kw (ld_glob I hg T.gC ?_ hcn)
  refine PySem.W.callWith_K (h₀ := X.base) I.ok.mod.kin T.kC (thn (ha.run pos pins s σ H _ I h) fun us s1 hh => ?_) he hpl
  obtain ⟨vs, H1, I1, r1, v, ev, q1⟩ := hh
  subst ev
  refine ⟨I1.kIn, ?_⟩
  cases r1 with
  | cons rv rn =>
    rename_i v' us'
    cases rn
    show wpAny _ _ (call (.ref C) [v']) _ _ _
    have hlim := I1.nolimit
    obtain ⟨hp, g, dr, tk, os⟩ := s1
    refine wpAny_call (err_made T I1.kIn hlim (by have := hr.dp; omega) fun h' tk' e d M => ?_)
    show MkP X pins σ Q (.ref e) ⟨h', g, dr, tk', os⟩
    obtain ⟨oe, fv, hoe, hc, hd, hdat, h1⟩ := M.obj
    have hns := M.ns
    obtain ⟨G', g1, g2⟩ := restrict h' fun b => decide (b ≠ e)
    have gk : ∀ b, b ≠ e → G'.get? b = h'.get? b := fun b hb => g1 b (decide_eq_true hb)
    have ge : G'.get? e = none := g2 e (by simp)
    have old : ∀ b o, hp.get? b = some o → G'.get? b = some o := fun b o q => (gk b (Nat.ne_of_lt (Nat.lt_of_lt_of_le (Heap.lt_size q) M.new))).trans (M.keep b o q)
    have ob : ObjOk X.prog X.w (upd H1 d (.xd [(("many" : PySem.Str), v)])) G' d (.xd [(("many" : PySem.Str), v)]) :=
      ⟨_, hns.at (fun o q => (gk d M.dne).trans q), fun f => relO_err rv f⟩
    have J : Inv X pins σ (upd H1 d (.xd [(("many" : PySem.Str), v)])) ⟨G', g, dr, tk', os⟩ := I1.laid (t' := tk') old M.dbig ob
    refine ⟨e, oe, fv, ⟨G', g, dr, tk', os⟩, _, .ref C, some d, rfl, J, fun b o q => ?_, ge, hoe, ⟨hc, hd⟩, hdat, h1, ?_, rfl, I1.bare, raises_own T.exC T.tyC, q1 d (I1.hok.fresh M.dbig)⟩
    · by_cases hb : b = e
      · have q' : G'.get? b = some o := q
        rw [hb, ge] at q'; cases q'
      · exact (gk b hb).symm.trans q
    · rw [upd_ne (Ne.symm M.dne)]
      exact I1.hok.fresh M.new
def tByE (C : Addr) (a : Addr) (cls : Value) (d : Option Addr) (te : TE) : TE := fun σ H Q => te σ H fun x H1 => x = .ref a ∧ cls = .ref C ∧ ∃ (dd : Addr) (v : V), d = some dd ∧ H1 dd = some (.xd [(("many" : PySem.Str), v)]) ∧ Q v H1
theorem pe_byE {a : Addr} {oe : Obj} {cls : Value} {d : Option Addr} {pn : List (Addr × Obj)} {e : Expr} {te : TE} {pos : Pos} (T : ErrTxt X.K X.mg cn C fI) (hz : Zc cls d oe) (hf : ∃ vs, oe.data = .fields vs) (he : PE (X.suite a ((a, oe) :: pn)) e te)
    (hb : attributeBase e "many" X.env (eval e X.env) = eval e X.env := by rfl) :
    PE (X.suite a ((a, oe) :: pn)) (.Attribute e "many" pos) (tByE C a cls d te) := by
  refine ⟨fun pins s σ H Q I h => ?_⟩
  refine attr_of hb (thn (he.run pins s σ H _ I h) fun u s1 hh => ?_)
  obtain ⟨x, H1, I1, rx, ex, ec, dd, v, ed, ea, q⟩ := hh
  subst ex
  obtain rfl : u = Value.ref a := rx
  subst ec
  subst ed
  obtain ⟨ha, _⟩ := I1.pin (a, oe) (List.mem_append_left _ List.mem_cons_self)
  obtain ⟨vs, hd⟩ := hf
  have hx : ObjOk X.prog X.w H1 s1.heap dd (.xd [(("many" : PySem.Str), v)]) := I1.hok dd _ ea
  obtain ⟨mA, hns, hr⟩ := hx
  obtain ⟨od, ho, hl⟩ := lookIn_ns hns
  have l : List.lookup ("many" : PySem.Str) [(("many" : PySem.Str), v)] = some v := by simp [List.lookup]
  obtain ⟨u, hu, ru⟩ := RelO.some_of (v := v) (o := mA "many") (by rw [← l]; exact hr "many")
  have J : PySem.W.InstAt s1.heap a oe C (some od) := ⟨ha, hz.1, by unfold PySem.W.notCls; rw [hd] <;> rfl, by rw [hz.2]; exact ho⟩
  exact HandSPX.exc_get I1.kIn J T.ga T.gg T.exC (PySem.W.findObj_own T.hdC T.noN rfl (by rw [hl, hu])) (handed_of ru) ⟨v, H1, I1.tok _, ru, q⟩
end
/-- the error's facts by looks at the written part: the class cn, its __init__ -/
def errB (K : PySem.W.Frag) (cn : PySem.Str) : Bool :=
  exoB K (He.ga K cn) && (decide (PySem.W.findIn K (.ref (He.ga K cn)) "__setattr__" = some (some (.builtin "object.__setattr__"))) &&
  (decide (PySem.W.findIn K (.ref (He.ga K cn)) "__getattribute__" = some (some (.builtin "BaseException.__getattribute__"))) &&
  (decide (PySem.W.findIn K (.ref (He.ga K cn)) "__getattr__" = some none) && (decide (PySem.W.findIn K (.ref (He.ga K cn)) "many" = some none) &&
  (decide (PySem.W.findIn K (.ref (He.ga K cn)) "__init__" = some (some (.ref (He.fAd K (cn, some "__init__"))))) && (decide (PySem.W.typeIn K (.ref (He.fAd K (cn, some "__init__"))) = some (.type "function")) &&
  (PySem.W.keepIn K (.ref (He.ga K cn)) && (decide (PySem.W.subIn K (.ref (He.ga K cn)) (.type "BaseException") = some true) && (decide (PySem.W.typeIn K (.ref (He.ga K cn)) = some (.type "type")) &&
  PySem.W.hasDictIn K (He.ga K cn))))))))))
theorem errB_ok {K : PySem.W.Frag} {mg : PySem.Str → Option Value} {cn q : PySem.Str} {fd : FuncData} (h : errB K cn = true) (g : mg cn = some (.ref (He.ga K cn))) {p1 p2 q1 q2 q3 q4 : Pos} {more : List (PySem.Str × Const)}
    (F : FunD K "__init__" q (iA p1 p2) (iB q1 q2 q3 q4) (iS more) [] [] (He.fAd K (cn, some "__init__")) fd) : ErrTxt K mg cn (He.ga K cn) (He.fAd K (cn, some "__init__")) := by
  unfold errB at h
  obtain ⟨a1, h⟩ := Bool.and_eq_true_iff.mp h
  obtain ⟨a2, h⟩ := Bool.and_eq_true_iff.mp h
  obtain ⟨a3, h⟩ := Bool.and_eq_true_iff.mp h
  obtain ⟨a4, h⟩ := Bool.and_eq_true_iff.mp h
  obtain ⟨a5, h⟩ := Bool.and_eq_true_iff.mp h
  obtain ⟨a6, h⟩ := Bool.and_eq_true_iff.mp h
  obtain ⟨a7, h⟩ := Bool.and_eq_true_iff.mp h
  obtain ⟨a8, h⟩ := Bool.and_eq_true_iff.mp h
  obtain ⟨a9, h⟩ := Bool.and_eq_true_iff.mp h
  obtain ⟨a10, a11⟩ := Bool.and_eq_true_iff.mp h
  refine ⟨g, exoB_ok a1, of_decide_eq_true a2, of_decide_eq_true a3, of_decide_eq_true a4, of_decide_eq_true a5, of_decide_eq_true a6, of_decide_eq_true a7, a8, of_decide_eq_true a9, of_decide_eq_true a10, a11, ?_⟩
  obtain ⟨oc, od, dV, kV, doc, pm, an, cdv, ct, osl, rfl, lk, hcd, hD, hK⟩ := F.ex
  rcases hD with ⟨_, rfl⟩ | ⟨e, _⟩
  · exact ⟨oc, od, kV, doc, pm, an, cdv, ct, osl, p1, p2, q1, q2, q3, q4, q, more, lk, hcd⟩
  · exact absurd rfl e
structure ErrAt (K : PySem.W.Frag) (mg : PySem.Str → Option Value) (cn : PySem.Str) where
  C : Addr
  fI : Addr
  T : ErrTxt K mg cn C fI
def tRaise (C : Addr) (W : WX) (ta : TA) : TS := fun _ σ H => tMk C ta σ H fun cls d H' => W cls d σ H'
theorem ps_raiseE {X : Cx} {cn : PySem.Str} {a : Expr} {ta : TA} {W : WX} {p pos pos2 : Pos} {k : Nat} {C fI : Addr} (hc : X.calm = true) (hg : Gl X cn) (D : ErrTxt X.K X.mg cn C fI) (hr : Room k X.A) (tk : Takes X W) (ha : PA X [a] ta) (hcn : (cn == ("__debug__" : PySem.Str)) = false := by decide)
    (he : starEach (a :: []) X.env = (false, eval a X.env) :: starEach [] X.env := by rfl) (hpl : (backTo pos (starEach [] X.env)).any (·.1) = false := by rfl) :
    PS X (.Raise (some (.Call (.Name cn p) [a] [] pos)) none pos2) (tRaise C W ta) := ps_raise hc tk (pmk D hr ha hg hcn he hpl)
end Lo.Er_many
set_option Elab.async false
set_option linter.all false
set_option maxRecDepth 100000
set_option maxHeartbeats 4000000
/-! try with several clauses «except X as n», all with one name n -/
namespace Lo
open PySem PySem.Spec PyProof.Rows L2
abbrev Suite := Addr → Value → Option Addr → TS
/-- behind a suite the name is gone -/
def Ends.gone (D : Ends) (i : Nat) : Ends := ⟨fun σ H => D.nx (σ.set i none) H, D.rt, fun σ H => D.bk (σ.set i none) H, fun σ H => D.ct (σ.set i none) H⟩
/-- what the clauses, one behind the other, ask of an exception -/
def wCl (K : PySem.W.Frag) (i : Nat) (Wout : WX) (D : Ends) : List (Value × Suite) → WX
  | [] => Wout
  | q :: r => fun cls d σ H => ∃ b, PySem.W.exmOne K cls q.1 = some b ∧ (b = true → ∀ a, H a = none → q.2 a cls d (Ends.gone D i) (σ.set i (some (.ref a))) H) ∧ (b = false → wCl K i Wout D r cls d σ H)
inductive ClOk (X : Cx) (n : PySem.Str) : List ExceptHandler → List (Value × Suite) → Prop
  | nil : ClOk X n [] []
  | cons {x : PySem.Str} {c : Value} {ts : Suite} {b0 : Stmt} {bs : List Stmt} {p1 p2 : Pos} {hds : List ExceptHandler} {l : List (Value × Suite)} (hc : Names X x c)
      (hs : ∀ (a : Addr) (oe : Obj) (cls : Value) (d : Option Addr) (pn : List (Addr × Obj)), Zc cls d oe → (∃ vs, oe.data = .fields vs) → PSs (X.suite a ((a, oe) :: pn)) (b0 :: bs) (ts a cls d)) (r : ClOk X n hds l) :
      ClOk X n (.ExceptHandler (some (.Name x p1)) (some n) (b0 :: bs) p2 :: hds) ((c, ts) :: l)
section
variable {X : Cx} {n : PySem.Str} {i : Nat} {body : List Stmt} {h0 : ExceptHandler} {hds : List ExceptHandler} {l : List (Value × Suite)} {pos : Pos} {tb : WX → TS} {Wout : WX}
theorem ps_try_cl (hst : X.stack = X.env :: X.outer) (hfm : X.env.frame = some X.env.locals) (hN : X.N.Nodup) (hi : X.N[i]? = some n) (hln : X.env.kindOf n = some .local) (tk : Takes X Wout)
    (hbody : ∀ (W : WX) (pn : List (Addr × Obj)) (xe : Value → Shared → Prop), Takes (X.tr pn xe) W → PassesOwn (model X.prog X.w) X.A X.env xe → PSs (X.tr pn xe) body (tb W))
    (hcl : ClOk X n (h0 :: hds) l) : PS X (.Try body (h0 :: hds) [] [] pos) (fun D σ H => tb (wCl X.K i Wout D l) D σ H) := ⟨fun pins s σ H D I h => by
  have ok := I.ok
  have fr : X.A.frames = some (X.env :: X.outer) := by rw [ok.frames, hst]
  let catchIt : Value → Shared → Prop := fun e s1 => wpAny (model X.prog X.w) X.A (noteFrame e X.env) (fun _ s2 => wpAny (model X.prog X.w) X.A (setFlight e none)
    (fun _ s3 => wpAny (model X.prog X.w) X.A (handleBy e X.env (h0 :: hds)) (SP X pins D) X.xe s3) X.xe s2) X.xe s1
  have caught : ∀ u s1, XE (X.tr (X.pn ++ pins) catchIt) (wCl X.K i Wout D l) u s1 → catchIt u s1 := by
    rintro u s1 ⟨a, B, sI, pins1, σ1, H1, cls, d, rfl, J0, nb, up, sky, na, os, ag, w⟩
    have J : Inv X pins σ1 H1 sI := J0.ofTry ok
    have sky1 : Sky B (X.env :: X.outer) a (Zc cls d) X.env.locals s1.heap := by rw [← hst]; exact sky
    refine Sky.land (M := model X.prog X.w) (E₁ := X.xe) (Q := fun _ s3 => wpAny (model X.prog X.w) X.A (handleBy (.ref a) X.env (h0 :: hds)) (SP X pins D) X.xe s3) Zc.steady fr hfm sky1 fun g gl gu => ?_
    have Jg : Inv X pins σ1 H1 { s1 with heap := g } := J.landed nb gl.1 (up.trans gu) os ag
    obtain ⟨oe, vs, eo, ez, ed⟩ := gl.there
    have away : a ∉ frs (X.env :: X.outer) := fun hm => by
      obtain ⟨_, o1, e1, q1⟩ := gl.2.2.1.mem hm
      rw [eo] at e1
      cases e1
      exact q1 _ ed
    have nL : a ≠ X.env.locals := fun z => away (List.mem_filterMap.mpr ⟨X.env, List.mem_cons_self, by rw [hfm, z]⟩)
    have nF : a ∉ X.fs := fun hm => by
      obtain ⟨e, he, q⟩ := List.mem_filterMap.mp hm
      exact away (List.mem_filterMap.mpr ⟨e, List.mem_cons_of_mem _ he, q⟩)
    have Sg := Jg.suite eo ed na nL nF
    have turn : ∀ {hs : List ExceptHandler} {ls : List (Value × Suite)}, ClOk X n hs ls → wCl X.K i Wout D ls cls d σ1 H1 → wpAny (model X.prog X.w) X.A (handleBy (.ref a) X.env hs) (SP X pins D) X.xe { s1 with heap := g } := by
      intro hs ls hk
      induction hk with
      | nil =>
        intro w1
        refine wpAny_handleBy_nil ?_
        obtain ⟨_, _, _, o2, v2, T, oT, t2, e2, _, d2, f2, _⟩ := id gl
        unfold PySem.passOn
        refine wpAny_bind (wpAny_field e2 d2 f2 ?_)
        rw [if_neg (show ¬ ((Value.ref T == Value.none) = true) from by simp)]
        have last : wpAny (model X.prog X.w) X.A (setFlight (.ref a) X.env.frame) (fun _ s4 => wpAny (model X.prog X.w) X.A (throw (.ref a) : Sem Flow) (SP X pins D) X.xe s4) X.xe { s1 with heap := g } := by
          rw [hfm]
          exact HandSPX.setFlight_upZ gl fun g4 hg4 u4 => wpAny_throw (tk _ _
            ⟨a, B, sI, pins, σ1, H1, cls, d, rfl, J, nb, (up.trans gu).trans u4, .inr (.inr (by rw [hst]; exact hg4)), na, os, ag, w1⟩)
        first | exact wpAny_bind (wpAny_pure (wpAny_bind last)) | exact wpAny_bind last
      | @cons x c ts b0 bs p1 p2 hds2 l2 hc hsu r ih =>
        rintro ⟨b, hb, yes, no⟩
        refine wpAny_handleBy_cons (codeAny_handlers_test ?_) (by intro q; cases q)
        have hty : PySem.W.Looks (model X.prog X.w) g (typeOf (.ref a)) cls := fun A Q E s k q => wpAny_typeOf_ref (k _ _ eo) (by rw [ez.1]; exact q)
        have hmt := PySem.W.exm_one (M := model X.prog X.w) Jg.kIn hty hb
        have readName : ∀ {Q E : Value → Shared → Prop}, Q c { s1 with heap := g } → wpAny (model X.prog X.w) (X.A.mark (some (.ref a))) (eval (.Name x p1) X.env) Q E { s1 with heap := g } := by
          intro Q E q
          rcases hc with ⟨g1, g2, g3 | ⟨g3, g4, g5⟩⟩
          · exact ld_glob (X := X.suite a ((a, oe) :: (X.pn ++ pins))) Sg g1 g3 q g2
          · exact ld_blt (X := X.suite a ((a, oe) :: (X.pn ++ pins))) Sg g1 g3 g4 q g5 g2
        refine readName (hmt.here ?_)
        cases b with
        | false => exact ih (no rfl)
        | true =>
          refine codeAny_handlers_suite_as (HandSPX.lands_againZ gl fun g4 gl4 u4 => ?_)
          have J4 : Inv X pins σ1 H1 { s1 with heap := g4 } := J.landed nb gl4.1 ((up.trans gu).trans u4) os ag
          obtain ⟨o4, v4, e4, z4, d4⟩ := gl4.there
          have S4 := J4.suite e4 d4 na nL nF
          refine store_ok (X := X.suite a ((a, o4) :: (X.pn ++ pins))) (v := .ref a) S4 hN hi (.inl hln) rfl (fun s5 S5 => ?_) (.inr hln)
          refine wpAny_mono ((hsu a o4 cls d (X.pn ++ pins) z4 ⟨_, d4⟩).run [] s5 _ H1 _ S5 (yes rfl a na)) (fun f s6 hf => ?_) (fun _ _ z => False.elim z)
          cases f with
          | next => obtain ⟨σ6, H6, S6, q6⟩ := hf; exact gone_ok (S6.unsuite ok) hN hi hln fun s7 J7 => ⟨_, _, J7, q6⟩
          | brk => obtain ⟨σ6, H6, S6, q6⟩ := hf; exact gone_ok (S6.unsuite ok) hN hi hln fun s7 J7 => ⟨_, _, J7, q6⟩
          | cont => obtain ⟨σ6, H6, S6, q6⟩ := hf; exact gone_ok (S6.unsuite ok) hN hi hln fun s7 J7 => ⟨_, _, J7, q6⟩
          | ret u => obtain ⟨v6, σ6, H6, S6, r6, q6⟩ := hf; exact gone_ok (S6.unsuite ok) hN hi hln fun s7 J7 => ⟨_, _, _, J7, r6, q6⟩
    exact turn hcl w
  refine wpAny_Try_except (wpAny_mono ((hbody (wCl X.K i Wout D l) (X.pn ++ pins) catchIt caught PassesOwn.looking).run [] s σ H D (I.toTry _) h) (fun f s1 hf => ?_) (fun _ _ z => z))
  cases f with
  | next => obtain ⟨σ1, H1, J1, q⟩ := hf; exact wpAny_execs_nil ⟨σ1, H1, J1.ofTry ok, q⟩
  | brk => obtain ⟨σ1, H1, J1, q⟩ := hf; exact ⟨σ1, H1, J1.ofTry ok, q⟩
  | cont => obtain ⟨σ1, H1, J1, q⟩ := hf; exact ⟨σ1, H1, J1.ofTry ok, q⟩
  | ret u => obtain ⟨v, σ1, H1, J1, r, q⟩ := hf; exact ⟨v, σ1, H1, J1.ofTry ok, r, q⟩⟩
end
end Lo
set_option Elab.async false
set_option linter.all false
set_option maxRecDepth 100000
set_option maxHeartbeats 4000000
/-! sorted of data; sorted(.., key=lambda word: (len(word), word)) -/
namespace Lo
open PySem PySem.W PySem.Calls PyProof.Rows L2
def lwBody (p1 p2 p3 p4 p5 : Pos) : Expr := .Tuple [.Call (.Name "len" p1) [.Name "word" p2] [] p3, .Name "word" p4] 0 p5
def lwArgs (p : Pos) : Arguments := { posonlyargs := [], args := [{ arg := "word", annotation := none, pos := p }], vararg := none, kwonlyargs := [], kw_defaults := [], kwarg := none, defaults := [] }
def lwScope (more : List (PySem.Str × Const)) : Scope := { kind := .function, names := [(PySem.Str.ofString "word", .local), (PySem.Str.ofString "len", .globalImplicit)], isGenerator := false, isCoroutine := false, more := more }
/-- how a text is told apart in such a sort -/
def lwKey (z : PySem.Str) : PyData := .tuple [.int z.length, .str z]
section
variable {prog : Program} {w : World} {A : Around} {s : Shared} {mg mb : PySem.Str → Option Value} {f c : Addr} {q : PySem.Str} {cl : List (PySem.Str × Addr)} {pm ctv : Value} {p0 p1 p2 p3 p4 p5 : Pos} {more : List (PySem.Str × Const)}
theorem lw_call (hroom : A.depth < recursionLimit) (ho : s.heap.get? f = some (kla_obj "<lambda>" q (lwArgs p0) (lwBody p1 p2 p3 p4 p5) (lwScope more) cl pm c ctv)) (hc : s.heap.CodeRec (.ref c) q)
    (lim : s.heap.NoLimit) (gl : s.heap.Ns mainGlobals mg) (hm : mg "len" = none) (bl : s.heap.Ns builtinsNs mb) (hb : mb "len" = some (.builtin "len")) {z : PySem.Str} {t : Tok} (hz : z.length ≤ sizeLine) :
    wpAny (model prog w) A (call (.ref f) [.str z t]) (KeyPure (lwKey z) s) (fun _ _ => False) s := by
  have l63 := line63
  have hl := sizeLine_eq
  refine wpAny_call (codeAny_mono (R := fun r s' => ∃ v, r = .ok (.ret v) ∧ KeyPure (lwKey z) s v s') ?_ fun r s' ⟨v, e, h⟩ => by subst e; exact h)
  refine kla_callFunE hroom ho rfl rfl rfl rfl hc ?_
  have eb : bindArgs (kla_fn "<lambda>" q (lwArgs p0) (lwBody p1 p2 p3 p4 p5) (lwScope more) cl pm (.ref c) ctv) ⟨[.str z t], []⟩ = pure [(PySem.Str.ofString "word", .str z t)] := by rfl
  rw [eb]
  refine wpAny_pure (wpAny_newFunctionEnv (fun y hy => ?_) (fun y hy => ?_) (fun h₁ hns hsb => ?_) rfl)
  · have hy2 : y = (PySem.Str.ofString "word", .local) ∨ y = (PySem.Str.ofString "len", .globalImplicit) := by
      simpa [kla_fn, lwScope] using hy
    rcases hy2 with e | e <;> rw [e] <;> simp
  · have hy2 : y = (PySem.Str.ofString "word", .str z t) := by simpa using hy
    rw [hy2] <;> rfl
  · have kp : ∀ b o, s.heap.get? b = some o → h₁.get? b = some o := fun b o e => hsb.extBut b o (Nat.ne_of_lt (Heap.lt_size e)) (Heap.get?_push_of_some _ e)
    refine ⟨lim.fresh _ hsb, kla_codeExpr ?_⟩
    show wpAny _ _ (eval (lwBody p1 p2 p3 p4 p5) _) _ _ _
    have word : ∀ {Q : Value → Shared → Prop} {E : Value → Shared → Prop} {A' : Around} {p : Pos} {tk : Nat}, Q (.str z t) { s with heap := h₁, toks := tk } →
        wpAny (model prog w) A' (eval (.Name "word" p) (newEnv (lwScope more) s.heap.objs.size mainGlobals cl (q ++ ".<locals>.") (some f) (.ref c) none builtinsNs)) Q E { s with heap := h₁, toks := tk } := fun {Q E A' p tk} hq =>
      wpAny_Name (wpAny_loadName_local rfl rfl hns (by rfl) hq) (by decide)
    refine wpAny_Tuple_spliced (Calls.spliced_cons (wpAny_Call_Name_kw (Calls.Name_function_global rfl rfl (Calls.loadGlobal_builtin (gl.keeps kp) hm (bl.keeps kp) hb ?_) (by decide))))
    refine callWith_builtin1 (Calls.spliced_cons (word (Calls.spliced_nil ?_))) (by rfl) (by rfl)
    refine len_str (by omega) ?_
    refine Calls.spliced_cons (word (Calls.spliced_nil ⟨by show 2 ≤ sizeLine; rw [hl]; decide, ?_⟩))
    refine ⟨_, rfl, _, _, rfl, fun b o e => Heap.get?_push_of_some _ (kp b o e), ?_⟩
    exact Reads.tuple (Heap.get?_push_size _ rfl) rfl rfl (ReadsAll.cons (.int _ _) (ReadsAll.cons (.str _ _) .nil))
end
end Lo
namespace Lo
open PySem PySem.Spec PyProof.Rows L2
open LamX (Tabs ExtN TabB CodeO)
theorem sqL_extN {K : PySem.W.Frag} {H H1 : Hp} {a : Addr} {xs : List V} (e : ExtN H H1) (h : SqL K H a xs) : SqL K H1 a xs := by
  rcases h with (h | ⟨o, h⟩) | h
  · exact .inl (.inl (e _ _ h fun ps q => by cases q))
  · exact .inl (.inr ⟨o, e _ _ h fun ps q => by cases q⟩)
  · exact .inr h
/-- texts to be walked: a list of them, or a dict's keys -/
def TextsAt (K : PySem.W.Frag) (H : Hp) (x : V) (ks : List PySem.Str) : Prop :=
  (∃ a, x = .ref a ∧ SqL K H a (ks.map V.str)) ∨ ∃ a kvs, x = .ref a ∧ H a = some (.dK kvs) ∧ kvs.map (·.1) = ks.map Sum.inr
theorem TextsAt.extN {K : PySem.W.Frag} {H H1 : Hp} {x : V} {ks : List PySem.Str} (e : ExtN H H1) (h : TextsAt K H x ks) : TextsAt K H1 x ks := by
  rcases h with ⟨a, e1, h⟩ | ⟨a, kvs, e1, h, h2⟩
  · exact .inl ⟨a, e1, sqL_extN e h⟩
  · exact .inr ⟨a, kvs, e1, e _ _ h fun ps q => (by cases q), h2⟩
theorem lw_alike (ks : List PySem.Str) : PySem.W.AllAlike (ks.map lwKey) := PySem.W.AllAlike.of fun b b' => by
  simp [lwKey, PySem.W.alike, PySem.W.alikeAll]
theorem lw_sortable (ks : List PySem.Str) : PySem.W.Sortable (ks.map lwKey) := PySem.W.Sortable.tuples fun b => ⟨_, _, rfl⟩
theorem lw_depth (z : PySem.Str) : (lwKey z).depth = 1 := by simp [lwKey, PyData.depth, PyData.depthAll]
theorem each_strs : ∀ {ks : List PySem.Str} {us : List Value}, Vals (ks.map V.str) us → PySem.W.EachIs (fun v z => ∃ t, v = Value.str z t) us ks
  | [], _, .nil => .nil
  | _ :: _, _, .cons r t => .cons r (each_strs t)
theorem strs_each : ∀ {ks : List PySem.Str} {us : List Value}, PySem.W.EachIs (fun v z => ∃ t, v = Value.str z t) us ks → Vals (ks.map V.str) us
  | _, _, .nil => .nil
  | _, _, .cons r t => .cons r (strs_each t)
def tSortLw (K : PySem.W.Frag) (T : List (Addr × PySem.Str)) (te : TE) : TE := fun σ H Q => tCons te tNil σ H fun vs H1 => ∃ x, vs = [x] ∧ Tabs T H1 ∧ ∃ ks : List PySem.Str, TextsAt K H1 x ks ∧ ks.length ≤ sizeLine ∧ (∀ z ∈ ks, z.length ≤ sizeLine) ∧
  ∀ H2, ExtN H1 H2 → Tabs T H2 → ∀ p, H2 p = none → Q (.ref p) (upd H2 p (.lst ((ks.mergeSort (PySem.W.dataLe false lwKey)).map V.str)))
section
variable {X : Cx}
theorem pe_sortLw {T : List (Addr × PySem.Str)} {c P : Addr} {k : Nat} {e : Expr} {te : TE} {p p0 p1 p2 p3 p4 p5 lpos kpos pos : Pos} {more : List (PySem.Str × Const)} (he : PE X e te) (hg : Gl X "sorted") (hm : X.mg "sorted" = none) (hml : X.mg "len" = none)
    (hcalm : X.calm = true) (hr : Room k X.A) (TB : TabB X.base X.mg c P) (hcode : X.env.code = .ref c) (hmT : (P, X.env.qual ++ "<lambda>") ∈ T) (hu : ∀ q ∈ T, q.1 = P → q.2 = X.env.qual ++ "<lambda>")
    (hs1 : starEach [e] X.env = (false, eval e X.env) :: starEach [] X.env := by rfl) :
    PE X (.Call (.Name "sorted" p) [e] [⟨some "key", .Lambda (lwArgs p0) (lwBody p1 p2 p3 p4 p5) (lwScope more) lpos, kpos⟩] pos) (tSortLw X.K T te) := by
  refine ⟨fun pins s σ H Q I h => ?_⟩
  refine wpAny_Call_Name_kw (ld_blt I hg hm bt_sorted ?_)
  have hbk : backTo pos (starEach [e] X.env) = (false, eval e X.env) :: backTo pos (starEach [] X.env) := by rw [hs1]; rfl
  have ha : PA X [e] (tCons te tNil) := pa_cons he pa_nil hs1
  refine PyProof.Rows.callWith_kw (thn (ha.run pos pins s σ H _ I h) fun us s1 ⟨vs, H1, I1, r1, q1⟩ => ?_) hbk (by rw [hbk]; rfl) (by rfl) (by rfl)
  obtain ⟨x, rfl, hT, ks, hx, hlen, hzs, q⟩ := q1
  show wpAny _ _ (evalAll ((do let v ← eval (.Lambda (lwArgs p0) (lwBody p1 p2 p3 p4 p5) (lwScope more) lpos) X.env; standAt pos; pure v) :: [])) _ _ s1
  refine wpAny_evalAll_cons (wpAny_bind (LamX.lam_make2 I1 TB hcode hmT hu hT (by rfl) (fun y hy e1 => ?_) fun f c1 pm ctv H2 s2 I2 eN T2 hf hfn hfr hco => wpAny_bind (wpAny_standAt (wpAny_pure (wpAny_pure ?_)))))
  · have hy2 : y = (PySem.Str.ofString "word", .local) ∨ y = (PySem.Str.ofString "len", .globalImplicit) := by
      simpa [lwScope] using hy
    rcases hy2 with e2 | e2 <;> rw [e2] at e1 <;> cases e1
  show wpAny _ _ (call (.builtin "sorted") us [(PySem.Str.ofString "key", .ref f)]) _ _ s2
  obtain ⟨mb, hb1, hb2⟩ := I2.ok.mod.blt
  have hun := hr.un
  have hdp := hr.dp
  have turn : ∀ (v : Value) (z : PySem.Str), (∃ t, v = Value.str z t) → z ∈ ks → ∀ (g : Heap) (tk : Nat), (∀ b o, s2.heap.get? b = some o → g.get? b = some o) →
      wpAny (model X.prog X.w) X.A.in1.in1 (call (.ref f) [v]) (PySem.W.KeyPure (lwKey z) { s2 with heap := g, toks := tk }) (fun _ _ => False) { s2 with heap := g, toks := tk } := by
    rintro v z ⟨t, rfl⟩ hz g tk kg
    obtain ⟨⟨oc, fs, t2, g1, g2, g3⟩, _, _⟩ := I2.hok c1 _ hco
    exact lw_call (s := { s2 with heap := g, toks := tk }) (mg := X.mg) (mb := mb) (show X.A.in1.in1.depth < recursionLimit by show X.A.depth < _; omega) (kg _ _ hf) ⟨c1, oc, fs, t2, rfl, kg _ _ g1, g2, g3⟩
      (I2.nolimit.keeps kg) ((I2.mod.glob.keeps I2.bk).keeps kg) hml ((hb1.keeps I2.bk).keeps kg) ((hb2 _ (by decide)).trans bt_len) (hzs z hz)
  have fin : ∀ (out : List Value) (cc : Nat) (g : Heap) (tk d : Nat), (∀ b o, s2.heap.get? b = some o → g.get? b = some o) → s2.heap.get? d = none → H2 d = none → g.get? d = some (seqObj "list" (List.toArray out) cc) → out.length = ks.length →
      PySem.W.EachIs (fun v z => ∃ t, v = Value.str z t) out (ks.mergeSort (PySem.W.dataLe false lwKey)) → EP X pins σ Q (.ref d) { s2 with heap := g, toks := tk } := by
    intro out cc g tk d kg hd hn hl ho eo
    have rv := strs_each eo
    refine ⟨.ref d, upd H2 d (.lst ((ks.mergeSort (PySem.W.dataLe false lwKey)).map V.str)), I2.laidN (t' := tk) kg hd hn ⟨?_, out, cc, rv, hl⟩, rfl, q H2 eN T2 d hn⟩
    rw [rv.length, ho]
    exact hlen
  rcases hx.extN eN with ⟨a, ex, hs⟩ | ⟨a, kvs, ex, hd, hkk⟩
  · subst ex
    obtain ⟨u, rfl, ru⟩ := vals1 r1
    cases ru
    obtain ⟨its, rv, pl, _⟩ := I2.list hs
    have hlI : its.length = ks.length := by rw [← rv.length, List.length_map]
    refine PySem.W.sorted_key_data (b := false) lwKey pl.isList (each_strs rv) (lw_alike ks) (lw_sortable ks) hlen (fun z hz => by rw [lw_depth]; omega) (PyProof.Rows.ksk_s1 _ _) (fun x => PyProof.Rows.ksk_l1 _ _) (fun x => PyProof.Rows.ksk_t1 f x) turn ?_
    intro out cc g tk kg _ hl ho eo
    exact fin out cc g tk _ kg (Heap.get?_none_of_le (Nat.le_succ _)) (I2.hok.fresh (Nat.le_succ _)) hl ho eo
  · subst ex
    obtain ⟨u, rfl, ru⟩ := vals1 r1
    cases ru
    obtain ⟨zl, lo, vs2, rel, dd⟩ := dk_rd I2.hok (.inl hd)
    obtain ⟨ep, hat⟩ := dd.dictAt
    have hkeys : vs2.map (·.1) = ks.map Sum.inr := rel.keys.symm.trans hkk
    have hl2 : vs2.length = ks.length := by
      have e2 := congrArg List.length hkeys
      rw [List.length_map, List.length_map] at e2
      exact e2
    refine PyProof.Rows.call_function_entry_kw PyProof.Rows.kind_sorted PyProof.Rows.plain_sorted PyProof.Rows.entry_sorted (PyProof.Rows.ksk_s1 _ _) ?_
    unfold Builtin.«sorted»
    refine wpAny_bind (m := checkCount "sorted" 1 1 _) (wpAny_pure ?_)
    refine wpAny_bind (PySem.W.kdu_collect (A := X.A.in1) (PySem.W.kdl_dict (knd := mixKind X.prog X.w) (kvs := vs2) (ep := ep) lo) (I2.ok.hd hcalm) hat (by rw [hl2]; exact hlen) fun h3 tk acc hk hacc => ?_)
    have hal : acc.toList.length = ks.length := by rw [Array.length_toList, hacc.1, hl2]
    have rva : Vals (vs2.map fun q => kV q.1) acc.toList := keys_at (by rw [hal, hl2]) fun j v e2 => by
      obtain ⟨k2, x2, e3, e4⟩ := hacc.2 j v (by rw [← Array.getElem?_toList]; exact e2)
      exact ⟨k2, x2, e3, e4⟩
    have rvk : Vals (ks.map V.str) acc.toList := by
      have e5 : vs2.map (fun q => kV q.1) = ks.map V.str := by
        have e6 : vs2.map (fun q => kV q.1) = (vs2.map (·.1)).map kV := by rw [List.map_map]; rfl
        rw [e6, hkeys, List.map_map]; rfl
      rw [← e5]; exact rva
    refine wpAny_bind (wpAny_newList ?_ (by rw [hal]; exact hlen))
    have hoL : (h3.push (seqObj "list" acc.toList.toArray 0)).get? h3.objs.size = some (seqObj "list" acc.toList.toArray 0) := Heap.get?_push_size _ rfl
    have k3 : ∀ b o, s2.heap.get? b = some o → (h3.push (seqObj "list" acc.toList.toArray 0)).get? b = some o := fun b o e2 => Heap.get?_push_of_some _ (hk b o e2)
    have hno : ∀ o, s2.heap.get? h3.objs.size ≠ some o := fun o e2 => Nat.lt_irrefl _ (Heap.lt_size (hk _ _ e2))
    have hp : s2.heap.get? h3.objs.size = none := by
      cases q2 : s2.heap.get? h3.objs.size with
      | none => rfl
      | some o => exact absurd q2 (hno o)
    have hn : H2 h3.objs.size = none := by
      cases q2 : H2 h3.objs.size with
      | none => rfl
      | some o => exact absurd ((I2.hok.kept hk).lt q2) (Nat.lt_irrefl _)
    refine wpAny_bind (wpAny_holding (wpAny_call_entry_kw PyProof.Rows.slot_list_sort ⟨_, hoL, rfl⟩ PyProof.Rows.entry_list_sort ?_ (PyProof.Rows.ksk_l1 _ _)))
    rw [PyProof.Rows.ksk_t1]
    refine PySem.W.keyH_tree (kz := ks.map lwKey) (s := { s2 with heap := h3.push (seqObj "list" acc.toList.toArray 0), toks := tk }) hoL (by rw [List.length_map, hal]) (by rw [hal]; exact hlen) (lw_alike ks) (lw_sortable ks)
      (fun d hd2 => by obtain ⟨z, _, rfl⟩ := List.mem_map.mp hd2; rw [lw_depth]; show X.A.units + 1 + 1 + 1 < cLine; omega)
      (PySem.W.keyH_turns (s := { s2 with heap := h3.push (seqObj "list" acc.toList.toArray 0), toks := tk }) (each_strs rvk) fun v z hR hz g tk2 kp => turn v z hR hz g tk2 fun b o e2 => kp b o (fun z2 => ?_) (k3 b o e2)) fun g tk2 out cc kp hl ko => ⟨.none, rfl, ?_⟩
    · rw [z2] at e2
      exact hno _ e2
    · have ho : out.length = ks.length := (ko.length (by rw [List.length_map, hal])).trans hal
      refine wpAny_pure ⟨_, rfl, fin out cc g tk2 _ (fun b o e2 => kp b o (fun z2 => ?_) (k3 b o e2)) hp hn hl ho (PySem.W.keyedOut_each lwKey ko (each_strs rvk))⟩
      rw [z2] at e2
      exact hno _ e2
end
end Lo
set_option Elab.async false
set_option linter.all false
set_option maxRecDepth 100000
set_option maxHeartbeats 4000000
/-! enumerate over a tuple; list of a text; a text many times; a new dict's keys gone through; sorted of data -/
namespace Lo
open PySem
theorem meets_enumT (l : Addr) (items : Array Value) :
    Meets (Builtin.«enumerate.__new__» ⟨[.type "enumerate", .ref l], []⟩) (fun _ R s => s.heap.IsTuple l items ∧
      R (.ok (.ret (.ref (s.heap.push { cls := .type "tuple_iterator", data := .fields #[.ref l, .int 0 0] }).objs.size)))
        { s with heap := (s.heap.push { cls := .type "tuple_iterator", data := .fields #[.ref l, .int 0 0] }).push { cls := .type "enumerate", data := .fields #[.none, .bool false, .ref s.heap.objs.size, rawInt 0, .none, .none] } }) :=
  .of_wp fun prog w A R s h => by
    obtain ⟨hp, g, d, tk, os⟩ := s
    obtain ⟨hT, h⟩ := h
    have hsub := sub_enumerate
    have q1 : ∀ {A' : Around} {E : Value → Shared → Prop} {Q : Value → Shared → Prop}, Q (.ref hp.objs.size) ⟨hp.push { cls := .type "tuple_iterator", data := .fields #[.ref l, .int 0 0] }, g, d, tk, os⟩ → wpAny (model prog w) A' (pyIter (.ref l)) Q E ⟨hp, g, d, tk, os⟩ :=
      fun {A' E Q} hq => (begins_tuple l items).iter prog w A' E ⟨hp, g, d, tk, os⟩ Q hT hq
    wp_walk
    refine wpAny_stack_any fun st => wpAny_pure ?_
    split
    · rename_i c _ _ _ _ _
      cases (c == Value.type "enumerate")
      · wp_walk using q1
        exact ⟨_, rfl, h⟩
      · wp_walk using q1
        exact ⟨_, rfl, h⟩
    · wp_walk using q1
      exact ⟨_, rfl, h⟩
end Lo
namespace Lo
open PySem PySem.Spec PyProof.Rows L2
section
variable {prog : Program} {w : World} {A : Around} {E : Value → Shared → Prop} {s : Shared}
theorem call_enumT {l : Addr} {items : Array Value} {Q : Value → Shared → Prop} (hT : s.heap.IsTuple l items)
    (h : ∀ h', IsEnum h' (s.heap.objs.size + 1) s.heap.objs.size 0 .none → h'.IsTupleIter s.heap.objs.size l 0 → h'.objs.size = s.heap.objs.size + 2 →
      (∀ b o, s.heap.get? b = some o → h'.get? b = some o) → Q (.ref (s.heap.objs.size + 1)) { s with heap := h' }) :
    wpAny (model prog w) A (call (.type "enumerate") [.ref l]) Q E s := by
  refine callType_new F.called_enumerate (by decide) (F.typeCall_enumerate_1 _) (F.newCall_enumerate_1 _) (fun obj => F.args_object_init_2 obj _) F.entry_enumerate_new (meets_enumT l items) ⟨hT, ?_⟩
  generalize hg : s.heap.push { cls := .type "tuple_iterator", data := .fields #[.ref l, .int 0 0] } = g
  have hz : g.objs.size = s.heap.objs.size + 1 := by rw [← hg]; exact Heap.size_push ..
  have g0 : g.get? s.heap.objs.size = some { cls := .type "tuple_iterator", data := .fields #[.ref l, .int 0 0] } := by rw [← hg]; exact Heap.get?_push_size _ rfl
  have gk : ∀ b o, s.heap.get? b = some o → g.get? b = some o := fun b o x => by rw [← hg]; exact Heap.get?_push_of_some _ x
  have e1 : (g.push { cls := .type "enumerate", data := .fields #[.none, .bool false, .ref s.heap.objs.size, rawInt 0, .none, .none] }).get? g.objs.size = some { cls := .type "enumerate", data := .fields #[.none, .bool false, .ref s.heap.objs.size, rawInt 0, .none, .none] } := Heap.get?_push_size _ rfl
  have he : IsEnum (g.push { cls := .type "enumerate", data := .fields #[.none, .bool false, .ref s.heap.objs.size, rawInt 0, .none, .none] }) (s.heap.objs.size + 1) s.heap.objs.size 0 .none := by
    rw [hz] at e1
    exact e1
  rw [hz]
  exact ⟨⟨_, he, rfl⟩, h _ he ⟨_, Heap.get?_push_of_some _ g0, rfl, rfl⟩ (by rw [Heap.size_push, hz]) fun b o x => Heap.get?_push_of_some _ (gk b o x)⟩
end
/-- the tuple at a as it stands at each turn, each item in a new pair -/
def ItU (K : PySem.W.Frag) (a : Addr) (n : Nat) : It :=
  ⟨fun i H => ∃ (xs : List V) (x : V), SqT K H a xs ∧ xs[i]? = some x ∧ xs.length = n,
   fun i H v H' => ∃ T x, v = .ref T ∧ H T = none ∧ H' = upd H T (.tup [.int (i : Nat), x]) ∧ ∀ xs, SqT K H a xs → xs[i]? = some x,
   fun i H => ∃ xs : List V, SqT K H a xs ∧ xs.length ≤ i ∧ xs.length = n⟩
theorem walk_enumU {K : PySem.W.Frag} {a : Addr} {xs : List V} : Walk (ItU K a xs.length) xs.length (fun H => SqT K H a xs) (YPair (fun i => some (.int (i : Nat))) (fun i => xs[i]?)) := by
  refine ⟨fun i _ hi q => ⟨xs, xs[i], q, by simp [hi], rfl⟩, fun _ q => ⟨xs, q, Nat.le_refl _, rfl⟩, fun i H v H' _ q y => ?_⟩
  obtain ⟨T, x, h1, h2, h3, h4⟩ := y
  exact ⟨T, .int (i : Nat), x, h1, h2, h3, rfl, h4 xs q⟩
theorem turn_enumU {P : Program} {w : World} {K : PySem.W.Frag} {elts : List Expr} {kk : Nat} {tpos : Pos} (a e it : Addr) (n : Nat) :
    Turn P w K (.Tuple elts kk tpos) (ItU K a n) [e, it] e (fun i h => (∃ old, IsEnum h e it ((i : Nat) : Int) old) ∧ h.IsTupleIter it a i ∧ e ≠ it ∧ a ≠ e ∧ a ≠ it ∧ i ≤ n) where
  mem := by simp
  obj := fun i h st b hb => by
    obtain ⟨⟨old, he⟩, ⟨o, ho, hc, hd⟩, _⟩ := st
    rcases (show b = e ∨ b = it by simpa using hb) with rfl | rfl
    · exact ⟨_, he, fun v q => nomatch q⟩
    · exact ⟨o, ho, fun v q => by rw [hd] at q; cases q⟩
  keep := fun i h h' st k => by
    obtain ⟨⟨old, he⟩, hi, hne⟩ := st
    exact ⟨⟨old, k e (by simp) _ he⟩, hi.at fun o q => k it (by simp) o q, hne⟩
  item := by
    intro X hP hw hK hc i pins s σ H E I hf st hg
    subst hP hw hK
    obtain ⟨⟨old, he⟩, hit, hne, hae, hai, hin⟩ := st
    obtain ⟨xs, x, hq, hx, hxn⟩ := hg
    obtain ⟨its, rv, p, hz⟩ := I.tuple hq
    obtain ⟨u, hu, ru⟩ := rv.get hx
    have hel : e < s.heap.objs.size := Heap.lt_size he
    have hil : it < s.heap.objs.size := by obtain ⟨_, q, _⟩ := hit; exact Heap.lt_size q
    have hT : s.heap.IsTuple a its.toArray := p
    have hi : i < its.toArray.size := by
      have := (List.getElem?_eq_some_iff.mp hu).1
      simpa using this
    refine wpAny_pyNext_enum_itemD (Draws.tuple (A := X.A.in1) (show X.A.in1.handled = none from I.ok.hd hc) it a hai its.toArray) he ⟨hit, hT⟩ hi hne (by simp [hne, Ne.symm hae]) fun y h' tk hy ho hst hT1 hsz hk => ?_
    have ey : y = u := by
      have h1 : its[i]? = some y := by simpa using hy
      rw [hu] at h1
      exact (Option.some.inj h1).symm
    subst ey
    refine ⟨_, rfl, wpAny_letOwnedTupleGo_enum (s := { s with heap := h', toks := tk + 1 }) ho fun h'' he' sb => ?_⟩
    have hT2 : h''.get? s.heap.objs.size = some { cls := .type "tuple", data := .seq #[.int i tk, y] } := (sb.2 _ (Nat.ne_of_gt hel)).trans hT1
    have new : ObjOk X.prog X.w (upd H s.heap.objs.size (.tup [.int (i : Nat), x])) h'' s.heap.objs.size (.tup [.int (i : Nat), x]) :=
      ⟨by show 2 ≤ sizeLine; decide, [.int i tk, y], .cons ⟨_, rfl⟩ (.cons ru .nil), ⟨_, hT2, rfl, _, rfl⟩⟩
    have I1 : Inv X pins σ (upd H s.heap.objs.size (.tup [.int (i : Nat), x])) { s with heap := h'', toks := tk + 1 } := by
      refine I.turnedNew (ch := [e, it]) (fun b ob hb q => ?_) hf (Nat.le_refl _) new
      have n1 : b ≠ e := fun z => hb (by simp [z])
      have n2 : b ≠ it := fun z => hb (by simp [z])
      exact (sb.2 b n1).trans (hk b ob n1 n2 q)
    refine ⟨.ref s.heap.objs.size, _, I1, rfl, ⟨_, x, rfl, I.hok.fresh (Nat.le_refl _), rfl, fun ys hy => by rw [I.tuple_inj hy hq]; exact hx⟩, ⟨⟨y, ?_⟩, hst.1.at fun o q => (sb.2 it (Ne.symm hne)).trans q, hne, hae, hai, by have := (List.getElem?_eq_some_iff.mp hx).1; omega⟩, fun b hb => ?_⟩
    · rw [show ((i + 1 : Nat) : Int) = (i : Int) + 1 by omega]
      exact he'
    · have hb' : b < s.heap.objs.size := by
        rcases (show b = e ∨ b = it by simpa using hb) with rfl | rfl
        · exact hel
        · exact hil
      rw [upd_ne (Nat.ne_of_lt hb')]
      exact (hf b hb).1
  done := by
    intro X hP hw hK hc i pins s σ H E I hf st hg
    subst hP hw hK
    obtain ⟨⟨old, he⟩, hit, hne, hae, hai, hin⟩ := st
    obtain ⟨xs, hq, hx, hxn⟩ := hg
    obtain ⟨its, rv, p, hz⟩ := I.tuple hq
    obtain ⟨f0, f1, f2, f3, f4, f5⟩ := hf it (by simp)
    have hl := rv.length
    have hT : s.heap.IsTuple a its.toArray := p
    have ei : i = its.toArray.size := by simp; omega
    refine wpAny_pyNext_enum_endD (Draws.tuple (A := X.A.in1) (show X.A.in1.handled = none from I.ok.hd hc) it a hai its.toArray) he ⟨by rw [← ei]; exact hit, hT⟩ fun h' eb => ?_
    exact ⟨rfl, I.turned (t' := s.toks) (fun b o hb q => eb b o hb q) f0 f1 f3 f4 f5⟩
  self := fun A i s Q E st h => by
    obtain ⟨⟨_, he⟩, _⟩ := st
    exact wpAny_pyIter_enum he h
def iEnumU (K : PySem.W.Frag) (ta : TA) : TI := fun σ H R => ta σ H fun vs H1 => ∃ a xs, vs = [.ref a] ∧ SqT K H1 a xs ∧ R (ItU K a xs.length) H1
theorem pi_enumU {X : Cx} {e : Expr} {ta : TA} {p pos tpos : Pos} {elts : List Expr} {kk : Nat} (hg : Gl X "enumerate") (hm : X.mg "enumerate" = none) (ha : PA X [e] ta) (hs : starEach [e] X.env = [(false, eval e X.env)] := by rfl) :
    PI X (.Tuple elts kk tpos) (.Call (.Name "enumerate" p) [e] [] pos) (iEnumU X.K ta) := by
  refine ⟨fun pins s σ H R I h => ?_⟩
  refine Call_ (ld_blt I hg hm boot_enumerate (PyProof.Rows.callWith_type1 (thn (ha.run pos pins s σ H _ I h) fun us s1 ⟨vs, H1, I1, r1, q1⟩ => ?_) hs rfl))
  obtain ⟨a, xs, ex, hq, q⟩ := q1
  subst ex
  obtain ⟨u, rfl, ru⟩ := vals1 r1
  cases ru
  obtain ⟨its, rv, p', hz⟩ := I1.tuple hq
  have hT : s1.heap.IsTuple a its.toArray := p'
  have hal : a < s1.heap.objs.size := by obtain ⟨o, ho, _⟩ := hT; exact Heap.lt_size ho
  refine call_enumT hT fun h' he hit hsz hk => wpAny_pyIter_enum he ?_
  have I2 : Inv X pins σ H1 { s1 with heap := h' } := I1.kept (t' := s1.toks) hk
  refine ⟨s1.heap.objs.size + 1, [s1.heap.objs.size + 1, s1.heap.objs.size], _, _, H1, rfl, I2, turn_enumU a (s1.heap.objs.size + 1) s1.heap.objs.size xs.length, ⟨⟨.none, he⟩, hit, Nat.succ_ne_self _, Nat.ne_of_lt (Nat.lt_succ_of_lt hal), Nat.ne_of_lt hal, Nat.zero_le _⟩, fun b hb => ?_, q⟩
  have hle : s1.heap.objs.size ≤ b := by
    rcases (show b = s1.heap.objs.size + 1 ∨ b = s1.heap.objs.size by simpa using hb) with rfl | rfl
    · exact Nat.le_add_right _ _
    · exact Nat.le_refl _
  exact I1.fpOk hle (I1.hok.fresh hle)
/-! ### list(text), text * n -/
def rListStr : List V → Hp → VK → Prop := fun xs H Q => ∃ z : PySem.Str, xs = [.str z] ∧ z.length ≤ sizeLine ∧ ∀ l, H l = none → Q (.ref l) (upd H l (.lst (z.cps.toList.map fun c => V.str ⟨#[c]⟩)))
def rRepS : R2 := fun x y H Q => ∃ (z : PySem.Str) (n : Int), x = .str z ∧ y = .int n ∧ MulOk z n ∧ Q (.str (Txt.mul z n)) H
section
variable {X : Cx}
theorem op_repS : OpR X (binaryOp .Mult) rRepS := by
  intro pins s σ H x y v u Q I rx ry h
  obtain ⟨z, n, rfl, rfl, hok, q⟩ := h
  obtain ⟨t, rfl⟩ := rx
  obtain ⟨t2, rfl⟩ := ry
  exact SB.mul hok fun t' k => ⟨.str _, H, I.tok _, ⟨_, rfl⟩, q⟩
theorem call_listStr (hc : X.calm = true) : CallR X (.type "list") rListStr := by
  intro pins s σ H xs us Q I r h
  obtain ⟨z, rfl, hz, q⟩ := h
  obtain ⟨u, rfl, ru⟩ := vals1 r
  obtain ⟨t, rfl⟩ := ru
  refine call_list_str (I.ok.hd hc) z t (hn := hz) fun h' tk acc' c' hk hS hacc => ?_
  have hsz : acc'.toList.length = z.cps.toList.length := by simpa using hacc.1
  have rv : Vals (z.cps.toList.map fun c => V.str ⟨#[c]⟩) acc'.toList := by
    have e0 : (z.cps.toList.map fun c => V.str ⟨#[c]⟩) = (List.range acc'.toList.length).map fun j => V.str ⟨#[z.cps.toList.getD j 0]⟩ := by
      refine List.ext_getElem (by simp [hacc.1]) fun j h1 h2 => ?_
      have h3 : j < z.cps.size := by simpa using h1
      simp [h3]
    rw [e0]
    refine vals_of_get _ _ fun j u hj => ?_
    obtain ⟨c, u2, hc2, rfl⟩ := hacc.2 j u (by rw [← Array.getElem?_toList]; exact hj)
    have h4 : z.cps.toList.getD j 0 = c := by simp [List.getD_eq_getElem?_getD, hc2]
    rw [h4]
    exact ⟨_, rfl⟩
  have hlen : (z.cps.toList.map fun c => V.str ⟨#[c]⟩).length ≤ sizeLine := by rw [List.length_map]; exact (show z.cps.toList.length ≤ sizeLine by rw [Array.length_toList]; exact hz)
  refine ⟨.ref _, upd H s.heap.objs.size (.lst (z.cps.toList.map fun c => V.str ⟨#[c]⟩)), I.laid (t' := tk) hk (Nat.le_refl _) ⟨hlen, acc'.toList, c', rv, by simpa using hS⟩, rfl, q _ (I.hok.fresh (Nat.le_refl _))⟩
/-- a dict that nobody else holds is gone through -/
def tLk (te : TE) : TE := fun σ H Q => te σ H fun x H1 => ∃ d kvs, x = .ref d ∧ H1 d = some (.dK kvs) ∧ ∀ o, Q x (upd H1 d (.frz o (.dK kvs)))
theorem pe_lk {e : Expr} {te : TE} (h : PE X e te) : PE X e (tLk te) := by
  refine ⟨fun pins s σ H Q I hw => ?_⟩
  refine thn (h.run pins s σ H _ I hw) fun v s1 ⟨x, H1, I1, r1, d, kvs, ex, hd, q⟩ => ?_
  obtain ⟨od, I2⟩ := I1.lock hd trivial
  exact ⟨x, _, I2, r1, q od⟩
/-- sorted of pairs: values, and the data that they are -/
def rSortedP (K : PySem.W.Frag) : List V → Hp → VK → Prop := fun vs H Q => ∃ (a : Addr) (ps : List (V × PyData)), vs = [V.ref a] ∧ SqL K H a (ps.map (·.1)) ∧ (∀ p ∈ ps, Dp K H p.1 p.2) ∧ PySem.W.AllAlike (ps.map (·.2)) ∧ PySem.W.Sortable (ps.map (·.2)) ∧
  (∀ p ∈ ps, p.2.depth ≤ 30) ∧ ∀ p, H p = none → Q (.ref p) (upd H p (.lst ((ps.mergeSort (PySem.W.dataLe false (·.2))).map (·.1))))
theorem each_vals : ∀ {ps : List (V × PyData)} {us : List Value}, Vals (ps.map (·.1)) us → PySem.W.EachIs (fun u (p : V × PyData) => RelV p.1 u) us ps
  | [], _, .nil => .nil
  | _ :: _, _, .cons r t => .cons r (each_vals t)
theorem vals_each : ∀ {ps : List (V × PyData)} {us : List Value}, PySem.W.EachIs (fun u (p : V × PyData) => RelV p.1 u) us ps → Vals (ps.map (·.1)) us
  | _, _, .nil => .nil
  | _, _, .cons r t => .cons r (vals_each t)
theorem each_reads {pins : List (Addr × Obj)} {s : Shared} {σ : L2.St} {H : Hp} (I : Inv X pins σ H s) : ∀ {ps : List (V × PyData)} {us : List Value}, Vals (ps.map (·.1)) us → (∀ p ∈ ps, Dp X.K H p.1 p.2) →
    PySem.W.EachIs (fun u (p : V × PyData) => ∃ as, Reads s.heap u p.2 as) us ps
  | [], _, .nil, _ => .nil
  | p :: ps, _, .cons r t, h => .cons (Dp.reads I p.2 p.1 _ (h p (List.mem_cons_self ..)) r) (each_reads I t fun q hq => h q (List.mem_cons_of_mem _ hq))
theorem cr_sortedP (hu : X.A.units + 64 < cLine) : CallR X (.builtin "sorted") (rSortedP X.K) := by
  intro pins s σ H vs us Q I r h
  obtain ⟨a, ps, rfl, hs, hd, hal, hk, hdp, q⟩ := h
  obtain ⟨u, rfl, ru⟩ := vals1 r
  cases ru
  obtain ⟨its, rv, pl, hz⟩ := I.list hs
  rw [List.length_map] at hz
  refine PySem.W.sorted_data (enc := fun p : V × PyData => p.2) pl.isList (each_vals rv) (each_reads I rv hd) hal hk hz (fun p hp => by have := hdp p hp; show X.A.units + 2 + _ < _; omega) fun out ho eo => ?_
  obtain ⟨ep, he'⟩ := PyProof.Rows.sortedAll_at s.heap its (List.toArray out)
  have rv2 := vals_each eo
  have hlen : ((ps.mergeSort (PySem.W.dataLe false (·.2))).map (·.1)).length ≤ sizeLine := by rw [rv2.length, ho]; exact hz
  exact ⟨.ref _, upd H (s.heap.objs.size + 1) (.lst ((ps.mergeSort (PySem.W.dataLe false (·.2))).map (·.1))), I.laid (t' := s.toks) (fun _ _ => PyProof.Rows.sortedAll_old) (Nat.le_succ _) ⟨hlen, out, ep, rv2, by simpa using he'⟩, rfl, q _ (I.hok.fresh (Nat.le_succ _))⟩
end
end Lo
set_option Elab.async false
set_option linter.all false
set_option maxRecDepth 100000
set_option maxHeartbeats 4000000
/-! a def that runs a lambda and tells which of some errors it raised -/
namespace Lo
open PySem PySem.Spec PyProof.Rows L2
open LamX (Tabs ExtN TabB CodeO LamS lamCx lamEnv tLam GivesTo)
/-- a clause: the class, the label, the field -/
abbrev Cls3 := Addr × PySem.Str × PySem.Str
def brE (K : PySem.W.Frag) : List Cls3 → VK → XK
  | [], _ => fun _ _ _ => False
  | q :: r, Q => fun cls d H => ∃ b, PySem.W.exmOne K cls (.ref q.1) = some b ∧ (b = true → cls = .ref q.1 ∧ ∃ (dd : Addr) (v : V), d = some dd ∧ H dd = some (.xd [(q.2.2, v)]) ∧ ∀ p, H p = none → Q (.ref p) (upd H p (.tup [.str q.2.1, v]))) ∧
      (b = false → brE K r Q cls d H)
def TTbr (K : PySem.W.Frag) (cl : List Cls3) : (XK → Hp → VK → Prop) → Hp → VK → Prop := fun tl H Q => tl (brE K cl Q) H (fun _ H' => ∃ v, (some (some V.non) : Option (Option V)) = some (some v) ∧ Q v H')
def tBy (fld : PySem.Str) (C : Addr) (a : Addr) (cls : Value) (d : Option Addr) (te : TE) : TE := fun σ H Q => te σ H fun x H1 => x = .ref a ∧ cls = .ref C ∧ ∃ (dd : Addr) (v : V), d = some dd ∧ H1 dd = some (.xd [(fld, v)]) ∧ Q v H1
def suB (q : Cls3) : Suite := fun a cls d => tAsg (tTup (tCons (tC (.str q.2.1)) (tCons (tBy q.2.2 q.1 a cls d (tVar 2)) tNil))) (gName 1)
theorem br_cl {K : PySem.W.Frag} {Q : VK} {D : Ends} (hD : ∀ σ H, (∃ v, σ[1]? = some (some v) ∧ Q v H) → D.nx σ H) {cls : Value} {d : Option Addr} {σ : L2.St} {H : Hp} (hl : σ.length = 3) :
    ∀ (cl : List Cls3), brE K cl Q cls d H → wCl K 2 (fun _ _ _ _ => False) D (cl.map fun q => (Value.ref q.1, suB q)) cls d σ H
  | [], h => h
  | q :: r, ⟨b, e, h1, h2⟩ => by
    refine ⟨b, e, fun hb a ha => ?_, fun hb => br_cl hD hl r (h2 hb)⟩
    obtain ⟨ec, dd, v, ed, hx, hq⟩ := h1 hb
    match σ, hl with
    | [s0, s1, s2], _ =>
      refine ⟨.ref a, rfl, rfl, ec, dd, v, ed, hx, by show 2 ≤ sizeLine; decide, fun p hp => ?_⟩
      exact hD _ _ ⟨.ref p, rfl, hq p hp⟩
theorem takes_len {X : Cx} {W : WX} (t : Takes X W) : Takes X (fun cls d σ H => σ.length = X.N.length → W cls d σ H) := fun u s' ⟨a, B, sI, pins, σ, H, cls, d, e, I, nb, up, sky, na, os, ag, w⟩ =>
  t u s' ⟨a, B, sI, pins, σ, H, cls, d, e, I, nb, up, sky, na, os, ag, w I.len⟩
section
variable {X : Cx}
theorem br_gives {cl : List Cls3} {x q : PySem.Str} {sg : Scope} {g : Addr} {cdg : Value} {hds : List ExceptHandler} {h0 : ExceptHandler} {p1 p2 p3 p4 p5 p6 p7 p8 p9 : Pos}
    (hr : sg.names.lookup ("run" : PySem.Str) = some .local) (hf : sg.names.lookup ("found" : PySem.Str) = some .local) (he : sg.names.lookup ("e" : PySem.Str) = some .local) {j : Nat}
    (hcl : ∀ (s : Shared) (H : Hp), ClOk (cxOf C8.CX0 X.prog X.w X.K X.mg X.base ["run", "found", "e"] x sg g cdg X.A X.stack s H C8.E0).nox "e" (h0 :: hds) (cl.map fun q => (Value.ref q.1, suB q))) :
    GivesTo X ["run", "found", "e"] x sg g cdg [.Assign [.Name "found" p1] (.Constant .none j p2) p3, .Try [.Expr (.Call (.Name "run" p4) [] [] p5) p6] (h0 :: hds) [] [] p7, .Return (some (.Name "found" p8)) p9] "run" q (TTbr X.K cl) := by
  intro f c' s H Q tl act hc h
  have nd : (["run", "found", "e"] : List PySem.Str).Nodup := by decide
  refine ⟨_, pss_cons (ps_set (i := 1) nd rfl (Or.inl hf) pe_non) (pss_cons (ps_try_cl (i := 2) (Wout := fun _ _ _ _ => False)
    (tb := fun W D σ H => ∃ Ech : XK, (∀ cls d σ' H', Ech cls d H' → σ'.length = 3 → W cls d σ' H') ∧ σ[0]? = some (some (.ref f)) ∧ H c' = some (CodeO c' q) ∧ tl Ech H fun _ H' => D.nx σ H')
    rfl rfl nd rfl he LamX.takes0 (fun W pn xe tk _ => ?_) (hcl s H)) (pss_one (ps_ret (pe_var (i := 1) rfl (Or.inl hf))))), ?_⟩
  · refine ⟨fun pins s' σ H' D I h' => ?_⟩
    obtain ⟨Ech, hW, h1, h2, h3⟩ := h'
    have hp := act _ pn xe Ech p4 p5 (takes_len tk) hW
    have hq := pss_one (ps_expr (pos := p6) hp)
    exact hq.run pins s' σ H' D I ⟨h1, h2, h3⟩
  · refine ⟨brE X.K cl Q, fun cls d σ' H' hb hl => br_cl (Q := Q) (fun σ H hh => hh) hl cl hb, rfl, hc, ?_⟩
    exact h
end
end Lo
namespace Lo
open PySem PySem.Spec PyProof.Rows L2
section
variable {P : Program} {w : World} {K : PySem.W.Frag} {mg : PySem.Str → Option Value} {base : Heap} {x qual : PySem.Str} {params : Arguments} {body : List Stmt} {scope : Scope} {dvs : List V} {kws : List (PySem.Str × V)} {f : Addr} {fd : FuncData}
/-- a def whose code object is known -/
theorem FunD.okC {CX : CXT} {N ps : List PySem.Str} {k : Nat} {sp : Sp} {c : Addr} (F : FunD K x qual params body scope dvs kws f fd) (hc : fd.code = .ref c) (S : FnScope N ps scope) (len : ∀ vs H Q E, sp vs H Q E → vs.length = ps.length)
    (hbody : ∀ (cdv : Value) (hcode : cdv = .ref c) (A : Around) (outer : List Env) (s : Shared) (H : Hp) (vs : List V) (Q : VK) (E : XK), Room k (A.deeper (envOfC qual scope s.heap.objs.size f cdv)) → sp vs H Q E →
      ∃ t, PSs (cxOf CX P w K mg base N qual scope f cdv A outer s H E) body t ∧ t { nx := fun _ H' => Q .non H', rt := Q } (start N vs) H) : FnOk P w K mg base CX (k + 1) f fd ps sp := by
  obtain ⟨oc, od, dV, kV, doc, pm, an, cdv, ct, osl, rfl, lk, hcd, _, _⟩ := F.ex
  exact fn_of lk hcd S len fun A outer s H vs Q E hr hsp => hbody cdv hc A outer s H vs Q E hr hsp
end
end Lo
set_option Elab.async false
set_option linter.all false
set_option maxRecDepth 100000
set_option maxHeartbeats 4000000
/-! frames, data on the heap, the stream -/
namespace Lo
open PySem PySem.Spec PyProof.Rows L2
open LamX (Tabs TabS ExtN CodeO)
/-- no table of code objects -/
def NT (o : HO) : Prop := ∀ ps, o ≠ .tbl ps
/-- a list, a dict: what a def may write -/
def Dat : HO → Prop
  | .lst _ => True
  | .dK _ => True
  | .dT _ => True
  | _ => False
theorem Dat.nt {o : HO} (h : Dat o) : NT o := fun ps e => by rw [e] at h; exact h
structure Fr (T : List (Addr × PySem.Str)) (S : Addr → Prop) (H H' : Hp) : Prop where
  keep : ∀ b o, ¬ S b → H b = some o → NT o → H' b = some o
  there : ∀ b o, H b = some o → NT o → ∃ o', H' b = some o' ∧ NT o'
  tabs : Tabs T H → Tabs T H'
abbrev NoA : Addr → Prop := fun _ => False
section
variable {T : List (Addr × PySem.Str)} {S S' : Addr → Prop} {H H1 H2 : Hp}
theorem Fr.refl : Fr T S H H := ⟨fun _ _ _ h _ => h, fun _ o h n => ⟨o, h, n⟩, fun h => h⟩
theorem Fr.trans (a : Fr T S H H1) (b : Fr T S H1 H2) : Fr T S H H2 := ⟨fun c o n h t => b.keep c o n (a.keep c o n h t) t, fun c o h t => by
  obtain ⟨o', h', t'⟩ := a.there c o h t
  exact b.there c o' h' t', fun h => b.tabs (a.tabs h)⟩
theorem Fr.mono (a : Fr T S H H1) (h : ∀ b, S b → S' b) : Fr T S' H H1 := ⟨fun c o n => a.keep c o fun z => n (h c z), a.there, a.tabs⟩
theorem Fr.any (a : Fr T NoA H H1) : Fr T S H H1 := a.mono fun _ z => z.elim
theorem Fr.extN (e : ExtN H H1) (t : Tabs T H → Tabs T H1) : Fr T S H H1 := ⟨fun b o _ h n => e b o h n, fun b o h n => ⟨o, e b o h n, n⟩, t⟩
theorem Fr.ext (e : ∀ b o, H b = some o → H1 b = some o) : Fr T S H H1 := .extN (fun b o h _ => e b o h) fun t => t.ext e
theorem Fr.new {p : Addr} {o : HO} (h : H p = none) : Fr T S H (upd H p o) := .ext fun b u e => by
  rw [upd_ne (ne_of_none e h)]
  exact e
theorem tabs_mut {p : Addr} {o u : HO} (hu : H p = some u) (d : Dat u) (t : Tabs T H) : Tabs T (upd H p o) := fun q hq => by
  obtain ⟨ps, h1, h2, h3⟩ := t q hq
  have n1 : q.1 ≠ p := fun z => by
    rw [z, hu] at h1
    cases h1
    exact d
  refine ⟨ps, by rw [upd_ne n1]; exact h1, h2, fun pos cv hc => ?_⟩
  obtain ⟨c, e1, e2⟩ := h3 pos cv hc
  have n2 : c ≠ p := fun z => by
    rw [z, hu] at e2
    cases e2
    exact d
  exact ⟨c, e1, by rw [upd_ne n2]; exact e2⟩
/-- an object of S (or one that H did not know) is written -/
theorem Fr.mut {p : Addr} {o u : HO} (a : Fr T S H H1) (hp : S p ∨ ∀ v, H p = some v → ¬ NT v) (hu : H1 p = some u) (d : Dat u) (ho : NT o) : Fr T S H (upd H1 p o) where
  keep := fun b v n h t => by
    have nb : b ≠ p := fun z => by
      rw [z] at n h
      rcases hp with q | q
      · exact n q
      · exact q v h t
    rw [upd_ne nb]
    exact a.keep b v n h t
  there := fun b v h t => by
    by_cases nb : b = p
    · rw [nb, upd_same]
      exact ⟨o, rfl, ho⟩
    · rw [upd_ne nb]
      exact a.there b v h t
  tabs := fun t => tabs_mut hu d (a.tabs t)
/-- H knows nothing there (but a table, maybe) -/
def Nw (H : Hp) (b : Addr) : Prop := ∀ o, H b = some o → ¬ NT o
theorem Nw.of {p : Addr} (h : H p = none) : Nw H p := fun o e => by rw [h] at e; cases e
theorem Nw.back {b : Addr} (a : Fr T S H H1) (n : Nw H1 b) : Nw H b := fun o e t => by
  obtain ⟨o', h', t'⟩ := a.there b o e t
  exact n o' h' t'
theorem Nw.ne {b c : Addr} {o : HO} (n : Nw H b) (h : H c = some o) (t : NT o) : b ≠ c := fun e => by
  rw [e] at n
  exact n o h t
end
/-! ### data -/
mutual
inductive Rp (A : Addr → Prop) (H : Hp) : V → PyData → Prop
  | non : Rp A H .non .none
  | bl (b : Bool) : Rp A H (.bl b) (.bool b)
  | int (i : Int) : Rp A H (.int i) (.int i)
  | str (x : PySem.Str) : Rp A H (.str x) (.str x)
  | lst {a : Addr} {xs : List V} {ds : List PyData} : A a → H a = some (.lst xs) → Rps A H xs ds → Rp A H (.ref a) (.list ds)
  | tup {a : Addr} {xs : List V} {ds : List PyData} : A a → H a = some (.tup xs) → Rps A H xs ds → Rp A H (.ref a) (.tuple ds)
  | dic {a : Addr} : A a → H a = some (.dK []) → Rp A H (.ref a) (.dict [])
inductive Rps (A : Addr → Prop) (H : Hp) : List V → List PyData → Prop
  | nil : Rps A H [] []
  | cons {v : V} {vs : List V} {d : PyData} {ds : List PyData} : Rp A H v d → Rps A H vs ds → Rps A H (v :: vs) (d :: ds)
end
section
variable {T : List (Addr × PySem.Str)} {S : Addr → Prop} {A B : Addr → Prop} {H H1 : Hp} {K : PySem.W.Frag}
mutual
theorem Rp.to (f : ∀ a o, A a → H a = some o → NT o → B a ∧ H1 a = some o) : ∀ (d : PyData) (v : V), Rp A H v d → Rp B H1 v d
  | .none, _, h => by cases h; exact .non
  | .bool b, _, h => by cases h; exact .bl b
  | .int i, _, h => by cases h; exact .int i
  | .str x, _, h => by cases h; exact .str x
  | .list ds, _, h => by
    cases h with
    | lst ha hx hr =>
      obtain ⟨h1, h2⟩ := f _ _ ha hx (fun ps z => nomatch z)
      exact .lst h1 h2 (Rps.to f ds _ hr)
  | .tuple ds, _, h => by
    cases h with
    | tup ha hx hr =>
      obtain ⟨h1, h2⟩ := f _ _ ha hx (fun ps z => nomatch z)
      exact .tup h1 h2 (Rps.to f ds _ hr)
  | .dict _, _, h => by
    cases h with
    | dic ha hx =>
      obtain ⟨h1, h2⟩ := f _ _ ha hx (fun ps z => nomatch z)
      exact .dic h1 h2
theorem Rps.to (f : ∀ a o, A a → H a = some o → NT o → B a ∧ H1 a = some o) : ∀ (ds : List PyData) (vs : List V), Rps A H vs ds → Rps B H1 vs ds
  | [], _, h => by cases h; exact .nil
  | d :: ds, _, h => by
    cases h with
    | cons h1 h2 => exact .cons (Rp.to f d _ h1) (Rps.to f ds _ h2)
end
theorem Rp.fr {v : V} {d : PyData} (h : Rp A H v d) (e : Fr T S H H1) (hS : ∀ a, A a → ¬ S a) : Rp A H1 v d := Rp.to (fun a o ha hx t => ⟨ha, e.keep a o (hS a ha) hx t⟩) d v h
theorem Rp.mono {v : V} {d : PyData} (h : Rp A H v d) (f : ∀ a, A a → B a) : Rp B H v d := Rp.to (fun a o ha hx _ => ⟨f a ha, hx⟩) d v h
theorem Rps.fr {v : List V} {d : List PyData} (h : Rps A H v d) (e : Fr T S H H1) (hS : ∀ a, A a → ¬ S a) : Rps A H1 v d := Rps.to (fun a o ha hx t => ⟨ha, e.keep a o (hS a ha) hx t⟩) d v h
theorem Rps.mono {v : List V} {d : List PyData} (h : Rps A H v d) (f : ∀ a, A a → B a) : Rps B H v d := Rps.to (fun a o ha hx _ => ⟨f a ha, hx⟩) d v h
mutual
/-- without dicts -/
def noDict : PyData → Bool
  | .dict _ => false
  | .list ds => noDicts ds
  | .tuple ds => noDicts ds
  | _ => true
def noDicts : List PyData → Bool
  | [] => true
  | d :: ds => noDict d && noDicts ds
end
mutual
theorem Rp.dp : ∀ (d : PyData) (v : V), Rp A H v d → noDict d = true → Dp K H v d
  | .none, _, h, _ => by cases h; exact .non
  | .bool b, _, h, _ => by cases h; exact .bl b
  | .int i, _, h, _ => by cases h; exact .int i
  | .str x, _, h, _ => by cases h; exact .str x
  | .list ds, _, h, n => by
    cases h with
    | lst ha hx hr => exact .lst (SqL.of hx) (Rps.dp ds _ hr (by simpa [noDict] using n))
  | .tuple ds, _, h, n => by
    cases h with
    | tup ha hx hr => exact .tup (SqT.of hx) (Rps.dp ds _ hr (by simpa [noDict] using n))
  | .dict _, _, _, n => by simp [noDict] at n
theorem Rps.dp : ∀ (ds : List PyData) (vs : List V), Rps A H vs ds → noDicts ds = true → DpAll K H vs ds
  | [], _, h, _ => by cases h; exact .nil
  | d :: ds, _, h, n => by
    have n' : noDict d = true ∧ noDicts ds = true := by simpa [noDicts] using n
    cases h with
    | cons h1 h2 => exact .cons (Rp.dp d _ h1 n'.1) (Rps.dp ds _ h2 n'.2)
end
theorem Rps.length : ∀ {ds : List PyData} {vs : List V}, Rps A H vs ds → vs.length = ds.length
  | [], _, h => by cases h; rfl
  | _ :: _, _, h => by
    cases h with
    | cons _ h2 => simp [Rps.length h2]
theorem Rps.get : ∀ {ds : List PyData} {vs : List V} {i : Nat} {v : V}, Rps A H vs ds → vs[i]? = some v → ∃ d, ds[i]? = some d ∧ Rp A H v d
  | [], _, i, v, h, e => by cases h; simp at e
  | d :: ds, _, i, v, h, e => by
    cases h with
    | cons h1 h2 =>
      cases i with
      | zero => simp at e; subst e; exact ⟨d, rfl, h1⟩
      | succ i => simp at e ⊢; exact Rps.get h2 e
theorem Rps.get' : ∀ {ds : List PyData} {vs : List V} {i : Nat} {d : PyData}, Rps A H vs ds → ds[i]? = some d → ∃ v, vs[i]? = some v ∧ Rp A H v d
  | [], _, i, v, h, e => by simp at e
  | d :: ds, _, i, v, h, e => by
    cases h with
    | cons h1 h2 =>
      cases i with
      | zero => simp at e; subst e; exact ⟨_, rfl, h1⟩
      | succ i => simp at e ⊢; exact Rps.get' h2 e
theorem Rps.app : ∀ {ds es : List PyData} {vs us : List V}, Rps A H vs ds → Rps A H us es → Rps A H (vs ++ us) (ds ++ es)
  | [], _, _, _, h, g => by cases h; exact g
  | _ :: _, _, _, _, h, g => by
    cases h with
    | cons h1 h2 => exact .cons h1 (Rps.app h2 g)
theorem Rps.strs (zs : List PySem.Str) : Rps A H (zs.map V.str) (zs.map PyData.str) := by
  induction zs with
  | nil => exact .nil
  | cons z zs ih => exact .cons (.str z) ih
theorem Rps.strs_inv : ∀ {zs : List PySem.Str} {vs : List V}, Rps A H vs (zs.map PyData.str) → vs = zs.map V.str
  | [], _, h => by cases h; rfl
  | z :: zs, _, h => by
    cases h with
    | cons h1 h2 =>
      cases h1
      rw [Rps.strs_inv h2]
      rfl
theorem Rps.one {v : V} {d : PyData} (h : Rp A H v d) : Rps A H [v] [d] := .cons h .nil
end
/-! ### the stream -/
abbrev St2 (st sc : Addr) : Addr → Prop := fun b => b = st ∨ b = sc
abbrev Ot2 (st sc : Addr) : Addr → Prop := fun b => b ≠ st ∧ b ≠ sc
structure Strm (st sc : Addr) (k : Nat) (H : Hp) : Prop where
  ne : st ≠ sc
  ob : ∃ (a n c : Int) (xs : List Int), H st = some (.lst [.ref sc, .int a, .int n, .int c]) ∧ H sc = some (.lst (xs.map V.int)) ∧ 0 ≤ a ∧ 0 ≤ n ∧ n ≤ k ∧ 0 ≤ c ∧ c < 2147483647
section
variable {T : List (Addr × PySem.Str)} {S : Addr → Prop} {H H1 : Hp} {st sc : Addr} {k j : Nat}
theorem Strm.fr (h : Strm st sc k H) (e : Fr T S H H1) (h1 : ¬ S st) (h2 : ¬ S sc) : Strm st sc k H1 := by
  obtain ⟨ne, a, n, c, xs, e1, e2, r⟩ := h
  exact ⟨ne, a, n, c, xs, e.keep _ _ h1 e1 (fun ps z => nomatch z), e.keep _ _ h2 e2 (fun ps z => nomatch z), r⟩
theorem Strm.le (h : Strm st sc k H) (hj : k ≤ j) : Strm st sc j H := by
  obtain ⟨ne, a, n, c, xs, e1, e2, r1, r2, r3, r4⟩ := h
  exact ⟨ne, a, n, c, xs, e1, e2, r1, r2, by omega, r4⟩
theorem Strm.ot (h : Strm st sc k H) {b : Addr} (n : Nw H b) : Ot2 st sc b := by
  obtain ⟨ne, a, m, c, xs, e1, e2, r⟩ := h
  exact ⟨n.ne e1 (fun ps z => nomatch z), n.ne e2 (fun ps z => nomatch z)⟩
theorem ot_st {b : Addr} (h : Ot2 st sc b) : ¬ St2 st sc b := fun z => z.elim h.1 h.2
end
end Lo
namespace Lo
open PySem PySem.Spec PyProof.Rows L2
theorem sq_ {t1 t2 : TS} {D : Ends} {σ : L2.St} {H : Hp} (h : t1 { D with nx := t2 D } σ H) : tSeq t1 t2 D σ H := h
end Lo
namespace Lo
open PySem PySem.Spec PyProof.Rows L2
section
variable {K : PySem.W.Frag} {H : Hp} {p : Addr} {xs : List V} {Q : VK} {v : V}
theorem ix_ {i : Int} (h : H p = some (.lst xs)) (e : atI xs i = some v) (q : Q v H) : rIxL K (.ref p) (.int i) H Q := ⟨p, xs, i, v, rfl, rfl, SqL.of h, e, q⟩
theorem set_ {k : Int} {j : Nat} {R : Hp → Prop} (h : H p = some (.lst xs)) (e : ixN xs.length k = some j) (q : R (upd H p (.lst (xs.set j v)))) : rSetL (.ref p) (.int k) v H R := ⟨p, xs, k, j, rfl, rfl, h, e, q⟩
theorem len_ (h : H p = some (.lst xs)) (q : Q (.int xs.length) H) : rLenU K [.ref p] H Q := ⟨.ref p, xs.length, rfl, .inl ⟨xs, SqL.of h, rfl⟩, q⟩
theorem lenT_ (h : H p = some (.tup xs)) (q : Q (.int xs.length) H) : rLenU K [.ref p] H Q := ⟨.ref p, xs.length, rfl, .inr ⟨xs, SqT.of h, rfl⟩, q⟩
theorem lenS_ {z : PySem.Str} (h : z.length ≤ sizeLine) (q : Q (.int z.length) H) : rLenU K [.str z] H Q := ⟨.str z, z.length, rfl, ⟨h, rfl⟩, q⟩
end
end Lo
namespace Lo
open PySem PySem.Spec PyProof.Rows L2
section
variable {H : Hp} {Q : VK}
theorem rEq_int {i j : Int} : rEq (.int i) (.int j) H Q = Q (.bl (decide (i = j))) H := by simp [rEq, scal]
theorem rNe_int {i j : Int} : rNe (.int i) (.int j) H Q = Q (.bl (!decide (i = j))) H := by simp [rNe, scal]
theorem rEq_str {i j : PySem.Str} : rEq (.str i) (.str j) H Q = Q (.bl (decide (i = j))) H := by simp [rEq, scal]
theorem rNe_str {i j : PySem.Str} : rNe (.str i) (.str j) H Q = Q (.bl (!decide (i = j))) H := by simp [rNe, scal]
theorem rEq_bl {i j : Bool} : rEq (.bl i) (.bl j) H Q = Q (.bl (decide (i = j))) H := by simp [rEq, scal]
theorem rNe_bl {i j : Bool} : rNe (.bl i) (.bl j) H Q = Q (.bl (!decide (i = j))) H := by simp [rNe, scal]
end
theorem sl0 : (0 ≤ sizeLine) = True := by simp
theorem sl1 : (0 + 1 ≤ sizeLine) = True := eq_true (by decide)
theorem sl2 : (0 + 1 + 1 ≤ sizeLine) = True := eq_true (by decide)
theorem sl3 : (0 + 1 + 1 + 1 ≤ sizeLine) = True := eq_true (by decide)
theorem sl4 : (0 + 1 + 1 + 1 + 1 ≤ sizeLine) = True := eq_true (by decide)
theorem sl5 : (0 + 1 + 1 + 1 + 1 + 1 ≤ sizeLine) = True := eq_true (by decide)
theorem sl6 : (0 + 1 + 1 + 1 + 1 + 1 + 1 ≤ sizeLine) = True := eq_true (by decide)
theorem sl8 : (0 + 1 + 1 + 1 + 1 + 1 + 1 + 1 + 1 ≤ sizeLine) = True := eq_true (by decide)
end Lo
namespace Lo
open PySem PySem.Spec PyProof.Rows L2
theorem eqv_nil (ds : List PyData) : PyData.eqv (.list ds) (.list []) = ds.isEmpty := by
  cases ds <;> simp [PyData.eqv, PyData.eqvAll]
/-- a flat thing that may be compared -/
def flatOk : PyData → Prop
  | .none => True
  | .bool _ => True
  | .int _ => True
  | .str z => PyData.strOk z = true
  | _ => False
theorem flat_lay : ∀ {ds : List PyData}, (∀ d ∈ ds, flatOk d) → PyData.canLayAll0 ds = true ∧ PyData.depthAll ds ≤ 1 ∧ noDicts ds = true ∧ PyData.plainAll ds = true
  | [], _ => ⟨rfl, by simp [PyData.depthAll], rfl, rfl⟩
  | d :: ds, h => by
    obtain ⟨h1, h2, h3, h4⟩ := flat_lay (ds := ds) fun e he => h e (List.mem_cons_of_mem _ he)
    have hd := h d (List.mem_cons_self ..)
    cases d <;> simp_all [flatOk, PyData.canLayAll0, PyData.canLay0, PyData.depthAll, PyData.depth, noDicts, noDict, PyData.plainAll, PyData.plain]
theorem flat_shaped {ds : List PyData} (h : ∀ d ∈ ds, flatOk d) : SeqAt.shaped (.list ds) = true := by
  obtain ⟨h1, h2, _⟩ := flat_lay h
  show (PyData.canLay0 (.list ds) && decide (PyData.depth (.list ds) ≤ 64)) = true
  rw [Bool.and_eq_true]
  exact ⟨by simp only [PyData.canLay0]; exact h1, decide_eq_true (by simp only [PyData.depth]; omega)⟩
section
variable {A : Addr → Prop} {K : PySem.W.Frag} {H : Hp} {p b : Addr} {Q : VK} {xs : List V} {ds : List PyData}
theorem neD_nil (h : H p = some (.lst xs)) (hr : Rps A H xs ds) (hf : ∀ d ∈ ds, flatOk d) (hb : H b = some (.lst [])) (q : Q (.bl (!ds.isEmpty)) H) : rNeD K (.ref p) (.ref b) H Q :=
  ⟨.list ds, .list [], .lst (SqL.of h) (Rps.dp ds xs hr (flat_lay hf).2.2.1), .lst (SqL.of hb) .nil, flat_shaped hf, by decide, by rw [eqv_nil]; exact q⟩
theorem eqD_nil (h : H p = some (.lst xs)) (hr : Rps A H xs ds) (hf : ∀ d ∈ ds, flatOk d) (hb : H b = some (.lst [])) (q : Q (.bl ds.isEmpty) H) : rEqD K (.ref p) (.ref b) H Q :=
  ⟨.list ds, .list [], .lst (SqL.of h) (Rps.dp ds xs hr (flat_lay hf).2.2.1), .lst (SqL.of hb) .nil, flat_shaped hf, by decide, by rw [eqv_nil]; exact q⟩
theorem Rps.ints (ns : List Int) : Rps A H (ns.map V.int) (ns.map PyData.int) := by
  induction ns with
  | nil => exact .nil
  | cons z zs ih => exact .cons (.int z) ih
theorem flat_ints (ns : List Int) : ∀ d ∈ ns.map PyData.int, flatOk d := fun d hd => by
  obtain ⟨n, _, rfl⟩ := List.mem_map.mp hd
  trivial
theorem flat_strs {zs : List PySem.Str} (h : ∀ z ∈ zs, PyData.strOk z = true) : ∀ d ∈ zs.map PyData.str, flatOk d := fun d hd => by
  obtain ⟨n, hn, rfl⟩ := List.mem_map.mp hd
  exact h n hn
end
end Lo
namespace Lo
open PySem PySem.Spec PyProof.Rows L2
theorem tyL_ {K : PySem.W.Frag} {H : Hp} {p : Addr} {xs : List V} (h : H p = some (.lst xs)) : tyV K "list" (.ref p) H := .inl ⟨rfl, xs, SqL.of h⟩
end Lo
namespace Lo
open PySem PySem.Spec PyProof.Rows L2
theorem ixN_nat {n j : Nat} (h : j < n) : ixN n (j : Int) = some j := by simp [ixN, h]
theorem seqIx {n j : Nat} (h : j < n) : seqIndex? (j : Int) n = some j := (ixN_seq (ixN_nat h)).1
theorem atI_nat {α : Type} {xs : List α} {j : Nat} {x : α} (h : xs[j]? = some x) : atI xs (j : Int) = some x := by
  have hj := (List.getElem?_eq_some_iff.mp h).1
  simp [atI, ixN_nat hj, h]
end Lo
namespace Lo
open PySem PySem.Spec PyProof.Rows L2
theorem ntL {xs : List V} : NT (.lst xs) := fun ps z => nomatch z
theorem ntT {xs : List V} : NT (.tup xs) := fun ps z => nomatch z
theorem ntD {xs : List (Key × V)} : NT (.dK xs) := fun ps z => nomatch z
end Lo
set_option Elab.async false
set_option linter.all false
set_option maxRecDepth 100000
set_option maxHeartbeats 4000000
/-! comprehensions and loops, with frames -/
namespace Lo
open PySem PySem.Spec PyProof.Rows L2
def LcGo (J : It) (g : TG) (tt : TT) (te : TE) (vs : List Nat) (σ : L2.St) (H1 : Hp) (Q : VK) : Prop := ∀ D, H1 D = none → ∃ W : Nat → Nat → Hp → Prop, (∃ m, W 0 m (upd H1 D (.lst []))) ∧ ∀ i m H, W i m H →
  (J.stop i H ∧ Q (.ref D) H) ∨ (J.go i H ∧ ∃ Nx : Hp → Prop, (∀ H', Nx H' → ∃ m', m' < m ∧ W (i + 1) m' H') ∧ ∀ x H', J.yld i H x H' → g x (wipe σ vs) H' fun σ2 H2 => wipe σ2 vs = wipe σ vs ∧ tt σ2 H2 fun b H3 =>
    if b = true then te σ2 H3 fun y H4 => ∃ acc, H4 D = some (.lst acc) ∧ acc.length < sizeLine ∧ Nx (upd H4 D (.lst (acc ++ [y]))) else Nx H3)
theorem tLc_eq {wi : TI} {g : TG} {tt : TT} {te : TE} {vs : List Nat} {σ : L2.St} {H : Hp} {Q : VK} : tLc wi g tt te vs σ H Q = wi σ H fun J H1 => LcGo J g tt te vs σ H1 Q := rfl
def ForGo (J : It) (g : TG) (tb : TS) (D : Ends) (σ : L2.St) (H1 : Hp) : Prop := ∃ W : Nat → Nat → L2.St → Hp → Prop, (∃ m, W 0 m σ H1) ∧ ∀ i m σ H, W i m σ H →
  (J.stop i H ∧ D.nx σ H) ∨ (J.go i H ∧ ∃ N : L2.St → Hp → Prop, (∀ σ' H', N σ' H' → ∃ m', m' < m ∧ W (i + 1) m' σ' H') ∧ ∀ x H', J.yld i H x H' → g x σ H' fun σ2 H2 => tb { D with nx := N, ct := N, bk := D.nx } σ2 H2)
theorem tFor_eq {wi : TI} {g : TG} {tb : TS} {D : Ends} {σ : L2.St} {H : Hp} : tFor wi g tb D σ H = wi σ H fun J H1 => ForGo J g tb D σ H1 := rfl
def DcGo (J : It) (g : TG) (tt : TT) (tk tv : TE) (vs : List Nat) (σ : L2.St) (H1 : Hp) (Q : VK) : Prop := ∀ D, H1 D = none → ∃ W : Nat → Nat → Hp → Prop, (∃ m, W 0 m (upd H1 D (.dK []))) ∧ ∀ i m H, W i m H →
  (J.stop i H ∧ Q (.ref D) H) ∨ (J.go i H ∧ ∃ Nx : Hp → Prop, (∀ H', Nx H' → ∃ m', m' < m ∧ W (i + 1) m' H') ∧ ∀ x H', J.yld i H x H' → g x (wipe σ vs) H' fun σ2 H2 => wipe σ2 vs = wipe σ vs ∧ tt σ2 H2 fun b H3 =>
    if b = true then tk σ2 H3 fun y H4 => tv σ2 H4 fun z H5 => ∃ kvs k, y = kV k ∧ H5 D = some (.dK kvs) ∧ kvs.length < sizeLine ∧ Nx (upd H5 D (.dK (putK kvs k z))) else Nx H3)
theorem tDc_eq {wi : TI} {g : TG} {tt : TT} {tk tv : TE} {vs : List Nat} {σ : L2.St} {H : Hp} {Q : VK} : tDc wi g tt tk tv vs σ H Q = wi σ H fun J H1 => DcGo J g tt tk tv vs σ H1 Q := rfl
theorem big_ {n : Nat} (h : n ≤ 100000) : n ≤ sizeLine := Nat.le_trans h (by decide)
theorem big1_ {n : Nat} (h : n < 100000) : n < sizeLine := Nat.lt_of_lt_of_le h (by decide)
section
variable {T : List (Addr × PySem.Str)} {S : Addr → Prop} {J : It} {n : Nat} {G : Hp → Prop} {Y : Nat → Hp → V → Hp → Prop} {g : TG} {tt : TT} {te tk tv : TE} {vs : List Nat} {σ : L2.St} {H1 : Hp} {Q : VK}
theorem LcGo.mkD (w : Walk J n G Y) (P : Addr → Nat → List V → Hp → Prop) (hn : n ≤ 100000) (hS : ∀ b, S b → H1 b ≠ none) (hG : ∀ H, Fr T S H1 H → G H) (h0 : ∀ D H, H1 D = none → Fr T NoA H1 H → P D 0 [] H)
    (hs : ∀ (D : Addr) (i : Nat) (x : V) (acc : List V) (H H' : Hp) (Yes : VK) (No : Hp → Prop), H1 D = none → i < n → acc.length ≤ i → Fr T S H1 H → H D = some (.lst acc) → P D i acc H → Y i H x H' →
      (∀ y H4, Fr T S H H4 → (∀ H5, Fr T (fun b => b = D) H4 H5 → P D (i + 1) (acc ++ [y]) H5) → Yes y H4) → (∀ H3, Fr T S H H3 → P D (i + 1) acc H3 → No H3) →
      g x (wipe σ vs) H' fun σ2 H2 => wipe σ2 vs = wipe σ vs ∧ tt σ2 H2 fun b H3 => if b = true then te σ2 H3 Yes else No H3)
    (hd : ∀ D acc H, H1 D = none → Fr T S H1 H → H D = some (.lst acc) → P D n acc H → Q (.ref D) H) : LcGo J g tt te vs σ H1 Q := by
  intro D hD
  have nS : ¬ S D := fun z => hS D z hD
  refine lc_it w (fun i H => ∃ acc, H D = some (.lst acc) ∧ acc.length ≤ i ∧ Fr T S H1 H ∧ P D i acc H) ⟨[], upd_same, Nat.le_refl _, Fr.new hD, h0 D _ hD (Fr.new hD)⟩ (fun i H _ ⟨acc, h1, h2, h3, h4⟩ => hG H h3) ?_ (fun H ⟨acc, h1, h2, h3, h4⟩ => hd D acc H hD h3 h1 h4)
  rintro i x H H' hi ⟨acc, h1, h2, h3, h4⟩ hy
  refine hs D i x acc H H' _ _ hD hi h2 h3 h1 h4 hy (fun y H4 f4 p4 => ?_) (fun H3 f3 p3 => ⟨acc, f3.keep D _ nS h1 ntL, Nat.le_succ_of_le h2, h3.trans f3, p3⟩)
  have hD4 := f4.keep D _ nS h1 ntL
  refine ⟨acc, hD4, big1_ (by omega), acc ++ [y], upd_same, by simp; omega, (h3.trans f4).mut (.inr fun v e => by rw [hD] at e; cases e) hD4 trivial ntL, p4 _ ?_⟩
  exact Fr.refl.mut (.inl rfl) hD4 trivial ntL
theorem LcGo.mk (w : Walk J n G Y) (P : Nat → List V → Hp → Prop) (hn : n ≤ 100000) (hS : ∀ b, S b → H1 b ≠ none) (hG : ∀ H, Fr T S H1 H → G H) (h0 : ∀ H, Fr T NoA H1 H → P 0 [] H)
    (hs : ∀ (D : Addr) (i : Nat) (x : V) (acc : List V) (H H' : Hp) (Yes : VK) (No : Hp → Prop), H1 D = none → i < n → acc.length ≤ i → Fr T S H1 H → H D = some (.lst acc) → P i acc H → Y i H x H' →
      (∀ y H4, Fr T S H H4 → (∀ H5, Fr T (fun b => b = D) H4 H5 → P (i + 1) (acc ++ [y]) H5) → Yes y H4) → (∀ H3, Fr T S H H3 → P (i + 1) acc H3 → No H3) →
      g x (wipe σ vs) H' fun σ2 H2 => wipe σ2 vs = wipe σ vs ∧ tt σ2 H2 fun b H3 => if b = true then te σ2 H3 Yes else No H3)
    (hd : ∀ D acc H, H1 D = none → Fr T S H1 H → H D = some (.lst acc) → P n acc H → Q (.ref D) H) : LcGo J g tt te vs σ H1 Q :=
  LcGo.mkD w (fun _ => P) hn hS hG (fun _ H _ f => h0 H f) hs hd
theorem ForGo.mk {tb : TS} {D : Ends} (w : Walk J n G Y) (Pv : Nat → L2.St → Hp → Prop) (h0 : Pv 0 σ H1) (hG : ∀ i σ H, i ≤ n → Pv i σ H → G H)
    (hs : ∀ i x σ H H', i < n → Pv i σ H → Y i H x H' → g x σ H' fun σ2 H2 => tb { D with nx := Pv (i + 1), ct := Pv (i + 1), bk := D.nx } σ2 H2) (hd : ∀ σ H, Pv n σ H → D.nx σ H) : ForGo J g tb D σ H1 := for_it w Pv h0 hG hs hd
/-- a dict of keys made: what stands under them is said by Pv -/
theorem DcGo.mk (w : Walk J n G Y) (P : Nat → List (Key × V) → Prop) (hn : n ≤ 100000) (hS : ∀ b, S b → H1 b ≠ none) (hG : ∀ H, Fr T S H1 H → G H) (h0 : P 0 [])
    (hs : ∀ (D : Addr) (i : Nat) (x : V) (kvs : List (Key × V)) (H H' : Hp) (R : V → V → Hp → Prop), H1 D = none → i < n → Fr T S H1 H → P i kvs → Y i H x H' →
      (∀ k z H5, Fr T S H H5 → P (i + 1) (putK kvs k z) → R (kV k) z H5) →
      g x (wipe σ vs) H' fun σ2 H2 => wipe σ2 vs = wipe σ vs ∧ tt σ2 H2 fun b H3 => b = true ∧ tk σ2 H3 fun y H4 => tv σ2 H4 fun z H5 => R y z H5)
    (hl : ∀ i kvs, i ≤ n → P i kvs → kvs.length ≤ i)
    (ht : ∀ σ H (R : Bool → Hp → Prop), tt σ H R ↔ R true H)
    (hd : ∀ D kvs H, H1 D = none → Fr T S H1 H → H D = some (.dK kvs) → P n kvs → Q (.ref D) H) : DcGo J g tt tk tv vs σ H1 Q := by
  intro D hD
  have nS : ¬ S D := fun z => hS D z hD
  refine ⟨fun i m H => m = n - i ∧ i ≤ n ∧ ∃ kvs, H D = some (.dK kvs) ∧ Fr T S H1 H ∧ P i kvs, ⟨n, by simp, Nat.zero_le _, [], upd_same, Fr.new hD, h0⟩, ?_⟩
  rintro i m H ⟨rfl, hi, kvs, h1, h3, h4⟩
  by_cases hlt : i < n
  · refine .inr ⟨w.goes i H hlt (hG H h3), fun H => ∃ kvs, H D = some (.dK kvs) ∧ Fr T S H1 H ∧ P (i + 1) kvs, fun H' p => ⟨n - (i + 1), by omega, rfl, hlt, p⟩, fun x H' y => ?_⟩
    have h := hs D i x kvs H H' (fun y z H5 => ∃ kvs k, y = kV k ∧ H5 D = some (.dK kvs) ∧ kvs.length < sizeLine ∧ ∃ kvs', upd H5 D (.dK (putK kvs k z)) D = some (.dK kvs') ∧ Fr T S H1 (upd H5 D (.dK (putK kvs k z))) ∧ P (i + 1) kvs') hD hlt h3 h4 (w.yields i H x H' hlt (hG H h3) y) (fun k z H5 f5 p5 => ?_)
    · have e : ∀ (σ2 : L2.St) (H2 : Hp), (tt σ2 H2 fun b H3 => b = true ∧ tk σ2 H3 fun y H4 => tv σ2 H4 fun z H5 => (fun y z H5 => ∃ kvs k, y = kV k ∧ H5 D = some (.dK kvs) ∧ kvs.length < sizeLine ∧ ∃ kvs', upd H5 D (.dK (putK kvs k z)) D = some (.dK kvs') ∧ Fr T S H1 (upd H5 D (.dK (putK kvs k z))) ∧ P (i + 1) kvs') y z H5) =
          (tt σ2 H2 fun b H3 => if b = true then tk σ2 H3 fun y H4 => tv σ2 H4 fun z H5 => ∃ kvs k, y = kV k ∧ H5 D = some (.dK kvs) ∧ kvs.length < sizeLine ∧ ∃ kvs', upd H5 D (.dK (putK kvs k z)) D = some (.dK kvs') ∧ Fr T S H1 (upd H5 D (.dK (putK kvs k z))) ∧ P (i + 1) kvs' else ∃ kvs, H3 D = some (.dK kvs) ∧ Fr T S H1 H3 ∧ P (i + 1) kvs) := fun σ2 H2 => by
        rw [propext (ht σ2 H2 _), propext (ht σ2 H2 _)]
        simp
      simp only [e] at h
      exact h
    · have hD5 := f5.keep D _ nS h1 ntD
      exact ⟨kvs, k, rfl, hD5, big1_ (by have := hl i kvs hi h4; omega), _, upd_same, (h3.trans f5).mut (.inr fun v e => by rw [hD] at e; cases e) hD5 trivial ntD, p5⟩
  · have e : i = n := by omega
    subst e
    exact .inl ⟨w.stops H (hG H h3), hd D kvs H hD h3 h1 h4⟩
end
end Lo
namespace Lo
open PySem PySem.Spec PyProof.Rows L2
theorem Fr.thru {T : List (Addr × PySem.Str)} {S S' : Addr → Prop} {H H1 H2 : Hp} (a : Fr T S H H1) (b : Fr T S' H1 H2) (h : ∀ c, S' c → S c ∨ Nw H c) : Fr T S H H2 where
  keep := fun c o n hc t => b.keep c o (fun z => (h c z).elim n fun w => w o hc t) (a.keep c o n hc t) t
  there := fun c o hc t => by
    obtain ⟨o', h', t'⟩ := a.there c o hc t
    exact b.there c o' h' t'
  tabs := fun t => b.tabs (a.tabs t)
end Lo
set_option Elab.async false
set_option linter.all false
set_option maxRecDepth 100000
set_option maxHeartbeats 40000000
namespace Lo
open PySem PySem.Spec PyProof.Rows L2
abbrev N_is_plain : List PySem.Str := ["thing", "sign"]
def t_is_plain (K : PySem.W.Frag) : TS :=
  tRet (tAndV (tCB (rIsi K) (tCons (tVar 0) (tCons (tC (.ty "str")) (tNil)))) (tAndV (tOp (rI0 fun i j => .bl (decide (i ≤ j))) (tCB (rLenU K) (tCons (tVar 0) (tNil))) (tC (.int 200))) (tOp (rEqD K) (tLc (iStr (tVar 0)) (gName 1) (tTest (tOp rNotInS (tVar 1) (tC (.str "abcdefghijklmnopqrstuvwxyz")))) (tVar 1) [1]) (tLst (tNil)))))
abbrev N_need_plain : List PySem.Str := ["word"]
def t_need_plain (K : PySem.W.Frag) (sp_is_plain : Sp) (C_BadWord : Addr) (E : XK) : TS :=
  tSeq (tIfS (tNot (tB (tCall sp_is_plain [] E0 (tCons (tVar 0) (tNil))))) (Er_thing.tRaise C_BadWord (fun cls d _ H => E cls d H) (tCons (tVar 0) (tNil))) (tNext))
  (tRet (tVar 0))
abbrev N_places_in : List PySem.Str := ["word", "other", "found", "at", "letter"]
def t_places_in (K : PySem.W.Frag) : TS :=
  tSeq (tPar 2 3 (tCons (tLst (tNil)) (tCons (tC (.int 0)) (tNil))))
  (tSeq (tFor (iStr (tVar 0)) (gName 4) (tSeq (tWhile (tAnd (tTest (tOp (rI0 fun i j => .bl (decide (i < j))) (tVar 3) (tCB (rLenU K) (tCons (tVar 1) (tNil))))) (tTest (tOp rNe (tOp rIxS (tVar 1) (tVar 3)) (tVar 4)))) (tAug 3 (tC (.int 1)) (ipI fun i j => i + j)))
  (tSeq (tIfS (tTest (tOp rEq (tVar 3) (tCB (rLenU K) (tCons (tVar 1) (tNil))))) (tRet (tC .non)) (tNext))
  (tSeq (tDrop (tBM K "list" rAppend (tVar 2) (tCons (tVar 3) (tNil))))
  (tAug 3 (tC (.int 1)) (ipI fun i j => i + j))))))
  (tRet (tVar 2)))
abbrev N_is_in : List PySem.Str := ["word", "other"]
def t_is_in (K : PySem.W.Frag) (sp_places_in : Sp) : TS :=
  tRet (tOp rNotN (tCall sp_places_in [] E0 (tCons (tVar 0) (tCons (tVar 1) (tNil)))) (tC .non))
abbrev N_need_words : List PySem.Str := ["words", "index", "word"]
def t_need_words (K : PySem.W.Frag) (sp_is_plain : Sp) (C_BadWords : Addr) (E : XK) : TS :=
  tSeq (tIfS (tOr (tNot (tB (tCB (rIsiT K) (tCons (tVar 0) (tCons (tTup (tCons (tC (.ty "list")) (tCons (tC (.ty "tuple")) (tNil)))) (tNil)))))) (tTest (tOp (rI0 fun i j => .bl (decide (j < i))) (tCB (rLenU K) (tCons (tVar 0) (tNil))) (tC (.int 200))))) (Er_index.tRaise C_BadWords (fun cls d _ H => E cls d H) (tCons (tC (.int 0)) (tNil))) (tNext))
  (tSeq (tFor ((fun σ H R => iEnum K (tCons (tVar 0) (tNil)) σ H R ∨ iEnumU K (tCons (tVar 0) (tNil)) σ H R)) (gTup K 2 (gCons (gName 1) (gCons (gName 2) (gNil)))) (tIfS (tNot (tB (tCall sp_is_plain [] E0 (tCons (tVar 2) (tNil))))) (Er_index.tRaise C_BadWords (fun cls d _ H => E cls d H) (tCons (tVar 1) (tNil))) (tNext)))
  (tRet (tCB (rListOf K) (tCons (tVar 0) (tNil)))))
abbrev N_in_order : List PySem.Str := ["words", "word"]
def t_in_order (K : PySem.W.Frag) (Ts : List (Addr × PySem.Str)) : TS :=
  tRet (tSortLw K Ts (tDc (iList K (tVar 0)) (gName 1) ((fun _ H Q => Q true H)) (tVar 1) (tC (.bl true)) [1]))
abbrev N_least_plain : List PySem.Str := ["words", "found", "word", "other"]
def t_least_plain (K : PySem.W.Frag) (sp_in_order : Sp) (sp_is_in : Sp) : TS :=
  tSeq (tAsg (tLst (tNil)) (gName 1))
  (tSeq (tFor (iList K (tCall sp_in_order [] E0 (tCons (tVar 0) (tNil)))) (gName 2) (tIfS (tTest (tOp (rEqD K) (tLc (iList K (tVar 1)) (gName 3) (tB (tCall sp_is_in [] E0 (tCons (tVar 3) (tCons (tVar 2) (tNil))))) (tVar 3) [3]) (tLst (tNil)))) (tDrop (tBM K "list" rAppend (tVar 1) (tCons (tVar 2) (tNil)))) (tNext)))
  (tRet (tVar 1)))
abbrev N_least_words : List PySem.Str := ["words"]
def t_least_words (K : PySem.W.Frag) (sp_least_plain : Sp) (sp_need_words : Sp) (E : XK) : TS :=
  tRet (tCall sp_least_plain [] E0 (tCons (tCall sp_need_words [] (fun cls d H => E cls d H) (tCons (tVar 0) (tNil))) (tNil)))
abbrev N_is_above : List PySem.Str := ["words", "word", "held", "one"]
def t_is_above (K : PySem.W.Frag) (sp_need_words : Sp) (sp_need_plain : Sp) (sp_is_in : Sp) (E : XK) : TS :=
  tSeq (tAsg (tCall sp_need_words [] (fun cls d H => E cls d H) (tCons (tVar 0) (tNil))) (gName 2))
  (tSeq (tDrop (tCall sp_need_plain [] (fun cls d H => E cls d H) (tCons (tVar 1) (tNil))))
  (tRet (tOp (rNeD K) (tLc (iList K (tVar 2)) (gName 3) (tB (tCall sp_is_in [] E0 (tCons (tVar 3) (tCons (tVar 1) (tNil))))) (tVar 3) [3]) (tLst (tNil)))))
abbrev N_law_start : List PySem.Str := ["script"]
def t_law_start (K : PySem.W.Frag) : TS :=
  tRet (tLst (tCons (tCB (rListOf K) (tCons (tVar 0) (tNil))) (tCons (tC (.int 0)) (tCons (tC (.int 0)) (tCons (tC (.int 43)) (tNil))))))
abbrev N_law_below : List PySem.Str := ["stream", "many", "cell", "digit", "mixed"]
def t_law_below (K : PySem.W.Frag) : TS :=
  tSeq (tAsg (tOp (rI0 fun i j => .int (i + j)) (tOp (rIxL K) (tVar 0) (tC (.int 2))) (tC (.int 1))) (gSub (tVar 0) (tC (.int 2)) rSetL))
  (tSeq (tWhile (tAnd (tTest (tOp rEq (tOp (rIxL K) (tVar 0) (tC (.int 1))) (tC (.int 0)))) (tTest (tOp (rNeD K) (tOp (rIxL K) (tVar 0) (tC (.int 0))) (tLst (tNil))))) (tSeq (tAsg (tBM K "list" rPopAt (tOp (rIxL K) (tVar 0) (tC (.int 0))) (tCons (tC (.int 0)) (tNil))) (gName 2))
  (tSeq (tAsg (tOp (rI (fun _ j => 0 < j) fun i j => .int (i % j)) (tCB rInt1 (tCons (tOp (rI0 fun i j => .int (i + j)) (tOp (rI0 fun i j => .int (i + j)) (tOp (rI CMul fun i j => .int (i * j)) (tOp (rIxL K) (tVar 0) (tC (.int 3))) (tC (.int 69031))) (tVar 2)) (tC (.int 13))) (tNil))) (tC (.int 2147483647))) (gSub (tVar 0) (tC (.int 3)) rSetL))
  (tAsg (tIf (tTest (tOp (rI0 fun i j => .bl (decide (j ≤ i))) (tVar 2) (tOp (rI CPow fun i j => .int (i ^ j.toNat)) (tC (.int 10)) (tC (.int 18))))) (tVar 2) (tC (.int 0))) (gSub (tVar 0) (tC (.int 1)) rSetL)))))
  (tSeq (tIfS (tTest (tOp (rI0 fun i j => .bl (decide (j < i))) (tOp (rIxL K) (tVar 0) (tC (.int 1))) (tC (.int 0)))) (tSeq (tAsg (tOp (rI (fun _ j => 0 < j) fun i j => .int (i % j)) (tCB rInt1 (tCons (tOp (rIxL K) (tVar 0) (tC (.int 1))) (tNil))) (tVar 1)) (gName 3))
  (tSeq (tAsg (tOp (rI CDiv fun i j => .int (i / j)) (tOp (rIxL K) (tVar 0) (tC (.int 1))) (tVar 1)) (gSub (tVar 0) (tC (.int 1)) rSetL))
  (tRet (tVar 3)))) (tNext))
  (tSeq (tAsg (tOp (rI (fun _ j => 0 < j) fun i j => .int (i % j)) (tCB rInt1 (tCons (tOp (rI CPow fun i j => .int (i ^ j.toNat)) (tOp (rI0 fun i j => .int (i + j)) (tOp (rI0 fun i j => .int (i + j)) (tOp (rIxL K) (tVar 0) (tC (.int 3))) (tOp (rI CMul fun i j => .int (i * j)) (tC (.int 9049)) (tOp (rIxL K) (tVar 0) (tC (.int 2))))) (tC (.int 130073))) (tC (.int 5))) (tNil))) (tC (.int 2147483629))) (gName 4))
  (tRet (tOp (rI (fun _ j => 0 < j) fun i j => .int (i % j)) (tOp (rI (fun _ j => 0 < j) fun i j => .int (i % j)) (tCB rInt1 (tCons (tOp (rI CPow fun i j => .int (i ^ j.toNat)) (tOp (rI0 fun i j => .int (i + j)) (tOp (rI0 fun i j => .int (i + j)) (tOp (rI CMul fun i j => .int (i * j)) (tVar 4) (tC (.int 44089))) (tOp (rI CMul fun i j => .int (i * j)) (tC (.int 60077)) (tOp (rIxL K) (tVar 0) (tC (.int 2))))) (tC (.int 47))) (tC (.int 3))) (tNil))) (tC (.int 1000000007))) (tVar 1))))))
abbrev N_law_chance : List PySem.Str := ["stream", "many"]
def t_law_chance (K : PySem.W.Frag) (sp_law_below : Sp) : TS :=
  tRet (tOp rEq (tCall sp_law_below [] E0 (tCons (tVar 0) (tCons (tVar 1) (tNil)))) (tC (.int 0)))
abbrev N_law_pick : List PySem.Str := ["stream", "some"]
def t_law_pick (K : PySem.W.Frag) (sp_law_below : Sp) : TS :=
  tRet (tOp (rIxL K) (tVar 1) (tCall sp_law_below [] E0 (tCons (tVar 0) (tCons (tCB (rLenU K) (tCons (tVar 1) (tNil))) (tNil)))))
abbrev N_law_mixed : List PySem.Str := ["stream", "some", "left", "k"]
def t_law_mixed (K : PySem.W.Frag) (sp_law_below : Sp) : TS :=
  tSeq (tAsg (tCB (rListOf K) (tCons (tVar 1) (tNil))) (gName 2))
  (tRet (tLc (iRng1 (tCons (tCB (rLenU K) (tCons (tVar 2) (tNil))) (tNil))) (gName 3) ((fun _ H Q => Q true H)) (tBM K "list" rPopAt (tVar 2) (tCons (tCall sp_law_below [] E0 (tCons (tVar 0) (tCons (tCB (rLenU K) (tCons (tVar 2) (tNil))) (tNil)))) (tNil))) [3]))
abbrev N_law_copied : List PySem.Str := ["thing", "found", "key", "part"]
def t_law_copied (K : PySem.W.Frag) (sp_law_copied : Sp) : TS :=
  tSeq (tIfS (tB (tCB (rIsi K) (tCons (tVar 0) (tCons (tC (.ty "dict")) (tNil))))) (tNever) (tNext))
  (tSeq (tIfS (tNot (tB (tCB (rIsiT K) (tCons (tVar 0) (tCons (tTup (tCons (tC (.ty "list")) (tCons (tC (.ty "tuple")) (tNil)))) (tNil)))))) (tRet (tVar 0)) (tNext))
  (tSeq (tAsg (tLc ((fun σ H R => iList K (tVar 0) σ H R ∨ iTup K (tVar 0) σ H R)) (gName 3) ((fun _ H Q => Q true H)) (tCall sp_law_copied [] E0 (tCons (tVar 3) (tNil))) [3]) (gName 1))
  (tRet (tIf (tB (tCB (rIsi K) (tCons (tVar 0) (tCons (tC (.ty "list")) (tNil))))) (tVar 1) (tCB (rTupleOf K) (tCons (tVar 1) (tNil)))))))
abbrev N_law_same : List PySem.Str := ["found", "due", "x", "y"]
def t_law_same (K : PySem.W.Frag) (sp_law_same : Sp) : TS :=
  tSeq (tIfS (tB (tCB (rIsiT K) (tCons (tVar 1) (tCons (tTup (tCons (tC (.ty "list")) (tCons (tC (.ty "tuple")) (tNil)))) (tNil))))) (tSeq (tIfS (tOr (tTest (tOp rNe (tCB (rIsi K) (tCons (tVar 0) (tCons (tC (.ty "list")) (tNil)))) (tCB (rIsi K) (tCons (tVar 1) (tCons (tC (.ty "list")) (tNil)))))) (tTest (tOp rNe (tCB (rIsi K) (tCons (tVar 0) (tCons (tC (.ty "tuple")) (tNil)))) (tCB (rIsi K) (tCons (tVar 1) (tCons (tC (.ty "tuple")) (tNil))))))) (tRet (tC (.bl false))) (tNext))
  (tRet (tAndV (tOp rEq (tCB (rLenU K) (tCons (tVar 0) (tNil))) (tCB (rLenU K) (tCons (tVar 1) (tNil)))) (tCB (rAll K) (tCons (tLc (RZ.iZipA K (tCons (tVar 0) (tCons (tVar 1) (tNil)))) (gTup K 2 (gCons (gName 2) (gCons (gName 3) (gNil)))) ((fun _ H Q => Q true H)) (tCall sp_law_same [] E0 (tCons (tVar 2) (tCons (tVar 3) (tNil)))) [2, 3]) (tNil)))))) (tNext))
  (tSeq (tIfS (tB (tCB (rIsi K) (tCons (tVar 1) (tCons (tC (.ty "dict")) (tNil))))) (tNever) (tNext))
  (tSeq (tIfS (tB (tCB (rIsi K) (tCons (tVar 1) (tCons (tC (.ty "int")) (tNil))))) (tRet (tAndV (tCB (rIsi K) (tCons (tVar 0) (tCons (tC (.ty "int")) (tNil)))) (tAndV (tOp rEq (tCB (rIsi K) (tCons (tVar 0) (tCons (tC (.ty "bool")) (tNil)))) (tCB (rIsi K) (tCons (tVar 1) (tCons (tC (.ty "bool")) (tNil))))) (tOp rEq (tVar 0) (tVar 1))))) (tNext))
  (tSeq (tIfS (tTest (tOp rIsN (tVar 1) (tC .non))) (tRet (tOp rIsN (tVar 0) (tC .non))) (tNext))
  (tSeq (tIfS (tB (tCB (rIsi K) (tCons (tVar 1) (tCons (tC (.ty "str")) (tNil))))) (tRet (tAndV (tCB (rIsi K) (tCons (tVar 0) (tCons (tC (.ty "str")) (tNil)))) (tOp rEq (tVar 0) (tVar 1)))) (tNext))
  (tNever)))))
abbrev N_law_loose : List PySem.Str := ["stream", "thing", "found", "key", "part"]
def t_law_loose (K : PySem.W.Frag) (sp_law_loose : Sp) (sp_law_mixed : Sp) (sp_law_below : Sp) : TS :=
  tSeq (tIfS (tB (tCB (rIsi K) (tCons (tVar 1) (tCons (tC (.ty "dict")) (tNil))))) (tNever) (tNext))
  (tSeq (tIfS (tNot (tB (tCB (rIsiT K) (tCons (tVar 1) (tCons (tTup (tCons (tC (.ty "list")) (tCons (tC (.ty "tuple")) (tNil)))) (tNil)))))) (tRet (tVar 1)) (tNext))
  (tSeq (tAsg (tLc ((fun σ H R => iList K (tVar 1) σ H R ∨ iTup K (tVar 1) σ H R)) (gName 4) ((fun _ H Q => Q true H)) (tCall sp_law_loose [] E0 (tCons (tVar 0) (tCons (tVar 4) (tNil)))) [4]) (gName 2))
  (tRet (tIf (tTest (tOp rEq (tCall sp_law_below [] E0 (tCons (tVar 0) (tCons (tC (.int 2)) (tNil)))) (tC (.int 0)))) (tVar 2) (tCB (rTupleOf K) (tCons (tVar 2) (tNil)))))))
abbrev N_law_spoilt : List PySem.Str := ["thing", "key", "part"]
def t_law_spoilt (K : PySem.W.Frag) (sp_law_spoilt : Sp) : TS :=
  tSeq (tIfS (tB (tCB (rIsi K) (tCons (tVar 0) (tCons (tC (.ty "dict")) (tNil))))) (tNever) (tNext))
  (tSeq (tIfS (tB (tCB (rIsiT K) (tCons (tVar 0) (tCons (tTup (tCons (tC (.ty "list")) (tCons (tC (.ty "tuple")) (tNil)))) (tNil))))) (tFor ((fun σ H R => iList K (tVar 0) σ H R ∨ iTup K (tVar 0) σ H R)) (gName 2) (tDrop (tCall sp_law_spoilt [] E0 (tCons (tVar 2) (tNil))))) (tNext))
  (tIfS (tB (tCB (rIsi K) (tCons (tVar 0) (tCons (tC (.ty "list")) (tNil))))) (tDrop (tBM K "list" rAppend (tVar 0) (tCons (tC (.str "LATE")) (tNil)))) (tNext)))
abbrev N_law_is_once : List PySem.Str := ["thing", "many", "key", "part"]
def t_law_is_once (K : PySem.W.Frag) (sp_law_is_once : Sp) : TS :=
  tSeq (tIfS (tB (tCB (rIsi K) (tCons (tVar 0) (tCons (tC (.ty "dict")) (tNil))))) (tNever) (tNext))
  (tSeq (tIfS (tB (tCB (rIsiT K) (tCons (tVar 0) (tCons (tTup (tCons (tC (.ty "list")) (tCons (tC (.ty "tuple")) (tNil)))) (tNil))))) (tSeq (tAsg (tCB rInt1 (tCons (tCB (rIsi K) (tCons (tVar 0) (tCons (tC (.ty "list")) (tNil)))) (tNil))) (gName 1))
  (tRet (tAndV (tOp rEq (tBM K "list" (rCountD K) (tCB (rListOf K) (tCons (tVar 0) (tNil))) (tCons (tC (.str "LATE")) (tNil))) (tVar 1)) (tCB (rAll K) (tCons (tLc ((fun σ H R => iList K (tVar 0) σ H R ∨ iTup K (tVar 0) σ H R)) (gName 3) ((fun _ H Q => Q true H)) (tCall sp_law_is_once [] E0 (tCons (tVar 3) (tNil))) [3]) (tNil)))))) (tNext))
  (tRet (tC (.bl true))))
abbrev N_law_apart : List PySem.Str := ["thing"]
def t_law_apart (K : PySem.W.Frag) (sp_law_spoilt : Sp) (sp_law_is_once : Sp) : TS :=
  tSeq (tDrop (tCall sp_law_spoilt [] E0 (tCons (tVar 0) (tNil))))
  (tRet (tCall sp_law_is_once [] E0 (tCons (tVar 0) (tNil))))
abbrev N_law_bletters : List PySem.Str := ["stream", "many"]
def t_law_bletters (K : PySem.W.Frag) (sp_law_mixed : Sp) : TS :=
  tRet (tCB (rSortedS K) (tCons (tSl (rSlL K) (tCall sp_law_mixed [] E0 (tCons (tVar 0) (tCons (tCB rListStr (tCons (tC (.str "abcdefghijklmnopqrstuvwxyz")) (tNil))) (tNil)))) (tNoPart) (tPart (tVar 1))) (tNil)))
abbrev N_law_blies : List PySem.Str := ["word", "other", "at", "letter"]
def t_law_blies (K : PySem.W.Frag) : TS :=
  tSeq (tAsg (tC (.int 0)) (gName 2))
  (tSeq (tFor (iStr (tVar 1)) (gName 3) (tAsg (tOp (rI0 fun i j => .int (i + j)) (tVar 2) (tIf (tAnd (tTest (tOp (rI0 fun i j => .bl (decide (i < j))) (tVar 2) (tCB (rLenU K) (tCons (tVar 0) (tNil))))) (tTest (tOp rEq (tOp rIxS (tVar 0) (tVar 2)) (tVar 3)))) (tC (.int 1)) (tC (.int 0)))) (gName 2)))
  (tRet (tOp rEq (tVar 2) (tCB (rLenU K) (tCons (tVar 0) (tNil))))))
abbrev N_law_border : List PySem.Str := ["words", "length", "word"]
def t_law_border (K : PySem.W.Frag) : TS :=
  tRet (tLc (iList K (tCB (rSortedP K) (tCons (tLc (iKeys (tLk (tCB (rDictP K) (tCons (tLc (iList K (tVar 0)) (gName 2) ((fun _ H Q => Q true H)) (tTup (tCons (tVar 2) (tCons (tC (.int 0)) (tNil)))) [2]) (tNil))))) (gName 2) ((fun _ H Q => Q true H)) (tTup (tCons (tCB (rLenU K) (tCons (tVar 2) (tNil))) (tCons (tVar 2) (tNil)))) [2]) (tNil)))) (gTup K 2 (gCons (gName 1) (gCons (gName 2) (gNil)))) ((fun _ H Q => Q true H)) (tVar 2) [1, 2])
abbrev N_law_bleast : List PySem.Str := ["words", "found", "word", "one"]
def t_law_bleast (K : PySem.W.Frag) (sp_law_border : Sp) (sp_law_blies : Sp) : TS :=
  tSeq (tAsg (tLst (tNil)) (gName 1))
  (tSeq (tFor (iList K (tCall sp_law_border [] E0 (tCons (tVar 0) (tNil)))) (gName 2) (tIfS (tTest (tOp (rEqD K) (tLc (iList K (tVar 1)) (gName 3) (tB (tCall sp_law_blies [] E0 (tCons (tVar 3) (tCons (tVar 2) (tNil))))) (tVar 3) [3]) (tLst (tNil)))) (tAsg (tOp rCat (tVar 1) (tLst (tCons (tVar 2) (tNil)))) (gName 1)) (tNext)))
  (tRet (tVar 1)))
abbrev N_law_bword : List PySem.Str := ["stream", "letters", "many", "k"]
def t_law_bword (K : PySem.W.Frag) (sp_law_pick : Sp) (sp_law_below : Sp) : TS :=
  tRet (tM1 (rJoin K) (tC (.str "")) (tLc (iRng1 (tCons (tCall sp_law_below [] E0 (tCons (tVar 0) (tCons (tOp (rI0 fun i j => .int (i + j)) (tVar 2) (tC (.int 1))) (tNil)))) (tNil))) (gName 3) ((fun _ H Q => Q true H)) (tCall sp_law_pick [] E0 (tCons (tVar 0) (tCons (tVar 1) (tNil)))) [3]))
abbrev N_law_bbad : List PySem.Str := ["stream", "words", "odd", "at"]
def t_law_bbad (K : PySem.W.Frag) (sp_law_pick : Sp) (sp_law_chance : Sp) (sp_law_below : Sp) : TS :=
  tSeq (tAsg (tCall sp_law_pick [] E0 (tCons (tVar 0) (tCons (tLst (tCons (tC .non) (tCons (tC (.int 5)) (tCons (tC (.str "A")) (tCons (tC (.str "a\n")) (tCons (tLst (tCons (tC (.str "a")) (tNil))) (tCons (tOp rRepS (tC (.str "a")) (tC (.int 201))) (tCons (tC (.str "1")) (tCons (tC (.bl true)) (tNil)))))))))) (tNil)))) (gName 2))
  (tSeq (tIfS (tB (tCall sp_law_chance [] E0 (tCons (tVar 0) (tCons (tC (.int 4)) (tNil))))) (tRet (tCall sp_law_pick [] E0 (tCons (tVar 0) (tCons (tLst (tCons (tTup (tCons (tC .non) (tCons (tC (.int 0)) (tNil)))) (tCons (tTup (tCons (tC (.int 5)) (tCons (tC (.int 0)) (tNil)))) (tCons (tTup (tCons (tC (.str "ab")) (tCons (tC (.int 0)) (tNil)))) (tCons (tTup (tCons (tDNewK) (tCons (tC (.int 0)) (tNil)))) (tCons (tTup (tCons (tOp rRep (tLst (tCons (tC (.str "a")) (tNil))) (tC (.int 201))) (tCons (tC (.int 0)) (tNil)))) (tNil))))))) (tNil))))) (tNext))
  (tSeq (tAsg (tCall sp_law_below [] E0 (tCons (tVar 0) (tCons (tOp (rI0 fun i j => .int (i + j)) (tCB (rLenU K) (tCons (tVar 1) (tNil))) (tC (.int 1))) (tNil)))) (gName 3))
  (tRet (tTup (tCons (tOp rCat (tOp rCat (tSl (rSlL K) (tVar 1) (tNoPart) (tPart (tVar 3))) (tLst (tCons (tVar 2) (tNil)))) (tSl (rSlL K) (tVar 1) (tPart (tVar 3)) (tNoPart))) (tCons (tVar 3) (tNil)))))))
abbrev N_law : List PySem.Str := ["script", "stream", "turn", "letters", "word", "due", "passed", "kept", "told", "above", "at", "found", "long", "bad", "odd", "words", "k", "one"]
def t_law (K : PySem.W.Frag) (cl : List Cls3) (sp_law_start : Sp) (sp_law_bletters : Sp) (sp_law_below : Sp) (sp_law_bword : Sp) (sp_law_chance : Sp) (sp_law_bleast : Sp) (sp_law_loose : Sp) (sp_law_copied : Sp) (sp_least_words : Sp) (sp_law_same : Sp) (sp_law_apart : Sp) (sp_law_mixed : Sp) (sp_law_blies : Sp) (sp_is_above : Sp) (sp_law_bbad : Sp) (sp_law_pick : Sp) (Ts : List (Addr × PySem.Str)) : TS :=
  tSeq (tAsg (tCall sp_law_start [] E0 (tCons (tVar 0) (tNil))) (gName 1))
  (tSeq (tFor (iRng1 (tCons (tC (.int 7)) (tNil))) (gName 2) (tSeq (tAsg (tCall sp_law_bletters [] E0 (tCons (tVar 1) (tCons (tOp (rI0 fun i j => .int (i + j)) (tC (.int 1)) (tCall sp_law_below [] E0 (tCons (tVar 1) (tCons (tC (.int 4)) (tNil))))) (tNil)))) (gName 3))
  (tSeq (tAsg (tLc (iRng1 (tCons (tCall sp_law_below [] E0 (tCons (tVar 1) (tCons (tC (.int 12)) (tNil)))) (tNil))) (gName 16) ((fun _ H Q => Q true H)) (tCall sp_law_bword [] E0 (tCons (tVar 1) (tCons (tVar 3) (tCons (tC (.int 7)) (tNil))))) [16]) (gName 15))
  (tSeq (tAsg (tOp rCat (tVar 15) (tLc (iList K (tVar 15)) (gName 4) (tB (tCall sp_law_chance [] E0 (tCons (tVar 1) (tCons (tC (.int 4)) (tNil))))) (tVar 4) [4])) (gName 15))
  (tSeq (tPar 5 6 (tCons (tCall sp_law_bleast [] E0 (tCons (tVar 15) (tNil))) (tCons (tCall sp_law_loose [] E0 (tCons (tVar 1) (tCons (tVar 15) (tNil)))) (tNil))))
  (tSeq (tAsg (tCall sp_law_copied [] E0 (tCons (tVar 6) (tNil))) (gName 7))
  (tSeq (tAsg (tCall sp_least_words [] E0 (tCons (tVar 6) (tNil))) (gName 8))
  (tSeq (tIfS (tOr (tNot (tB (tCall sp_law_same [] E0 (tCons (tVar 8) (tCons (tVar 5) (tNil)))))) (tOr (tNot (tB (tCall sp_law_apart [] E0 (tCons (tLst (tCons (tVar 8) (tNil))) (tNil))))) (tNot (tB (tCall sp_law_same [] E0 (tCons (tCall sp_least_words [] E0 (tCons (tCall sp_law_copied [] E0 (tCons (tCall sp_law_mixed [] E0 (tCons (tVar 1) (tCons (tVar 15) (tNil)))) (tNil))) (tNil))) (tCons (tVar 5) (tNil)))))))) (tRet (tC (.bl false))) (tNext))
  (tSeq (tFor (iList K (tOp rCat (tLc (iRng1 (tCons (tC (.int 5)) (tNil))) (gName 16) ((fun _ H Q => Q true H)) (tCall sp_law_bword [] E0 (tCons (tVar 1) (tCons (tVar 3) (tCons (tC (.int 12)) (tNil))))) [16]) (tSl (rSlL K) (tVar 15) (tNoPart) (tPart (tC (.int 2)))))) (gName 4) (tSeq (tAsg (tOp (rNeD K) (tLc (iList K (tVar 15)) (gName 17) (tB (tCall sp_law_blies [] E0 (tCons (tVar 17) (tCons (tVar 4) (tNil))))) (tVar 17) [17]) (tLst (tNil))) (gName 9))
  (tIfS (tNot (tB (tCall sp_law_same [] E0 (tCons (tLst (tCons (tCall sp_is_above [] E0 (tCons (tVar 6) (tCons (tVar 4) (tNil)))) (tCons (tCall sp_is_above [] E0 (tCons (tCall sp_law_copied [] E0 (tCons (tVar 5) (tNil))) (tCons (tVar 4) (tNil)))) (tNil)))) (tCons (tLst (tCons (tVar 9) (tCons (tVar 9) (tNil)))) (tNil)))))) (tRet (tC (.bl false))) (tNext))))
  (tSeq (tIfS (tNot (tB (tCall sp_law_same [] E0 (tCons (tVar 6) (tCons (tVar 7) (tNil)))))) (tRet (tC (.bl false))) (tNext))
  (tSeq (tAsg (tCall sp_law_bbad [] E0 (tCons (tVar 1) (tCons (tVar 15) (tNil)))) (gTup K 2 (gCons (gName 13) (gCons (gName 10) (gNil)))))
  (tSeq (tAsg (tTup (tCons (tCall sp_law_pick [] E0 (tCons (tVar 1) (tCons (tLst (tCons (tC .non) (tCons (tC (.int 5)) (tCons (tC (.str "A")) (tCons (tLst (tCons (tC (.str "a")) (tNil))) (tCons (tOp rRepS (tC (.str "a")) (tC (.int 201))) (tCons (tC (.str "a\n")) (tNil)))))))) (tNil)))) (tCons (tLst (tNil)) (tNil)))) (gTup K 2 (gCons (gName 14) (gCons (gName 11) (gNil)))))
  (tSeq (tDrop (tBM K "list" rAppend (tVar 11) (tCons (LamX.tLam Ts (TTbr K cl) (fun El => tCall sp_least_words [] (fun cls d H => El cls d H) (tCons (tVar 13) (tNil)))) (tNil))))
  (tSeq (tDrop (tBM K "list" rAppend (tVar 11) (tCons (LamX.tLam Ts (TTbr K cl) (fun El => tCall sp_is_above [] (fun cls d H => El cls d H) (tCons (tVar 13) (tCons (tVar 14) (tNil))))) (tNil))))
  (tSeq (tDrop (tBM K "list" rAppend (tVar 11) (tCons (LamX.tLam Ts (TTbr K cl) (fun El => tCall sp_is_above [] (fun cls d H => El cls d H) (tCons (tCall sp_law_copied [] E0 (tCons (tVar 15) (tNil))) (tCons (tVar 14) (tNil))))) (tNil))))
  (tIfS (tNot (tB (tCall sp_law_same [] E0 (tCons (tVar 11) (tCons (tLst (tCons (tTup (tCons (tC (.str "words")) (tCons (tVar 10) (tNil)))) (tCons (tTup (tCons (tC (.str "words")) (tCons (tVar 10) (tNil)))) (tCons (tTup (tCons (tC (.str "word")) (tCons (tVar 14) (tNil)))) (tNil))))) (tNil)))))) (tRet (tC (.bl false))) (tNext)))))))))))))))))
  (tSeq (tAsg (tOp rRepS (tC (.str "ab")) (tC (.int 100))) (gName 12))
  (tRet (tCall sp_law_same [] E0 (tCons (tLst (tCons (tCall sp_least_words [] E0 (tCons (tLst (tCons (tVar 12) (tCons (tSl rSlS (tVar 12) (tPart (tC (.int 1))) (tNoPart)) (tCons (tC (.str "")) (tCons (tC (.str "b")) (tNil)))))) (tNil))) (tCons (tCall sp_least_words [] E0 (tCons (tLst (tNil)) (tNil))) (tCons (tCall sp_is_above [] E0 (tCons (tLst (tNil)) (tCons (tC (.str "")) (tNil)))) (tCons (tCall sp_is_above [] E0 (tCons (tLst (tCons (tC (.str "")) (tNil))) (tCons (tC (.str "z")) (tNil)))) (tNil)))))) (tCons (tLst (tCons (tLst (tCons (tC (.str "")) (tNil))) (tCons (tLst (tNil)) (tCons (tC (.bl false)) (tCons (tC (.bl true)) (tNil)))))) (tNil)))))))
end Lo
set_option Elab.async false
set_option linter.all false
set_option maxRecDepth 100000
set_option maxHeartbeats 4000000
namespace Lo
open PySem PySem.Spec PyProof.Rows L2
open LamX (Tabs TabS ExtN CodeO)
local macro_rules | `(tactic| walk_at "wp") => `(tactic| simp only [tLc_eq, tFor_eq, tDc_eq, iList, iTup, iStr, iRng1, iEnum, iEnumU, RZ.iZipA, iKeys, tLk, tSortLw, Er_thing.tRaise, Er_thing.tMk, Er_index.tRaise, Er_index.tMk, rEq_int, rNe_int, rEq_str, rNe_str, rEq_bl, rNe_bl, sl0, sl1, sl2, sl3, sl4, sl5, sl6, sl8, tAsg, gName, tVar, tC, tOp, tCons, tNil, tRet, tDrop, tIfS, tTest, tB, tNot, tAnd, tOr, tAndV, tOrV, tNotV, tIf, tNext, tCall, tCB, tBM, tBM0, tPar, tAug, ipI, rI0, rI, rInt1, gSub, tSl, tNoPart, tPart, tTup, tLst, tM1, rIsN, rNotN, wipe, tRetN, tBreak, tCont, List.getElem?_cons_zero, List.getElem?_cons_succ, List.getElem_cons_zero, List.getElem_cons_succ, List.set_cons_zero, List.set_cons_succ, Option.some.injEq, V.int.injEq, V.ref.injEq, V.str.injEq, V.bl.injEq, List.cons.injEq, exists_eq_left', exists_eq_left, exists_eq_right, exists_eq_right', exists_and_left, exists_and_right, exists_eq, exists_eq', exists_false, exists_prop, true_and, and_true, false_and, and_false, or_false, false_or, and_assoc, reduceCtorEq, List.nil_append, List.cons_append, List.append_nil, List.length_cons, List.length_nil, if_true, if_false, Bool.false_eq_true, Bool.not_true, Bool.not_false, decide_eq_true_eq, Bool.not_eq_true', decide_eq_false_iff_not, ite_true, ite_false, L2.start, N_is_plain, N_need_plain, N_places_in, N_is_in, N_need_words, N_in_order, N_least_plain, N_least_words, N_is_above, N_law_start, N_law_below, N_law_chance, N_law_pick, N_law_mixed, N_law_copied, N_law_same, N_law_loose, N_law_spoilt, N_law_is_once, N_law_apart, N_law_bletters, N_law_blies, N_law_border, N_law_bleast, N_law_bword, N_law_bbad, N_law, List.map_cons, List.map_nil, List.replicate_succ, List.replicate_zero])
def sp_below (T : List (Addr × PySem.Str)) : Sp := fun vs H Q _ => ∃ st sc k m, vs = [.ref st, .int m] ∧ Strm st sc k H ∧ k < 2 ^ 40 ∧ 0 < m ∧ m < 2 ^ 30 ∧
  ∀ H' d, Fr T (St2 st sc) H H' → Strm st sc (k + 1) H' → 0 ≤ d → d < m → Q (.int d) H'
def W_below (T : List (Addr × PySem.Str)) (st sc : Addr) (n m : Int) (H : Hp) : Nat → L2.St → Hp → Prop := fun mm σ H1 => ∃ (x2 x3 x4 : Option V) (a c : Int) (xs : List Int), σ = [some (.ref st), some (.int m), x2, x3, x4] ∧ xs.length = mm ∧ H1 st = some (.lst [.ref sc, .int a, .int (n + 1), .int c]) ∧ H1 sc = some (.lst (xs.map V.int)) ∧
    0 ≤ a ∧ 0 ≤ c ∧ c < 2147483647 ∧ Fr T (St2 st sc) H H1
theorem hp_below {T : List (Addr × PySem.Str)} {K : PySem.W.Frag} : ∀ vs H Q E, sp_below T vs H Q E → t_law_below K { nx := fun _ H1 => Q .non H1, rt := Q } (start N_law_below vs) H := by
  rintro vs H Q E ⟨st, sc, k, m, rfl, sm, hk, hm, hm2, q⟩
  obtain ⟨ne, a, n, c, xs, e1, e2, a0, n0, nk, c0, c1⟩ := sm
  unfold t_law_below
  refine sq_ ?_
  walk_at "wp"
  refine ix_ e1 rfl ?_
  refine ⟨n, rfl, ?_⟩
  refine set_ e1 rfl ?_
  refine sq_ ?_
  refine ⟨W_below T st sc n m H, ⟨xs.length, none, none, none, a, c, xs, rfl, rfl, upd_same, ?_, a0, c0, c1, ?_⟩, ?_⟩
  · rw [upd_ne (Ne.symm ne)]; exact e2
  · exact Fr.refl.mut (.inl (.inl rfl)) e1 trivial ntL
  rintro mm σ H1 ⟨x2, x3, x4, a, c, xs, rfl, hl, e1, e2, a0, c0, c1, fr⟩
  -- behind the loop
  have rest : ∀ (σ : L2.St) (H1 : Hp) (x2 x3 x4 : Option V) (a c : Int) (xs : List Int), σ = [some (.ref st), some (.int m), x2, x3, x4] → H1 st = some (.lst [.ref sc, .int a, .int (n + 1), .int c]) → H1 sc = some (.lst (xs.map V.int)) →
      0 ≤ a → 0 ≤ c → c < 2147483647 → Fr T (St2 st sc) H H1 → (tSeq (tIfS (tTest (tOp (rI0 fun i j => .bl (decide (j < i))) (tOp (rIxL K) (tVar 0) (tC (.int 1))) (tC (.int 0)))) (tSeq (tAsg (tOp (rI (fun _ j => 0 < j) fun i j => .int (i % j)) (tCB rInt1 (tCons (tOp (rIxL K) (tVar 0) (tC (.int 1))) (tNil))) (tVar 1)) (gName 3))
  (tSeq (tAsg (tOp (rI CDiv fun i j => .int (i / j)) (tOp (rIxL K) (tVar 0) (tC (.int 1))) (tVar 1)) (gSub (tVar 0) (tC (.int 1)) rSetL))
  (tRet (tVar 3)))) (tNext))
  (tSeq (tAsg (tOp (rI (fun _ j => 0 < j) fun i j => .int (i % j)) (tCB rInt1 (tCons (tOp (rI CPow fun i j => .int (i ^ j.toNat)) (tOp (rI0 fun i j => .int (i + j)) (tOp (rI0 fun i j => .int (i + j)) (tOp (rIxL K) (tVar 0) (tC (.int 3))) (tOp (rI CMul fun i j => .int (i * j)) (tC (.int 9049)) (tOp (rIxL K) (tVar 0) (tC (.int 2))))) (tC (.int 130073))) (tC (.int 5))) (tNil))) (tC (.int 2147483629))) (gName 4))
  (tRet (tOp (rI (fun _ j => 0 < j) fun i j => .int (i % j)) (tOp (rI (fun _ j => 0 < j) fun i j => .int (i % j)) (tCB rInt1 (tCons (tOp (rI CPow fun i j => .int (i ^ j.toNat)) (tOp (rI0 fun i j => .int (i + j)) (tOp (rI0 fun i j => .int (i + j)) (tOp (rI CMul fun i j => .int (i * j)) (tVar 4) (tC (.int 44089))) (tOp (rI CMul fun i j => .int (i * j)) (tC (.int 60077)) (tOp (rIxL K) (tVar 0) (tC (.int 2))))) (tC (.int 47))) (tC (.int 3))) (tNil))) (tC (.int 1000000007))) (tVar 1))))) { nx := fun _ H1 => Q .non H1, rt := Q } σ H1 := by
    rintro σ H1 x2 x3 x4 a c xs rfl e1 e2 a0 c0 c1 fr
    refine sq_ ?_
    walk_at "wp"
    refine ix_ e1 rfl ?_
    walk_at "wp"
    have mk : ∀ (H' : Hp) (a' : Int), H' st = some (.lst [.ref sc, .int a', .int (n + 1), .int c]) → H' sc = some (.lst (xs.map V.int)) → 0 ≤ a' → Strm st sc (k + 1) H' := fun H' a' h1 h2 h3 =>
      ⟨ne, a', n + 1, c, xs, h1, h2, h3, by omega, by push_cast; omega, c0, c1⟩
    split
    · refine sq_ ?_
      walk_at "wp"
      refine ix_ e1 rfl ?_
      walk_at "wp"
      refine ⟨hm, sq_ ?_⟩
      walk_at "wp"
      refine ix_ e1 rfl ?_
      walk_at "wp"
      refine ⟨⟨hm, by omega⟩, ?_⟩
      refine set_ e1 rfl ?_
      have n1 := Int.emod_nonneg a (Int.ne_of_gt hm)
      have n2 := Int.emod_lt_of_pos a hm
      refine q _ _ (fr.mut (.inl (.inl rfl)) e1 trivial ntL) (mk _ (a / m) upd_same ?_ (Int.ediv_nonneg a0 (Int.le_of_lt hm))) n1 n2
      rw [upd_ne (Ne.symm ne)]; exact e2
    · refine sq_ ?_
      walk_at "wp"
      refine ix_ e1 rfl ?_
      refine ix_ e1 rfl ?_
      walk_at "wp"
      have n1 := Int.emod_nonneg ((c + 9049 * (n + 1) + 130073) ^ (5 : Int).toNat) (show (2147483629 : Int) ≠ 0 by decide)
      have n2 := Int.emod_lt_of_pos ((c + 9049 * (n + 1) + 130073) ^ (5 : Int).toNat) (show (0 : Int) < 2147483629 by decide)
      generalize (c + 9049 * (n + 1) + 130073) ^ (5 : Int).toNat % 2147483629 = z at n1 n2 ⊢
      refine ⟨.inl ⟨by decide, by decide⟩, ⟨by decide, by decide, by omega⟩, by decide, .inr ⟨by decide, by decide⟩, ix_ e1 rfl ?_⟩
      refine ⟨n + 1, rfl, .inl ⟨by decide, by decide⟩, ⟨by decide, by decide, by omega⟩, by decide, hm, ?_⟩
      exact q _ _ fr (mk _ a e1 e2 a0) (Int.emod_nonneg _ (Int.ne_of_gt hm)) (Int.emod_lt_of_pos _ hm)
  walk_at "wp"
  refine ix_ e1 rfl ?_
  walk_at "wp"
  split
  · refine ix_ e1 rfl ?_
    intro p hp
    have n1 : sc ≠ p := fun z => by rw [z, hp] at e2; cases e2
    have n2 : st ≠ p := fun z => by rw [z, hp] at e1; cases e1
    have fr2 : Fr T (St2 st sc) H (upd H1 p (.lst [])) := fr.trans (Fr.new hp)
    have e1' : upd H1 p (.lst []) st = _ := (upd_ne n2).trans e1
    have e2' : upd H1 p (.lst []) sc = _ := (upd_ne n1).trans e2
    refine neD_nil (A := NoA) e2' (.ints xs) (flat_ints xs) upd_same ?_
    generalize upd H1 p (.lst []) = H2 at fr2 e1' e2' ⊢
    walk_at "wp"
    cases xs with
    | nil => exact rest _ _ _ _ _ _ _ _ rfl e1' e2' a0 c0 c1 fr2
    | cons x xs =>
      rw [if_pos (show (List.map PyData.int (x :: xs)).isEmpty = false from rfl)]
      refine ⟨W_below T st sc n m H xs.length, fun σ' H' h => ⟨xs.length, by rw [← hl]; exact Nat.lt_succ_self _, h⟩, sq_ ?_⟩
      walk_at "wp"
      refine ix_ e1' rfl ⟨tyL_ e2', ⟨sc, _, 0, 0, .int x, rfl, rfl, e2', by decide, by decide, seqIx (j := 0) (by simp), rfl, ?_⟩⟩
      have e2'' : upd H2 sc (.lst (xs.map V.int)) sc = _ := upd_same
      have e1'' : upd H2 sc (.lst (xs.map V.int)) st = _ := (upd_ne ne).trans e1'
      have fr3 : Fr T (St2 st sc) H (upd H2 sc (.lst (xs.map V.int))) := fr2.mut (.inl (.inr rfl)) e2' trivial ntL
      show tSeq _ _ _ _ (upd H2 sc (.lst (xs.map V.int)))
      generalize upd H2 sc (.lst (xs.map V.int)) = H3 at fr3 e1'' e2'' ⊢
      refine sq_ ?_
      walk_at "wp"
      refine ix_ e1'' rfl ?_
      walk_at "wp"
      refine ⟨.inr ⟨by decide, by decide⟩, by decide, set_ e1'' rfl ?_⟩
      have c0' := Int.emod_nonneg (c * 69031 + x + 13) (show (2147483647 : Int) ≠ 0 by decide)
      have c1' := Int.emod_lt_of_pos (c * 69031 + x + 13) (show (0 : Int) < 2147483647 by decide)
      generalize (c * 69031 + x + 13) % 2147483647 = c' at c0' c1' ⊢
      refine ⟨⟨by decide, by decide, by decide⟩, ?_⟩
      have fin : ∀ z : Int, 0 ≤ z → W_below T st sc n m H xs.length [some (.ref st), some (.int m), some (.int x), x3, x4] (upd (upd H3 st (.lst [.ref sc, .int a, .int (n + 1), .int c'])) st (.lst [.ref sc, .int z, .int (n + 1), .int c'])) := fun z hz =>
        ⟨_, _, _, z, c', xs, rfl, rfl, upd_same, ((upd_ne (Ne.symm ne)).trans (upd_ne (Ne.symm ne))).trans e2'', hz, c0', c1',
          (fr3.mut (.inl (.inl rfl)) e1'' trivial ntL).mut (.inl (.inl rfl)) upd_same trivial ntL⟩
      split
      · rename_i hx
        exact set_ upd_same rfl (fin x (Int.le_trans (by decide) hx))
      · exact set_ upd_same rfl (fin 0 (Int.le_refl _))
  · exact rest _ _ _ _ _ _ _ _ rfl e1 e2 a0 c0 c1 fr
end Lo
set_option Elab.async false
set_option linter.all false
set_option maxRecDepth 100000
set_option maxHeartbeats 4000000
namespace Lo
open PySem PySem.Spec PyProof.Rows L2
open LamX (Tabs TabS ExtN CodeO)
local macro_rules | `(tactic| walk_at "wp") => `(tactic| simp only [tLc_eq, tFor_eq, tDc_eq, iList, iTup, iStr, iRng1, iEnum, iEnumU, RZ.iZipA, iKeys, tLk, tSortLw, Er_thing.tRaise, Er_thing.tMk, Er_index.tRaise, Er_index.tMk, rEq_int, rNe_int, rEq_str, rNe_str, rEq_bl, rNe_bl, sl0, sl1, sl2, sl3, sl4, sl5, sl6, sl8, tAsg, gName, tVar, tC, tOp, tCons, tNil, tRet, tDrop, tIfS, tTest, tB, tNot, tAnd, tOr, tAndV, tOrV, tNotV, tIf, tNext, tCall, tCB, tBM, tBM0, tPar, tAug, ipI, rI0, rI, rInt1, gSub, tSl, tNoPart, tPart, tTup, tLst, tM1, rIsN, rNotN, wipe, tRetN, tBreak, tCont, List.getElem?_cons_zero, List.getElem?_cons_succ, List.getElem_cons_zero, List.getElem_cons_succ, List.set_cons_zero, List.set_cons_succ, Option.some.injEq, V.int.injEq, V.ref.injEq, V.str.injEq, V.bl.injEq, List.cons.injEq, exists_eq_left', exists_eq_left, exists_eq_right, exists_eq_right', exists_and_left, exists_and_right, exists_eq, exists_eq', exists_false, exists_prop, true_and, and_true, false_and, and_false, or_false, false_or, and_assoc, reduceCtorEq, List.nil_append, List.cons_append, List.append_nil, List.length_cons, List.length_nil, if_true, if_false, Bool.false_eq_true, Bool.not_true, Bool.not_false, decide_eq_true_eq, Bool.not_eq_true', decide_eq_false_iff_not, ite_true, ite_false, L2.start, N_is_plain, N_need_plain, N_places_in, N_is_in, N_need_words, N_in_order, N_least_plain, N_least_words, N_is_above, N_law_start, N_law_below, N_law_chance, N_law_pick, N_law_mixed, N_law_copied, N_law_same, N_law_loose, N_law_spoilt, N_law_is_once, N_law_apart, N_law_bletters, N_law_blies, N_law_border, N_law_bleast, N_law_bword, N_law_bbad, N_law, List.map_cons, List.map_nil, List.replicate_succ, List.replicate_zero])
/-! ### the kinds -/
def tyN : PyData → String
  | .none => "NoneType"
  | .bool _ => "bool"
  | .int _ => "int"
  | .str _ => "str"
  | .list _ => "list"
  | .tuple _ => "tuple"
  | .dict _ => "dict"
def isB (d : PyData) (n : String) : Bool := tyN d == n || (tyN d == "bool" && n == "int")
theorem ib_non_str  : isB (.none) "str" = false := by rfl
theorem ib_non_dict  : isB (.none) "dict" = false := by rfl
theorem ib_non_list  : isB (.none) "list" = false := by rfl
theorem ib_non_tuple  : isB (.none) "tuple" = false := by rfl
theorem ib_non_int  : isB (.none) "int" = false := by rfl
theorem ib_non_bool  : isB (.none) "bool" = false := by rfl
theorem ib_bl_str {b : Bool} : isB (.bool b) "str" = false := by rfl
theorem ib_bl_dict {b : Bool} : isB (.bool b) "dict" = false := by rfl
theorem ib_bl_list {b : Bool} : isB (.bool b) "list" = false := by rfl
theorem ib_bl_tuple {b : Bool} : isB (.bool b) "tuple" = false := by rfl
theorem ib_bl_int {b : Bool} : isB (.bool b) "int" = true := by rfl
theorem ib_bl_bool {b : Bool} : isB (.bool b) "bool" = true := by rfl
theorem ib_int_str {i : Int} : isB (.int i) "str" = false := by rfl
theorem ib_int_dict {i : Int} : isB (.int i) "dict" = false := by rfl
theorem ib_int_list {i : Int} : isB (.int i) "list" = false := by rfl
theorem ib_int_tuple {i : Int} : isB (.int i) "tuple" = false := by rfl
theorem ib_int_int {i : Int} : isB (.int i) "int" = true := by rfl
theorem ib_int_bool {i : Int} : isB (.int i) "bool" = false := by rfl
theorem ib_str_str {z : PySem.Str} : isB (.str z) "str" = true := by rfl
theorem ib_str_dict {z : PySem.Str} : isB (.str z) "dict" = false := by rfl
theorem ib_str_list {z : PySem.Str} : isB (.str z) "list" = false := by rfl
theorem ib_str_tuple {z : PySem.Str} : isB (.str z) "tuple" = false := by rfl
theorem ib_str_int {z : PySem.Str} : isB (.str z) "int" = false := by rfl
theorem ib_str_bool {z : PySem.Str} : isB (.str z) "bool" = false := by rfl
theorem ib_lst_str {ds : List PyData} : isB (.list ds) "str" = false := by rfl
theorem ib_lst_dict {ds : List PyData} : isB (.list ds) "dict" = false := by rfl
theorem ib_lst_list {ds : List PyData} : isB (.list ds) "list" = true := by rfl
theorem ib_lst_tuple {ds : List PyData} : isB (.list ds) "tuple" = false := by rfl
theorem ib_lst_int {ds : List PyData} : isB (.list ds) "int" = false := by rfl
theorem ib_lst_bool {ds : List PyData} : isB (.list ds) "bool" = false := by rfl
theorem ib_tup_str {ds : List PyData} : isB (.tuple ds) "str" = false := by rfl
theorem ib_tup_dict {ds : List PyData} : isB (.tuple ds) "dict" = false := by rfl
theorem ib_tup_list {ds : List PyData} : isB (.tuple ds) "list" = false := by rfl
theorem ib_tup_tuple {ds : List PyData} : isB (.tuple ds) "tuple" = true := by rfl
theorem ib_tup_int {ds : List PyData} : isB (.tuple ds) "int" = false := by rfl
theorem ib_tup_bool {ds : List PyData} : isB (.tuple ds) "bool" = false := by rfl
theorem ib_dic_str {ds : List (PyData × PyData)} : isB (.dict ds) "str" = false := by rfl
theorem ib_dic_dict {ds : List (PyData × PyData)} : isB (.dict ds) "dict" = true := by rfl
theorem ib_dic_list {ds : List (PyData × PyData)} : isB (.dict ds) "list" = false := by rfl
theorem ib_dic_tuple {ds : List (PyData × PyData)} : isB (.dict ds) "tuple" = false := by rfl
theorem ib_dic_int {ds : List (PyData × PyData)} : isB (.dict ds) "int" = false := by rfl
theorem ib_dic_bool {ds : List (PyData × PyData)} : isB (.dict ds) "bool" = false := by rfl
theorem kit_isB {K : PySem.W.Frag} {n : String} (hn : n ∈ ["str", "dict", "list", "tuple", "int", "bool"]) (d : PyData) : PySem.W.kitOne K (.type (tyN d)) (.type n) = some (isB d n) := by
  simp only [List.mem_cons, List.not_mem_nil, or_false] at hn
  rcases hn with rfl | rfl | rfl | rfl | rfl | rfl <;> cases d <;> rfl
section
variable {A : Addr → Prop} {K : PySem.W.Frag} {H : Hp} {v : V} {d : PyData} {Q : VK}
theorem Rp.ty (h : Rp A H v d) : TyX K H v (.type (tyN d)) := by
  cases h with
  | non => exact .base .non
  | bl b => exact .base (.bl b)
  | int i => exact .base (.int i)
  | str x => exact .base (.str x)
  | lst _ hx _ => exact .base (.lst hx)
  | tup _ hx _ => exact .base (.tup hx)
  | dic _ hx => exact .base (.dK hx)
theorem isi_ {n : String} (h : Rp A H v d) (q : Q (.bl (isB d n)) H) (hn : n ∈ ["str", "dict", "list", "tuple", "int", "bool"] := by decide) : rIsi K [v, .ty n] H Q :=
  ⟨v, .ty n, .type (tyN d), .type n, isB d n, rfl, .ty n, h.ty, kit_isB hn d, q⟩
theorem isiT_ {tp : Addr} (h : Rp A H v d) (ht : H tp = some (.tup [.ty "list", .ty "tuple"])) (q : Q (.bl (isB d "list" || isB d "tuple")) H) : rIsiT K [v, .ref tp] H Q := by
  refine ⟨v, tp, _, .type (tyN d), [.type "list", .type "tuple"], _, rfl, ht, .cons (.ty _) (.cons (.ty _) .nil), h.ty, ?_, q⟩
  unfold PySem.W.kitAny
  rw [kit_isB (by decide)]
  cases isB d "list" with
  | true => rfl
  | false =>
    unfold PySem.W.kitAny
    rw [kit_isB (by decide)]
    cases isB d "tuple" <;> rfl
end
/-! ### plain words -/
def small : List Nat := ("abcdefghijklmnopqrstuvwxyz" : PySem.Str).cps.toList
def plainS (z : PySem.Str) : Bool := decide (z.length ≤ 200) && z.cps.toList.all fun c => decide (c ∈ small)
def plainD : PyData → Bool
  | .str z => plainS z
  | _ => false
/-- a text as the law makes them -/
def okZ (z : PySem.Str) : Prop := z.length ≤ 1000 ∧ PyData.strOk z = true
def okS : PyData → Prop
  | .str z => okZ z
  | _ => True
theorem okZ_sub {z : PySem.Str} (h : okZ z) {c : Nat} (hc : c ∈ z.cps.toList) : PyData.strOk ⟨#[c]⟩ = true := by
  have h2 : z.cps.all (· < 0x110000) = true := h.2
  have h3 : c < 0x110000 := by
    have := Array.all_eq_true'.mp h2 c (Array.mem_toList_iff.mp hc)
    simpa using this
  simp [PyData.strOk, h3]
theorem filter_empty (l : List Nat) (f : Nat → Bool) : (l.filter fun c => !f c).isEmpty = l.all f := by
  induction l with
  | nil => rfl
  | cons a l ih => cases h : f a <;> simp [h, ih]
def sp_is_plain (T : List (Addr × PySem.Str)) : Sp := fun vs H Q _ => ∃ (A : Addr → Prop) (v : V) (d : PyData), vs = [v] ∧ Rp A H v d ∧ okS d ∧ ∀ H', Fr T NoA H H' → Q (.bl (plainD d)) H'
theorem hp_is_plain {T : List (Addr × PySem.Str)} {K : PySem.W.Frag} : ∀ vs H Q E, sp_is_plain T vs H Q E → t_is_plain K { nx := fun _ H1 => Q .non H1, rt := Q } (start N_is_plain vs) H := by
  rintro vs H Q E ⟨A, v, d, rfl, hv, ok, q⟩
  unfold t_is_plain
  walk_at "wp"
  refine isi_ hv ?_
  refine ⟨_, rfl, ?_⟩
  cases hv with
  | str z =>
    rw [if_pos (show isB (.str z) "str" = true from rfl)]
    walk_at "wp"
    refine lenS_ (big_ (by have := ok.1; omega)) ?_
    walk_at "wp"
    split
    · rename_i h200
      refine LcGo.mk (T := T) (S := NoA) walk_str (fun i acc _ => acc = ((z.cps.toList.take i).filter fun c => !decide (c ∈ small)).map fun c => V.str ⟨#[c]⟩) (by have := ok.1; show z.cps.size ≤ _; exact Nat.le_trans this (by decide)) (fun _ h => h.elim) (fun _ _ => trivial) (fun _ _ => by simp) ?_ ?_
      · rintro D i x acc H1 H2 Yes No hD hi hl fr hDa hP ⟨rfl, c, hc, rfl⟩ yes no
        have htake : z.cps.toList.take (i + 1) = z.cps.toList.take i ++ [c] := by
          rw [List.take_succ]
          simp [hc]
        walk_at "wp"
        refine ⟨c, _, rfl, rfl, ?_⟩
        refine ⟨_, rfl, ?_⟩
        by_cases hm : c ∈ small
        · rw [if_neg (by simpa [small] using hm)]
          refine no _ Fr.refl ?_
          rw [hP, htake]
          simp [hm]
        · rw [if_pos (by simpa [small] using hm)]
          refine yes _ _ Fr.refl fun H5 _ => ?_
          rw [hP, htake]
          simp [hm]
      · intro D acc H1 hD fr hDa hP
        intro p hp
        have hDp : D ≠ p := fun z => by rw [z, hp] at hDa; cases hDa
        have e0 : z.cps.toList.take z.cps.size = z.cps.toList := List.take_of_length_le (by simp)
        rw [e0] at hP
        generalize hcs : (z.cps.toList.filter fun c => !decide (c ∈ small)) = cs at hP
        have hcm : ∀ c ∈ cs, c ∈ z.cps.toList := fun c hc => by rw [← hcs] at hc; exact (List.mem_filter.mp hc).1
        refine eqD_nil (A := NoA) (ds := (cs.map fun c => (⟨#[c]⟩ : PySem.Str)).map PyData.str) ((upd_ne hDp).trans hDa) ?_ ?_ upd_same ?_
        · rw [hP, show (cs.map fun c => V.str ⟨#[c]⟩) = (cs.map fun c => (⟨#[c]⟩ : PySem.Str)).map V.str by rw [List.map_map]; rfl]
          exact Rps.strs _
        · refine flat_strs fun y hy => ?_
          obtain ⟨c, hc, rfl⟩ := List.mem_map.mp hy
          exact okZ_sub ok (hcm c hc)
        · have e : ((cs.map fun c => (⟨#[c]⟩ : PySem.Str)).map PyData.str).isEmpty = plainD (.str z) := by
            have e1 : plainD (.str z) = z.cps.toList.all fun c => decide (c ∈ small) := by
              show (decide _ && _) = _
              rw [decide_eq_true (by omega : z.length ≤ 200), Bool.true_and]
            rw [e1, ← hcs]
            simp only [List.isEmpty_map]
            exact filter_empty _ fun c => decide (c ∈ small)
          rw [e]
          exact q _ (fr.trans (Fr.new hp))
    · rename_i h200
      have e : plainS z = false := by simp [plainS]; intro h; omega
      rw [← show plainD (.str z) = false from e]
      exact q H Fr.refl
  | non => exact q H Fr.refl
  | bl b => exact q H Fr.refl
  | int i => exact q H Fr.refl
  | lst _ _ _ => exact q H Fr.refl
  | tup _ _ _ => exact q H Fr.refl
  | dic _ _ => exact q H Fr.refl
end Lo
set_option Elab.async false
set_option linter.all false
set_option maxRecDepth 100000
set_option maxHeartbeats 4000000
namespace Lo
open PySem PySem.Spec PyProof.Rows L2
open LamX (Tabs TabS ExtN CodeO)
local macro_rules | `(tactic| walk_at "wp") => `(tactic| simp only [tLc_eq, tFor_eq, tDc_eq, iList, iTup, iStr, iRng1, iEnum, iEnumU, RZ.iZipA, iKeys, tLk, tSortLw, Er_thing.tRaise, Er_thing.tMk, Er_index.tRaise, Er_index.tMk, rEq_int, rNe_int, rEq_str, rNe_str, rEq_bl, rNe_bl, sl0, sl1, sl2, sl3, sl4, sl5, sl6, sl8, tAsg, gName, tVar, tC, tOp, tCons, tNil, tRet, tDrop, tIfS, tTest, tB, tNot, tAnd, tOr, tAndV, tOrV, tNotV, tIf, tNext, tCall, tCB, tBM, tBM0, tPar, tAug, ipI, rI0, rI, rInt1, gSub, tSl, tNoPart, tPart, tTup, tLst, tM1, rIsN, rNotN, wipe, tRetN, tBreak, tCont, List.getElem?_cons_zero, List.getElem?_cons_succ, List.getElem_cons_zero, List.getElem_cons_succ, List.set_cons_zero, List.set_cons_succ, Option.some.injEq, V.int.injEq, V.ref.injEq, V.str.injEq, V.bl.injEq, List.cons.injEq, exists_eq_left', exists_eq_left, exists_eq_right, exists_eq_right', exists_and_left, exists_and_right, exists_eq, exists_eq', exists_false, exists_prop, true_and, and_true, false_and, and_false, or_false, false_or, and_assoc, reduceCtorEq, List.nil_append, List.cons_append, List.append_nil, List.length_cons, List.length_nil, if_true, if_false, Bool.false_eq_true, Bool.not_true, Bool.not_false, decide_eq_true_eq, Bool.not_eq_true', decide_eq_false_iff_not, ite_true, ite_false, L2.start, N_is_plain, N_need_plain, N_places_in, N_is_in, N_need_words, N_in_order, N_least_plain, N_least_words, N_is_above, N_law_start, N_law_below, N_law_chance, N_law_pick, N_law_mixed, N_law_copied, N_law_same, N_law_loose, N_law_spoilt, N_law_is_once, N_law_apart, N_law_bletters, N_law_blies, N_law_border, N_law_bleast, N_law_bword, N_law_bbad, N_law, List.map_cons, List.map_nil, List.replicate_succ, List.replicate_zero])
local macro_rules | `(tactic| walk_at "isb") => `(tactic| simp only [ib_non_str, ib_non_dict, ib_non_list, ib_non_tuple, ib_non_int, ib_non_bool, ib_bl_str, ib_bl_dict, ib_bl_list, ib_bl_tuple, ib_bl_int, ib_bl_bool, ib_int_str, ib_int_dict, ib_int_list, ib_int_tuple, ib_int_int, ib_int_bool, ib_str_str, ib_str_dict, ib_str_list, ib_str_tuple, ib_str_int, ib_str_bool, ib_lst_str, ib_lst_dict, ib_lst_list, ib_lst_tuple, ib_lst_int, ib_lst_bool, ib_tup_str, ib_tup_dict, ib_tup_list, ib_tup_tuple, ib_tup_int, ib_tup_bool, ib_dic_str, ib_dic_dict, ib_dic_list, ib_dic_tuple, ib_dic_int, ib_dic_bool, Bool.true_or, Bool.or_true, Bool.or_false, Bool.false_or, Bool.or_self, if_true, if_false, ite_true, ite_false, Bool.not_true, Bool.not_false, Bool.false_eq_true, decide_true, decide_false, reduceCtorEq, exists_eq_left', exists_eq_left, V.bl.injEq])
/-- an exception with one field, raised -/
def Xc (T : List (Addr × PySem.Str)) (fld : PySem.Str) (C : Addr) (H : Hp) (v : V) (E : XK) : Prop := ∀ H' dx, Fr T NoA H H' → H' dx = some (.xd [(fld, v)]) → E (.ref C) (some dx) H'
theorem Xc.fr {T : List (Addr × PySem.Str)} {fld : PySem.Str} {C : Addr} {H H1 : Hp} {v : V} {E : XK} (h : Xc T fld C H v E) (f : Fr T NoA H H1) : Xc T fld C H1 v E := fun H' dx g e => h H' dx (f.trans g) e
def sp_need_plain (T : List (Addr × PySem.Str)) (C : Addr) : Sp := fun vs H Q E => ∃ (A : Addr → Prop) (v : V) (d : PyData), vs = [v] ∧ Rp A H v d ∧ okS d ∧ (plainD d = true → ∀ H', Fr T NoA H H' → Q v H') ∧ (plainD d = false → Xc T "thing" C H v E)
theorem hp_need_plain {T : List (Addr × PySem.Str)} {K : PySem.W.Frag} {C : Addr} : ∀ vs H Q E, sp_need_plain T C vs H Q E → t_need_plain K (sp_is_plain T) C E { nx := fun _ H1 => Q .non H1, rt := Q } (start N_need_plain vs) H := by
  rintro vs H Q E ⟨A, v, d, rfl, hv, ok, q1, q2⟩
  unfold t_need_plain
  refine sq_ ?_
  walk_at "wp"
  refine ⟨A, v, d, rfl, hv, ok, fun H' fr => ?_⟩
  refine ⟨_, rfl, ?_⟩
  cases hp : plainD d with
  | true =>
    rw [if_neg (by simp)]
    exact q1 hp _ fr
  | false =>
    rw [if_pos (by simp)]
    intro dx hdx
    exact q2 hp _ _ (fr.trans (Fr.new hdx)) upd_same
/-! ### lying in -/
def lies (w o : PySem.Str) : Bool := w.cps.toList.isSublist o.cps.toList
def sp_places (T : List (Addr × PySem.Str)) : Sp := fun vs H Q _ => ∃ (w o : PySem.Str), vs = [.str w, .str o] ∧ w.length ≤ 1000 ∧ o.length ≤ 1000 ∧ ∀ v H', Fr T NoA H H' → (v = .non ↔ lies w o = false) → Q v H'
theorem sub_nil_r : ∀ (l : List Nat), l.isSublist [] = l.isEmpty
  | [] => rfl
  | _ :: _ => rfl
/-- the first place from a place on -/
theorem sub_skip (c : Nat) (l r : List Nat) : (c :: l).isSublist r = match r with | [] => false | d :: r' => if c == d then l.isSublist r' else (c :: l).isSublist r' := by
  cases r <;> rfl
def W_places (w o : List Nat) (T : List (Addr × PySem.Str)) (H0 : Hp) (V0 V1 V4 : V) (p : Addr) (i : Nat) (acc : List V) : Nat → L2.St → Hp → Prop := fun m σ H => ∃ (j : Nat), σ = [some V0, some V1, some (.ref p), some (.int j), some V4] ∧ j + m = o.length ∧ Fr T NoA H0 H ∧ H p = some (.lst acc) ∧ acc.length ≤ i ∧
  w.isSublist o = (w.drop i).isSublist (o.drop j)
def Pv_places (T : List (Addr × PySem.Str)) (w o : PySem.Str) (H : Hp) (p : Addr) : Nat → L2.St → Hp → Prop := fun i σ H1 => ∃ (x4 : Option V) (j : Nat) (acc : List V), σ = [some (.str w), some (.str o), some (.ref p), some (.int j), x4] ∧ j ≤ o.cps.toList.length ∧ Fr T NoA H H1 ∧ H1 p = some (.lst acc) ∧ acc.length ≤ i ∧
    w.cps.toList.isSublist o.cps.toList = (w.cps.toList.drop i).isSublist (o.cps.toList.drop j)
theorem hp_places {T : List (Addr × PySem.Str)} {K : PySem.W.Frag} : ∀ vs H Q E, sp_places T vs H Q E → t_places_in K { nx := fun _ H1 => Q .non H1, rt := Q } (start N_places_in vs) H := by
  rintro vs H Q E ⟨w, o, rfl, hw, ho, q⟩
  unfold t_places_in
  refine sq_ ?_
  walk_at "wp"
  intro p hp
  refine sq_ ?_
  walk_at "wp"
  refine ForGo.mk walk_str (Pv_places T w o H p) ?_ (fun _ _ _ _ _ => trivial) ?_ ?_
  · exact ⟨none, 0, [], rfl, Nat.zero_le _, Fr.new hp, upd_same, Nat.le_refl _, by simp⟩
  · rintro i x σ H1 H2 hi ⟨x4, j, acc, rfl, hj, fr, hpa, hal, hs⟩ ⟨rfl, c, hc, rfl⟩
    walk_at "wp"
    refine sq_ ?_
    have hc' : w.cps.toList[i]? = some c := by simpa using hc
    have hdr : w.cps.toList.drop i = c :: w.cps.toList.drop (i + 1) := by
      obtain ⟨h1, h2⟩ := List.getElem?_eq_some_iff.mp hc'
      rw [List.drop_eq_getElem_cons h1, h2]
    refine ⟨W_places w.cps.toList o.cps.toList T H (.str w) (.str o) (.str ⟨#[c]⟩) p i acc, ⟨o.cps.toList.length - j, j, rfl, by omega, fr, hpa, hal, hs⟩, ?_⟩
    rintro m σ H3 ⟨j, rfl, hjm, fr, hpa, hal, hs⟩
    walk_at "wp"
    refine lenS_ (big_ (by omega)) ?_
    walk_at "wp"
    have hol : o.length = o.cps.toList.length := by simp [PySem.Str.length]
    by_cases hlt : (j : Int) < o.length
    · rw [if_pos hlt]
      have hlt' : j < o.cps.toList.length := by omega
      refine ⟨o, j, o.cps.toList[j], rfl, rfl, big_ (by omega), atI_nat (by simp [hlt']), ?_⟩
      walk_at "wp"
      have hd : o.cps.toList.drop j = o.cps.toList[j] :: o.cps.toList.drop (j + 1) := List.drop_eq_getElem_cons hlt'
      have hd2 : (w.cps.toList.drop i).isSublist (o.cps.toList.drop j) = if c == o.cps.toList[j] then (w.cps.toList.drop (i + 1)).isSublist (o.cps.toList.drop (j + 1)) else (w.cps.toList.drop i).isSublist (o.cps.toList.drop (j + 1)) := by
        rw [hd, hdr, sub_skip]
      by_cases hcc : o.cps.toList[j] = c
      · rw [if_neg (by simp [hcc])]
        refine sq_ ?_
        walk_at "wp"
        refine lenS_ (big_ (by omega)) ?_
        walk_at "wp"
        rw [if_neg (by omega)]
        refine sq_ ?_
        walk_at "wp"
        refine ⟨tyL_ hpa, p, acc, .int j, rfl, rfl, hpa, big1_ (by have : w.cps.size = w.length := rfl; omega), ?_⟩
        refine ⟨_, j + 1, acc ++ [.int j], rfl, by omega, fr.mut (.inr fun v e => by rw [hp] at e; cases e) hpa trivial ntL, upd_same, by simp; omega, ?_⟩
        rw [hs, hd2, if_pos (by simp [hcc])]
      · rw [if_pos (by simpa using hcc)]
        refine ⟨W_places w.cps.toList o.cps.toList T H (.str w) (.str o) (.str ⟨#[c]⟩) p i acc (m - 1), fun σ' H' h => ⟨m - 1, by omega, h⟩, j + 1, by push_cast; rfl, by omega, fr, hpa, hal, ?_⟩
        rw [hs, hd2, if_neg (by simpa using fun z => hcc z.symm)]
    · rw [if_neg hlt]
      refine sq_ ?_
      walk_at "wp"
      refine lenS_ (big_ (by omega)) ?_
      walk_at "wp"
      rw [if_pos (by omega)]
      refine q _ _ fr ⟨fun _ => ?_, fun _ => rfl⟩
      unfold lies
      rw [hs, hdr, show o.cps.toList.drop j = [] from List.drop_eq_nil_of_le (by omega)]
      rfl
  · rintro σ H1 ⟨x4, j, acc, rfl, hj, fr, hpa, hal, hs⟩
    walk_at "wp"
    refine q _ _ fr ⟨(fun z => nomatch z), fun z => ?_⟩
    unfold lies at z
    rw [hs, List.drop_eq_nil_of_le (by simp)] at z
    simp [List.isSublist] at z
def sp_is_in (T : List (Addr × PySem.Str)) : Sp := fun vs H Q _ => ∃ (w o : PySem.Str), vs = [.str w, .str o] ∧ w.length ≤ 1000 ∧ o.length ≤ 1000 ∧ ∀ H', Fr T NoA H H' → Q (.bl (lies w o)) H'
theorem hp_is_in {T : List (Addr × PySem.Str)} {K : PySem.W.Frag} : ∀ vs H Q E, sp_is_in T vs H Q E → t_is_in K (sp_places T) { nx := fun _ H1 => Q .non H1, rt := Q } (start N_is_in vs) H := by
  rintro vs H Q E ⟨w, o, rfl, hw, ho, q⟩
  unfold t_is_in
  walk_at "wp"
  refine ⟨w, o, rfl, hw, ho, fun v H' fr hv => ?_⟩
  have e : (!decide (v = V.non)) = lies w o := by
    cases h : lies w o with
    | true => simp [hv, h]
    | false => simp [hv, h]
  show Q (.bl (!decide (v = V.non))) H'
  rw [e]
  exact q _ fr
end Lo
set_option Elab.async false
set_option linter.all false
set_option maxRecDepth 100000
set_option maxHeartbeats 4000000
namespace Lo
open PySem PySem.Spec PyProof.Rows L2
open LamX (Tabs TabS ExtN CodeO)
local macro_rules | `(tactic| walk_at "wp") => `(tactic| simp only [tLc_eq, tFor_eq, tDc_eq, iList, iTup, iStr, iRng1, iEnum, iEnumU, RZ.iZipA, iKeys, tLk, tSortLw, Er_thing.tRaise, Er_thing.tMk, Er_index.tRaise, Er_index.tMk, rEq_int, rNe_int, rEq_str, rNe_str, rEq_bl, rNe_bl, sl0, sl1, sl2, sl3, sl4, sl5, sl6, sl8, tAsg, gName, tVar, tC, tOp, tCons, tNil, tRet, tDrop, tIfS, tTest, tB, tNot, tAnd, tOr, tAndV, tOrV, tNotV, tIf, tNext, tCall, tCB, tBM, tBM0, tPar, tAug, ipI, rI0, rI, rInt1, gSub, tSl, tNoPart, tPart, tTup, tLst, tM1, rIsN, rNotN, wipe, tRetN, tBreak, tCont, List.getElem?_cons_zero, List.getElem?_cons_succ, List.getElem_cons_zero, List.getElem_cons_succ, List.set_cons_zero, List.set_cons_succ, Option.some.injEq, V.int.injEq, V.ref.injEq, V.str.injEq, V.bl.injEq, List.cons.injEq, exists_eq_left', exists_eq_left, exists_eq_right, exists_eq_right', exists_and_left, exists_and_right, exists_eq, exists_eq', exists_false, exists_prop, true_and, and_true, false_and, and_false, or_false, false_or, and_assoc, reduceCtorEq, List.nil_append, List.cons_append, List.append_nil, List.length_cons, List.length_nil, if_true, if_false, Bool.false_eq_true, Bool.not_true, Bool.not_false, decide_eq_true_eq, Bool.not_eq_true', decide_eq_false_iff_not, ite_true, ite_false, L2.start, N_is_plain, N_need_plain, N_places_in, N_is_in, N_need_words, N_in_order, N_least_plain, N_least_words, N_is_above, N_law_start, N_law_below, N_law_chance, N_law_pick, N_law_mixed, N_law_copied, N_law_same, N_law_loose, N_law_spoilt, N_law_is_once, N_law_apart, N_law_bletters, N_law_blies, N_law_border, N_law_bleast, N_law_bword, N_law_bbad, N_law, List.map_cons, List.map_nil, List.replicate_succ, List.replicate_zero])
local macro_rules | `(tactic| walk_at "isb") => `(tactic| simp only [ib_non_str, ib_non_dict, ib_non_list, ib_non_tuple, ib_non_int, ib_non_bool, ib_bl_str, ib_bl_dict, ib_bl_list, ib_bl_tuple, ib_bl_int, ib_bl_bool, ib_int_str, ib_int_dict, ib_int_list, ib_int_tuple, ib_int_int, ib_int_bool, ib_str_str, ib_str_dict, ib_str_list, ib_str_tuple, ib_str_int, ib_str_bool, ib_lst_str, ib_lst_dict, ib_lst_list, ib_lst_tuple, ib_lst_int, ib_lst_bool, ib_tup_str, ib_tup_dict, ib_tup_list, ib_tup_tuple, ib_tup_int, ib_tup_bool, ib_dic_str, ib_dic_dict, ib_dic_list, ib_dic_tuple, ib_dic_int, ib_dic_bool, Bool.true_or, Bool.or_true, Bool.or_false, Bool.false_or, Bool.or_self, if_true, if_false, ite_true, ite_false, Bool.not_true, Bool.not_false, Bool.false_eq_true, decide_true, decide_false, reduceCtorEq, exists_eq_left', exists_eq_left, V.bl.injEq])
theorem gTup2_ {K : PySem.W.Frag} {t : Addr} {x y : V} {i j : Nat} {σ : L2.St} {H : Hp} {Q : L2.St → Hp → Prop} (h : H t = some (.tup [x, y])) (q : Q ((σ.set i (some x)).set j (some y)) H) : gTup K 2 (gCons (gName i) (gCons (gName j) gNil)) (.ref t) σ H Q :=
  ⟨t, [x, y], rfl, SqT.of h, rfl, x, [y], rfl, y, [], rfl, rfl, q⟩
theorem listOf_ {K : PySem.W.Frag} {p : Addr} {xs : List V} {H : Hp} {Q : VK} (h : H p = some (.lst xs) ∨ H p = some (.tup xs)) (q : ∀ l, H l = none → Q (.ref l) (upd H l (.lst xs))) : rListOf K [.ref p] H Q :=
  ⟨p, xs, rfl, h.imp SqL.of SqT.of, q⟩
/-! ### lists of words -/
def strOf : PyData → PySem.Str
  | .str z => z
  | _ => "" 
def nwL (ds : List PyData) : List PySem.Str ⊕ Nat := if 200 < ds.length then .inr 0 else match ds.findIdx? fun d => !plainD d with
  | some i => .inr i
  | none => .inl (ds.map strOf)
/-- the words that a thing is; else the place that is named -/
def nw : PyData → List PySem.Str ⊕ Nat
  | .list ds => nwL ds
  | .tuple ds => nwL ds
  | _ => .inr 0
def okW : PyData → Prop
  | .list ds => ∀ d ∈ ds, okS d
  | .tuple ds => ∀ d ∈ ds, okS d
  | _ => True
def sp_need_words (T : List (Addr × PySem.Str)) (C : Addr) : Sp := fun vs H Q E => ∃ (A : Addr → Prop) (v : V) (d : PyData), vs = [v] ∧ Rp A H v d ∧ okW d ∧
  (∀ ws, nw d = .inl ws → ∀ p H', Fr T NoA H H' → Nw H p → H' p = some (.lst (ws.map V.str)) → Q (.ref p) H') ∧ (∀ i, nw d = .inr i → Xc T "index" C H (.int i) E)
theorem plain_str {d : PyData} (h : plainD d = true) : d = .str (strOf d) := by
  cases d <;> simp [plainD] at h
  rfl
def Pv_nw (T : List (Addr × PySem.Str)) (v : V) (ds : List PyData) (H : Hp) : Nat → L2.St → Hp → Prop := fun i σ H1 => ∃ (x1 x2 : Option V), σ = [some v, x1, x2] ∧ Fr T NoA H H1 ∧ ∀ j e, j < i → ds[j]? = some e → plainD e = true
theorem rps_plain {A : Addr → Prop} {H : Hp} : ∀ {ds : List PyData} {xs : List V}, Rps A H xs ds → (∀ (j : Nat) (e : PyData), ds[j]? = some e → plainD e = true) → xs = (ds.map strOf).map V.str
  | [], _, h, _ => by cases h; rfl
  | d :: ds, _, h, hp => by
    cases h with
    | cons h1 h2 =>
      have e := plain_str (hp 0 d rfl)
      rw [e] at h1
      have ih := rps_plain h2 fun j e he => hp (j + 1) e (by simpa using he)
      cases h1
      rw [ih, List.map_cons, List.map_cons]
theorem loop_nw {T : List (Addr × PySem.Str)} {K : PySem.W.Frag} {C p : Addr} {A : Addr → Prop} {H H1 : Hp} {xs : List V} {ds : List PyData} {Q : VK} {E : XK} {J : It} {G : Hp → Prop} (w : Walk J xs.length G (YPair (fun i => some (.int (i : Nat))) (fun i => xs[i]?))) (hG : ∀ H2, Fr T NoA H H2 → G H2)
    (hx : H p = some (.lst xs) ∨ H p = some (.tup xs)) (hr : Rps A H xs ds) (ok : ∀ d ∈ ds, okS d) (h200 : ds.length ≤ 200) (f1 : Fr T NoA H H1)
    (q1 : ∀ ws, nwL ds = .inl ws → ∀ p H', Fr T NoA H H' → Nw H p → H' p = some (.lst (ws.map V.str)) → Q (.ref p) H') (q2 : ∀ i, nwL ds = .inr i → Xc T "index" C H (.int i) E) :
    ForGo J (gTup K 2 (gCons (gName 1) (gCons (gName 2) (gNil)))) (tIfS (tNot (tB (tCall (sp_is_plain T) [] E0 (tCons (tVar 2) (tNil))))) (Er_index.tRaise C (fun cls d _ H => E cls d H) (tCons (tVar 1) (tNil))) (tNext))
      { nx := (tRet (tCB (rListOf K) (tCons (tVar 0) (tNil)))) { nx := fun _ H1 => Q .non H1, rt := Q }, rt := Q } [some (.ref p), none, none] H1 := by
  have hlen := Rps.length hr
  refine ForGo.mk w (Pv_nw T (.ref p) ds H) ⟨none, none, rfl, f1, fun j e hj => absurd hj (Nat.not_lt_zero _)⟩ (fun i σ H2 _ ⟨_, _, _, f, _⟩ => hG H2 f) ?_ ?_
  · rintro i x σ H2 H3 hi ⟨x1, x2, rfl, f, hpl⟩ ⟨t, a, b, rfl, ht, rfl, ha, hb⟩
    cases ha
    refine gTup2_ upd_same ?_
    walk_at "wp"
    obtain ⟨d, hd, hrd⟩ := Rps.get hr hb
    have f3 : Fr T NoA H (upd H2 t (.tup [.int (i : Nat), b])) := f.trans (Fr.new ht)
    refine ⟨A, b, d, rfl, hrd.fr f3 (fun _ _ z => z), ok d (List.mem_of_getElem? hd), fun H4 f4 => ⟨_, rfl, ?_⟩⟩
    cases hp : plainD d with
    | true =>
      rw [if_neg (by simp)]
      refine ⟨_, _, rfl, f3.trans f4, fun j e hj he => ?_⟩
      rcases Nat.lt_succ_iff_lt_or_eq.mp hj with h | h
      · exact hpl j e h he
      · rw [h, hd] at he
        cases he
        exact hp
    | false =>
      rw [if_pos (by simp)]
      intro dx hdx
      refine q2 i ?_ _ _ ((f3.trans f4).trans (Fr.new hdx)) upd_same
      unfold nwL
      rw [if_neg (by omega)]
      have hf : ds.findIdx? (fun d => !plainD d) = some i := by
        rw [List.findIdx?_eq_some_iff_getElem]
        obtain ⟨h1, h2⟩ := List.getElem?_eq_some_iff.mp hd
        refine ⟨h1, by rw [h2, hp]; rfl, fun j hj => ?_⟩
        rw [hpl j _ hj (List.getElem?_eq_getElem (Nat.lt_trans hj h1))]
        simp
      rw [hf]
  · rintro σ H2 ⟨x1, x2, rfl, f, hpl⟩
    walk_at "wp"
    have hall : ∀ j e, ds[j]? = some e → plainD e = true := fun j e he => hpl j e (by have := (List.getElem?_eq_some_iff.mp he).1; omega) he
    refine listOf_ (xs := xs) (hx.imp (fun h => f.keep _ _ (fun z => z) h ntL) fun h => f.keep _ _ (fun z => z) h ntT) fun l hl => ?_
    refine q1 (ds.map strOf) ?_ l _ (f.trans (Fr.new hl)) (Nw.back f (Nw.of hl)) (by rw [upd_same, rps_plain hr hall])
    unfold nwL
    rw [if_neg (by omega)]
    have hf : ds.findIdx? (fun d => !plainD d) = none := by
      rw [List.findIdx?_eq_none_iff]
      intro e he
      obtain ⟨j, hj⟩ := List.mem_iff_getElem?.mp he
      rw [hall j e hj]
      rfl
    rw [hf]
theorem hp_need_words {T : List (Addr × PySem.Str)} {K : PySem.W.Frag} {C : Addr} : ∀ vs H Q E, sp_need_words T C vs H Q E → t_need_words K (sp_is_plain T) C E { nx := fun _ H1 => Q .non H1, rt := Q } (start N_need_words vs) H := by
  rintro vs H Q E ⟨A, v, d, rfl, hv, ok, q1, q2⟩
  unfold t_need_words
  refine sq_ ?_
  walk_at "wp"
  intro tp htp
  have f1 : Fr T NoA H (upd H tp (.tup [.ty "list", .ty "tuple"])) := Fr.new htp
  refine isiT_ (hv.fr f1 fun _ _ z => z) upd_same ?_
  generalize upd H tp (.tup [.ty "list", .ty "tuple"]) = H1 at f1 ⊢
  walk_at "wp"
  have bad : nw d = .inr 0 → ∀ dx, H1 dx = none → E (.ref C) (some dx) (upd H1 dx (.xd [("index", .int 0)])) := fun hd dx hdx => q2 0 hd _ _ (f1.trans (Fr.new hdx)) upd_same
  cases hv with
  | @lst a xs ds ha hx hr =>
    rw [if_neg (by show ¬ (true || _) = false; simp)]
    have hx1 := f1.keep _ _ (fun z => z) hx ntL
    refine len_ hx1 ?_
    walk_at "wp"
    have hlen := Rps.length hr
    by_cases h200 : 200 < ds.length
    · rw [if_pos (by rw [hlen]; omega)]
      exact bad (by show nwL ds = _; unfold nwL; rw [if_pos h200])
    · rw [if_neg (by rw [hlen]; omega)]
      refine sq_ ?_
      walk_at "wp"
      refine .inl ⟨⟨xs, SqL.of hx1⟩, ?_⟩
      exact loop_nw walk_enum (fun H2 f => SqL.of (f.keep _ _ (fun z => z) hx ntL)) (.inl hx) hr ok (by omega) f1 q1 q2
  | @tup a xs ds ha hx hr =>
    rw [if_neg (by show ¬ (_ || true) = false; simp)]
    have hx1 := f1.keep _ _ (fun z => z) hx ntT
    refine lenT_ hx1 ?_
    walk_at "wp"
    have hlen := Rps.length hr
    by_cases h200 : 200 < ds.length
    · rw [if_pos (by rw [hlen]; omega)]
      exact bad (by show nwL ds = _; unfold nwL; rw [if_pos h200])
    · rw [if_neg (by rw [hlen]; omega)]
      refine sq_ ?_
      walk_at "wp"
      refine .inr ⟨xs, SqT.of hx1, ?_⟩
      exact loop_nw walk_enumU (fun H2 f => SqT.of (f.keep _ _ (fun z => z) hx ntT)) (.inr hx) hr ok (by omega) f1 q1 q2
  | non => exact bad rfl
  | bl b => exact bad rfl
  | int i => exact bad rfl
  | str z => exact bad rfl
  | dic _ _ => exact bad rfl
end Lo
set_option Elab.async false
set_option linter.all false
set_option maxRecDepth 100000
set_option maxHeartbeats 4000000
namespace Lo
open PySem PySem.Spec PyProof.Rows L2
open LamX (Tabs TabS ExtN CodeO)
local macro_rules | `(tactic| walk_at "wp") => `(tactic| simp only [tLc_eq, tFor_eq, tDc_eq, iList, iTup, iStr, iRng1, iEnum, iEnumU, RZ.iZipA, iKeys, tLk, tSortLw, Er_thing.tRaise, Er_thing.tMk, Er_index.tRaise, Er_index.tMk, rEq_int, rNe_int, rEq_str, rNe_str, rEq_bl, rNe_bl, sl0, sl1, sl2, sl3, sl4, sl5, sl6, sl8, tAsg, gName, tVar, tC, tOp, tCons, tNil, tRet, tDrop, tIfS, tTest, tB, tNot, tAnd, tOr, tAndV, tOrV, tNotV, tIf, tNext, tCall, tCB, tBM, tBM0, tPar, tAug, ipI, rI0, rI, rInt1, gSub, tSl, tNoPart, tPart, tTup, tLst, tM1, rIsN, rNotN, wipe, tRetN, tBreak, tCont, List.getElem?_cons_zero, List.getElem?_cons_succ, List.getElem_cons_zero, List.getElem_cons_succ, List.set_cons_zero, List.set_cons_succ, Option.some.injEq, V.int.injEq, V.ref.injEq, V.str.injEq, V.bl.injEq, List.cons.injEq, exists_eq_left', exists_eq_left, exists_eq_right, exists_eq_right', exists_and_left, exists_and_right, exists_eq, exists_eq', exists_false, exists_prop, true_and, and_true, false_and, and_false, or_false, false_or, and_assoc, reduceCtorEq, List.nil_append, List.cons_append, List.append_nil, List.length_cons, List.length_nil, if_true, if_false, Bool.false_eq_true, Bool.not_true, Bool.not_false, decide_eq_true_eq, Bool.not_eq_true', decide_eq_false_iff_not, ite_true, ite_false, L2.start, N_is_plain, N_need_plain, N_places_in, N_is_in, N_need_words, N_in_order, N_least_plain, N_least_words, N_is_above, N_law_start, N_law_below, N_law_chance, N_law_pick, N_law_mixed, N_law_copied, N_law_same, N_law_loose, N_law_spoilt, N_law_is_once, N_law_apart, N_law_bletters, N_law_blies, N_law_border, N_law_bleast, N_law_bword, N_law_bbad, N_law, List.map_cons, List.map_nil, List.replicate_succ, List.replicate_zero])
local macro_rules | `(tactic| walk_at "isb") => `(tactic| simp only [ib_non_str, ib_non_dict, ib_non_list, ib_non_tuple, ib_non_int, ib_non_bool, ib_bl_str, ib_bl_dict, ib_bl_list, ib_bl_tuple, ib_bl_int, ib_bl_bool, ib_int_str, ib_int_dict, ib_int_list, ib_int_tuple, ib_int_int, ib_int_bool, ib_str_str, ib_str_dict, ib_str_list, ib_str_tuple, ib_str_int, ib_str_bool, ib_lst_str, ib_lst_dict, ib_lst_list, ib_lst_tuple, ib_lst_int, ib_lst_bool, ib_tup_str, ib_tup_dict, ib_tup_list, ib_tup_tuple, ib_tup_int, ib_tup_bool, ib_dic_str, ib_dic_dict, ib_dic_list, ib_dic_tuple, ib_dic_int, ib_dic_bool, Bool.true_or, Bool.or_true, Bool.or_false, Bool.false_or, Bool.or_self, if_true, if_false, ite_true, ite_false, Bool.not_true, Bool.not_false, Bool.false_eq_true, decide_true, decide_false, reduceCtorEq, exists_eq_left', exists_eq_left, V.bl.injEq])
/-! ### each once, in order -/
def ddk (acc : List PySem.Str) (w : PySem.Str) : List PySem.Str := if w ∈ acc then acc else acc ++ [w]
def dd (ws : List PySem.Str) : List PySem.Str := ws.foldl ddk []
def ordW (ws : List PySem.Str) : List PySem.Str := (dd ws).mergeSort (PySem.W.dataLe false lwKey)
theorem putK_keys (kvs : List (Key × V)) (acc : List PySem.Str) (w : PySem.Str) (v : V) (h : kvs.map (·.1) = acc.map Sum.inr) : (putK kvs (.inr w) v).map (·.1) = (ddk acc w).map Sum.inr := by
  have hm : (kvs.any fun kv => decide (kv.1 = Sum.inr w)) = decide (w ∈ acc) := by
    rw [Bool.eq_iff_iff]
    simp only [List.any_eq_true, decide_eq_true_eq]
    constructor
    · rintro ⟨kv, hk, e⟩
      have : kv.1 ∈ kvs.map (·.1) := List.mem_map.mpr ⟨kv, hk, rfl⟩
      rw [h, e] at this
      obtain ⟨w', hw, e2⟩ := List.mem_map.mp this
      cases e2
      exact hw
    · intro hw
      have : Sum.inr w ∈ kvs.map (·.1) := by rw [h]; exact List.mem_map.mpr ⟨w, hw, rfl⟩
      obtain ⟨kv, hk, e⟩ := List.mem_map.mp this
      exact ⟨kv, hk, e⟩
  unfold putK ddk
  by_cases hw : w ∈ acc
  · rw [if_pos (by rw [hm]; exact decide_eq_true hw), if_pos hw, ← h, List.map_map]
    refine List.map_congr_left fun kv _ => ?_
    simp only [Function.comp]
    split <;> rfl
  · rw [if_neg (by rw [hm]; simpa using hw), if_neg hw, List.map_append, List.map_append, h]
    rfl
theorem dd_len (ws : List PySem.Str) : ∀ acc : List PySem.Str, (ws.foldl ddk acc).length ≤ acc.length + ws.length := by
  induction ws with
  | nil => intro acc; exact Nat.le_refl _
  | cons w ws ih =>
    intro acc
    have h1 := ih (ddk acc w)
    have h2 : (ddk acc w).length ≤ acc.length + 1 := by
      unfold ddk
      split
      · exact Nat.le_succ _
      · simp
    simp only [List.foldl_cons, List.length_cons]
    omega
theorem dd_mem (ws : List PySem.Str) : ∀ (acc : List PySem.Str) (z : PySem.Str), z ∈ ws.foldl ddk acc ↔ z ∈ acc ∨ z ∈ ws := by
  induction ws with
  | nil => intro acc z; simp
  | cons w ws ih =>
    intro acc z
    rw [List.foldl_cons, ih]
    unfold ddk
    split
    · rename_i h
      simp only [List.mem_cons]
      constructor
      · rintro (h1 | h1)
        · exact .inl h1
        · exact .inr (.inr h1)
      · rintro (h1 | h1 | h1)
        · exact .inl h1
        · rw [h1]; exact .inl h
        · exact .inr h1
    · simp only [List.mem_append, List.mem_cons, or_assoc, List.not_mem_nil, false_or]
theorem dd_take {ws : List PySem.Str} {i : Nat} {w : PySem.Str} (h : ws[i]? = some w) : dd (ws.take (i + 1)) = ddk (dd (ws.take i)) w := by
  unfold dd
  rw [List.take_succ, h, List.foldl_append]
  rfl
theorem ord_mem (ws : List PySem.Str) (z : PySem.Str) : z ∈ ordW ws ↔ z ∈ ws := by
  unfold ordW dd
  rw [List.mem_mergeSort, dd_mem]
  simp
theorem ord_len (ws : List PySem.Str) : (ordW ws).length ≤ ws.length := by
  unfold ordW dd
  rw [List.length_mergeSort]
  have := dd_len ws []
  simpa using this
/-- words that may be asked about -/
def okL (ws : List PySem.Str) : Prop := ws.length ≤ 1000 ∧ ∀ z ∈ ws, okZ z
theorem okL.ord {ws : List PySem.Str} (h : okL ws) : okL (ordW ws) := ⟨Nat.le_trans (ord_len ws) h.1, fun z hz => h.2 z ((ord_mem ws z).mp hz)⟩
def sp_in_order (T : List (Addr × PySem.Str)) : Sp := fun vs H Q _ => ∃ (p : Addr) (ws : List PySem.Str), vs = [.ref p] ∧ H p = some (.lst (ws.map V.str)) ∧ okL ws ∧ Tabs T H ∧ ∀ q H', Fr T NoA H H' → Nw H q → H' q = some (.lst ((ordW ws).map V.str)) → Q (.ref q) H'
theorem str_at {ws : List PySem.Str} {i : Nat} {x : V} (h : (ws.map V.str)[i]? = some x) : ∃ z, ws[i]? = some z ∧ x = .str z := by
  rw [List.getElem?_map] at h
  cases e : ws[i]? with
  | none => rw [e] at h; cases h
  | some z => rw [e] at h; exact ⟨z, rfl, (Option.some.inj h).symm⟩
theorem hp_in_order {T : List (Addr × PySem.Str)} {K : PySem.W.Frag} : ∀ vs H Q E, sp_in_order T vs H Q E → t_in_order K T { nx := fun _ H1 => Q .non H1, rt := Q } (start N_in_order vs) H := by
  rintro vs H Q E ⟨p, ws, rfl, hp, ok, tb, q⟩
  unfold t_in_order
  walk_at "wp"
  refine ⟨⟨_, SqL.of hp⟩, ?_⟩
  refine DcGo.mk (T := T) (S := NoA) walk_list (fun i kvs => kvs.map (·.1) = (dd (ws.take i)).map Sum.inr) (by rw [List.length_map]; have := ok.1; omega) (fun _ h => h.elim) (fun H1 f => SqL.of (f.keep _ _ (fun z => z) hp ntL)) (by simp [dd]) ?_ ?_ (fun _ _ _ => Iff.rfl) ?_
  · rintro D i x kvs H1 H2 R hD hi f hP ⟨rfl, hx⟩ r
    obtain ⟨z, hz, rfl⟩ := str_at hx
    walk_at "wp"
    refine r (.inr z) _ _ Fr.refl ?_
    rw [dd_take hz]
    exact putK_keys _ _ _ _ hP
  · intro i kvs hi hP
    have h1 : kvs.length = (dd (ws.take i)).length := by
      have := congrArg List.length hP
      simpa using this
    have h2 := dd_len (ws.take i) []
    rw [h1]
    unfold dd
    simp at h2 ⊢
    omega
  · intro D kvs H1 hD f hDk hP
    have e : dd (ws.take (ws.map V.str).length) = dd ws := by rw [List.length_map, List.take_length]
    rw [e] at hP
    refine ⟨f.tabs tb, dd ws, .inr ⟨D, kvs, rfl, hDk, hP⟩, big_ ?_, fun z hz => big_ ?_, fun H2 e2 t2 q' hq => ?_⟩
    · have := dd_len ws []
      have := ok.1
      unfold dd
      simp at *
      omega
    · have h1 : z ∈ ws := by
        have := (dd_mem ws [] z).mp hz
        simpa using this
      have := (ok.2 z h1).1
      omega
    · have f2 : Fr T NoA H H2 := f.trans (Fr.extN e2 fun _ => t2)
      exact q q' _ (f2.trans (Fr.new hq)) (Nw.back f2 (Nw.of hq)) upd_same
/-! ### the least ones -/
def leastS (found : List PySem.Str) (w : PySem.Str) : List PySem.Str := if found.any (fun o => lies o w) then found else found ++ [w]
theorem leastS_yes {f : List PySem.Str} {w : PySem.Str} (h : f.any (fun o => lies o w) = true) : leastS f w = f := if_pos h
theorem leastS_no {f : List PySem.Str} {w : PySem.Str} (h : f.any (fun o => lies o w) = false) : leastS f w = f ++ [w] := if_neg (by rw [h]; simp)
def leastW (ws : List PySem.Str) : List PySem.Str := (ordW ws).foldl leastS []
def sp_least_plain (T : List (Addr × PySem.Str)) : Sp := fun vs H Q _ => ∃ (p : Addr) (ws : List PySem.Str), vs = [.ref p] ∧ H p = some (.lst (ws.map V.str)) ∧ okL ws ∧ Tabs T H ∧ ∀ q H', Fr T NoA H H' → Nw H q → H' q = some (.lst ((leastW ws).map V.str)) → Q (.ref q) H'
theorem leastS_sub {found : List PySem.Str} {w z : PySem.Str} (h : z ∈ leastS found w) : z ∈ found ∨ z = w := by
  unfold leastS at h
  split at h
  · exact .inl h
  · simpa using h
theorem least_sub : ∀ (ws acc : List PySem.Str) (z : PySem.Str), z ∈ ws.foldl leastS acc → z ∈ acc ∨ z ∈ ws
  | [], acc, z, h => .inl h
  | w :: ws, acc, z, h => by
    rcases least_sub ws _ z h with h | h
    · rcases leastS_sub h with h | h
      · exact .inl h
      · exact .inr (h ▸ List.mem_cons_self ..)
    · exact .inr (List.mem_cons_of_mem _ h)
theorem least_len : ∀ (ws acc : List PySem.Str), (ws.foldl leastS acc).length ≤ acc.length + ws.length
  | [], acc => Nat.le_refl _
  | w :: ws, acc => by
    have h1 := least_len ws (leastS acc w)
    have h2 : (leastS acc w).length ≤ acc.length + 1 := by
      unfold leastS
      split
      · exact Nat.le_succ _
      · simp
    simp only [List.foldl_cons, List.length_cons]
    omega
theorem okL.least {ws : List PySem.Str} (h : okL ws) : okL (leastW ws) := by
  refine ⟨?_, fun z hz => ?_⟩
  · have h1 := least_len (ordW ws) []
    have h2 := h.ord.1
    unfold leastW
    simp at h1
    omega
  · rcases least_sub _ _ z hz with h1 | h1
    · cases h1
    · exact h.ord.2 z h1
theorem least_take {ws : List PySem.Str} {i : Nat} {w : PySem.Str} (h : ws[i]? = some w) : (ws.take (i + 1)).foldl leastS [] = leastS ((ws.take i).foldl leastS []) w := by
  rw [List.take_succ, h, List.foldl_append]
  rfl
/-- those of some words that lie in a word: a comprehension over is_in, or the law's own look -/
theorem lc_lies {T : List (Addr × PySem.Str)} {K : PySem.W.Frag} {sp : Sp} (hsp : ∀ (a b : PySem.Str) H Q E, a.length ≤ 1000 → b.length ≤ 1000 → (∀ H', Fr T NoA H H' → Q (.bl (lies a b)) H') → sp [.str a, .str b] H Q E) {σ : L2.St} {H : Hp} {Q : VK} {p : Addr} {ws : List PySem.Str} {w : PySem.Str} {i j : Nat}
    (hp : H p = some (.lst (ws.map V.str))) (ok : okL ws) (okw : w.length ≤ 1000)
    (h1 : ∀ z : PySem.Str, wipe ((wipe σ [i]).set i (some (.str z))) [i] = wipe σ [i]) (h2 : ∀ z : PySem.Str, ((wipe σ [i]).set i (some (.str z)))[i]? = some (some (.str z))) (h3 : ∀ z : PySem.Str, ((wipe σ [i]).set i (some (.str z)))[j]? = some (some (.str w)))
    (q : ∀ D H1, Fr T NoA H H1 → Nw H D → H1 D = some (.lst ((ws.filter fun o => lies o w).map V.str)) → Q (.ref D) H1) :
    LcGo (Itl K p) (gName i) (tB (tCall sp [] E0 (tCons (tVar i) (tCons (tVar j) tNil)))) (tVar i) [i] σ H Q := by
  refine LcGo.mk (T := T) (S := NoA) walk_list (fun k acc _ => acc = ((ws.take k).filter fun o => lies o w).map V.str) (by rw [List.length_map]; have := ok.1; omega) (fun _ h => h.elim) (fun H1 f => SqL.of (f.keep _ _ (fun z => z) hp ntL)) (fun _ _ => by simp) ?_ ?_
  · rintro D k x acc H1 H2 Yes No hD hi hl f hDa hP ⟨rfl, hx⟩ yes no
    obtain ⟨z, hz, rfl⟩ := str_at hx
    have htake : (ws.take (k + 1)).filter (fun o => lies o w) = (ws.take k).filter (fun o => lies o w) ++ if lies z w then [z] else [] := by
      rw [List.take_succ, hz, List.filter_append]
      congr 1
      simp [List.filter_cons]
    refine ⟨h1 z, ?_⟩
    refine ⟨_, h2 z, _, h3 z, ?_⟩
    refine hsp z w _ _ _ ((ok.2 z (List.mem_of_getElem? hz)).1) okw fun H3 f3 => ⟨_, rfl, ?_⟩
    cases hb : lies z w with
    | true =>
      rw [if_pos rfl]
      refine ⟨_, h2 z, yes _ _ f3 fun H5 _ => ?_⟩
      rw [hP, htake, hb]
      simp
    | false =>
      rw [if_neg (by simp)]
      refine no _ f3 ?_
      rw [hP, htake, hb]
      simp
  · intro D acc H1 hD f hDa hP
    rw [List.length_map, List.take_length] at hP
    rw [hP] at hDa
    exact q D H1 f (Nw.of hD) hDa
theorem any_filter (l : List PySem.Str) (f : PySem.Str → Bool) : (l.filter f).isEmpty = !l.any f := by
  induction l with
  | nil => rfl
  | cons a l ih => cases h : f a <;> simp [h, ih]
def Pv_least (T : List (Addr × PySem.Str)) (os : List PySem.Str) (v0 : V) (fp : Addr) (H : Hp) : Nat → L2.St → Hp → Prop := fun i σ H1 => ∃ (x2 x3 : Option V), σ = [some v0, some (.ref fp), x2, x3] ∧ Fr T (fun b => b = fp) H H1 ∧ H1 fp = some (.lst (((os.take i).foldl leastS []).map V.str))
theorem sp_in_ok {T : List (Addr × PySem.Str)} : ∀ (a b : PySem.Str) H Q E, a.length ≤ 1000 → b.length ≤ 1000 → (∀ H', Fr T NoA H H' → Q (.bl (lies a b)) H') → sp_is_in T [.str a, .str b] H Q E := fun a b _ _ _ h1 h2 q => ⟨a, b, rfl, h1, h2, q⟩
theorem hp_least_plain {T : List (Addr × PySem.Str)} {K : PySem.W.Frag} : ∀ vs H Q E, sp_least_plain T vs H Q E → t_least_plain K (sp_in_order T) (sp_is_in T) { nx := fun _ H1 => Q .non H1, rt := Q } (start N_least_plain vs) H := by
  rintro vs H Q E ⟨p, ws, rfl, hp, ok, tb, q⟩
  unfold t_least_plain
  refine sq_ ?_
  walk_at "wp"
  intro fp hfp
  refine sq_ ?_
  have f1 : Fr T NoA H (upd H fp (.lst [])) := Fr.new hfp
  walk_at "wp"
  refine ⟨p, ws, rfl, f1.keep _ _ (fun z => z) hp ntL, ok, f1.tabs tb, fun o H1 f2 no ho => ?_⟩
  refine ⟨o, rfl, ⟨_, SqL.of ho⟩, ?_⟩
  have okO := ok.ord
  have f12 := f1.trans f2
  have nof : o ≠ fp := no.ne upd_same ntL
  refine ForGo.mk (walk_list (xs := (ordW ws).map V.str)) (Pv_least T (ordW ws) (.ref p) fp H1) ⟨none, none, rfl, Fr.refl, f2.keep _ _ (fun z => z) upd_same ntL⟩ ?_ ?_ ?_
  · rintro i σ H2 hi ⟨x2, x3, rfl, f, hf⟩
    exact SqL.of (f.keep _ _ nof ho ntL)
  · rintro i x σ H2 H3 hi ⟨x2, x3, rfl, f, hf⟩ ⟨rfl, hx⟩
    obtain ⟨z, hz, rfl⟩ := str_at hx
    have okF : okL (((ordW ws).take i).foldl leastS []) := by
      refine ⟨?_, fun y hy => ?_⟩
      · have := least_len ((ordW ws).take i) []
        have := okO.1
        simp at *
        omega
      · rcases least_sub _ _ y hy with h1 | h1
        · cases h1
        · exact okO.2 y (List.mem_of_mem_take h1)
    have okz := okO.2 z (List.mem_of_getElem? hz)
    walk_at "wp"
    refine ⟨⟨_, SqL.of hf⟩, ?_⟩
    refine lc_lies sp_in_ok hf okF okz.1 (fun _ => rfl) (fun _ => rfl) (fun _ => rfl) fun D H4 f4 nD hD => ?_
    intro b hb
    have nDb : D ≠ b := fun z => by rw [z, hb] at hD; cases hD
    refine eqD_nil (A := NoA) ((upd_ne nDb).trans hD) (.strs _) (flat_strs fun y hy => (okF.2 y (List.mem_filter.mp hy).1).2) upd_same ?_
    refine ⟨_, rfl, ?_⟩
    have f5 : Fr T (fun b => b = fp) H1 (upd H4 b (.lst [])) := f.trans (f4.any.trans (Fr.new hb))
    have hf5 : upd H4 b (.lst []) fp = _ := (f4.trans (Fr.new (T := T) (S := NoA) hb)).keep _ _ (fun z => z) hf ntL
    generalize upd H4 b (.lst []) = H5 at f5 hf5 ⊢
    have e1 : (((((ordW ws).take i).foldl leastS []).filter fun o => lies o z).map PyData.str).isEmpty = !(((ordW ws).take i).foldl leastS []).any (fun o => lies o z) := by
      rw [List.isEmpty_map, any_filter]
    rw [e1]
    cases hany : (((ordW ws).take i).foldl leastS []).any (fun o => lies o z) with
    | true =>
      rw [if_neg (by simp)]
      refine ⟨_, _, rfl, f5, ?_⟩
      rw [least_take hz, leastS_yes hany]
      exact hf5
    | false =>
      rw [if_pos (by simp)]
      refine ⟨tyL_ hf5, fp, _, .str z, rfl, rfl, hf5, big1_ (by rw [List.length_map]; have := okF.1; omega), ?_⟩
      refine ⟨_, _, rfl, f5.mut (.inl rfl) hf5 trivial ntL, ?_⟩
      rw [upd_same, least_take hz, leastS_no hany]
      simp
  · rintro σ H2 ⟨x2, x3, rfl, f, hf⟩
    walk_at "wp"
    have nf : Nw H fp := Nw.of hfp
    refine q fp H2 (f12.thru f fun c e => .inr (by rw [e]; exact nf)) nf ?_
    rw [List.length_map, List.take_length] at hf
    exact hf
/-! ### least_words, is_above -/
theorem nw_plain {d : PyData} {ws : List PySem.Str} (h : nw d = .inl ws) : ws.length ≤ 200 ∧ ∀ z ∈ ws, plainS z = true := by
  have key : ∀ ds : List PyData, nwL ds = .inl ws → ws.length ≤ 200 ∧ ∀ z ∈ ws, plainS z = true := by
    intro ds h
    unfold nwL at h
    split at h
    · cases h
    · rename_i h200
      split at h
      · cases h
      · rename_i hf
        cases h
        refine ⟨by simpa using h200, fun z hz => ?_⟩
        obtain ⟨d, hd, rfl⟩ := List.mem_map.mp hz
        rw [List.findIdx?_eq_none_iff] at hf
        have := hf d hd
        have hp : plainD d = true := by simpa using this
        rw [plain_str hp] at hp
        exact hp
  cases d with
  | list ds => exact key ds h
  | tuple ds => exact key ds h
  | _ => cases h
theorem plainS_ok {z : PySem.Str} (h : plainS z = true) : okZ z := by
  unfold plainS at h
  rw [Bool.and_eq_true] at h
  have h1 := of_decide_eq_true h.1
  refine ⟨by omega, ?_⟩
  show z.cps.all (· < 0x110000) = true
  rw [Array.all_eq_true']
  intro c hc
  have h2 := List.all_eq_true.mp h.2 c (Array.mem_toList_iff.mpr hc)
  have h3 : c ∈ small := by simpa using h2
  have h4 : ∀ x ∈ small, x < 1114112 := by decide
  simpa using h4 c h3
theorem nw_ok {d : PyData} {ws : List PySem.Str} (h : nw d = .inl ws) : okL ws := by
  obtain ⟨h1, h2⟩ := nw_plain h
  exact ⟨by omega, fun z hz => plainS_ok (h2 z hz)⟩
def sp_least_words (T : List (Addr × PySem.Str)) (C : Addr) : Sp := fun vs H Q E => ∃ (A : Addr → Prop) (v : V) (d : PyData), vs = [v] ∧ Rp A H v d ∧ okW d ∧ Tabs T H ∧
  (∀ ws, nw d = .inl ws → ∀ p H', Fr T NoA H H' → Nw H p → H' p = some (.lst ((leastW ws).map V.str)) → Q (.ref p) H') ∧ (∀ i, nw d = .inr i → Xc T "index" C H (.int i) E)
theorem hp_least_words {T : List (Addr × PySem.Str)} {K : PySem.W.Frag} {C : Addr} : ∀ vs H Q E, sp_least_words T C vs H Q E → t_least_words K (sp_least_plain T) (sp_need_words T C) E { nx := fun _ H1 => Q .non H1, rt := Q } (start N_least_words vs) H := by
  rintro vs H Q E ⟨A, v, d, rfl, hv, ok, tb, q1, q2⟩
  unfold t_least_words
  walk_at "wp"
  refine ⟨A, v, d, rfl, hv, ok, fun ws hw p H1 f1 n1 hp => ?_, q2⟩
  exact ⟨p, ws, rfl, hp, nw_ok hw, f1.tabs tb, fun q H2 f2 n2 hq => q1 ws hw q H2 (f1.trans f2) (Nw.back f1 n2) hq⟩
def sp_is_above (T : List (Addr × PySem.Str)) (C1 C2 : Addr) : Sp := fun vs H Q E => ∃ (A B : Addr → Prop) (v u : V) (d e : PyData), vs = [v, u] ∧ Rp A H v d ∧ okW d ∧ Rp B H u e ∧ okS e ∧
  (∀ i, nw d = .inr i → Xc T "index" C1 H (.int i) E) ∧ (∀ ws, nw d = .inl ws → plainD e = false → Xc T "thing" C2 H u E) ∧
  (∀ ws z, nw d = .inl ws → e = .str z → plainS z = true → ∀ H', Fr T NoA H H' → Q (.bl (ws.any fun o => lies o z)) H')
theorem hp_is_above {T : List (Addr × PySem.Str)} {K : PySem.W.Frag} {C1 C2 : Addr} : ∀ vs H Q E, sp_is_above T C1 C2 vs H Q E → t_is_above K (sp_need_words T C1) (sp_need_plain T C2) (sp_is_in T) E { nx := fun _ H1 => Q .non H1, rt := Q } (start N_is_above vs) H := by
  rintro vs H Q E ⟨A, B, v, u, d, e, rfl, hv, okd, hu, oke, q1, q2, q3⟩
  unfold t_is_above
  refine sq_ ?_
  walk_at "wp"
  refine ⟨A, v, d, rfl, hv, okd, fun ws hw p H1 f1 n1 hp => ?_, q1⟩
  refine sq_ ?_
  walk_at "wp"
  refine ⟨B, u, e, rfl, hu.fr f1 (fun _ _ z => z), oke, fun he H2 f2 => ?_, fun he => (q2 ws hw he).fr f1⟩
  obtain ⟨z, rfl⟩ : ∃ z, e = .str z := ⟨_, plain_str he⟩
  cases hu
  have okws := nw_ok hw
  have hp2 := f2.keep _ _ (fun z => z) hp ntL
  refine ⟨⟨_, SqL.of hp2⟩, ?_⟩
  refine lc_lies sp_in_ok hp2 okws oke.1 (fun _ => rfl) (fun _ => rfl) (fun _ => rfl) fun D H4 f4 nD hD => ?_
  intro b hb
  have nDb : D ≠ b := fun z => by rw [z, hb] at hD; cases hD
  refine neD_nil (A := NoA) ((upd_ne nDb).trans hD) (.strs _) (flat_strs fun y hy => (okws.2 y (List.mem_filter.mp hy).1).2) upd_same ?_
  have e1 : (!((ws.filter fun o => lies o z).map PyData.str).isEmpty) = ws.any (fun o => lies o z) := by
    rw [List.isEmpty_map, any_filter, Bool.not_not]
  rw [e1]
  exact q3 ws z hw rfl he _ (f1.trans (f2.trans (f4.trans (Fr.new hb))))
end Lo
set_option Elab.async false
set_option linter.all false
set_option maxRecDepth 100000
set_option maxHeartbeats 4000000
namespace Lo
open PySem PySem.Spec PyProof.Rows L2
open LamX (Tabs TabS ExtN CodeO)
local macro_rules | `(tactic| walk_at "wp") => `(tactic| simp only [tLc_eq, tFor_eq, tDc_eq, iList, iTup, iStr, iRng1, iEnum, iEnumU, RZ.iZipA, iKeys, tLk, tSortLw, Er_thing.tRaise, Er_thing.tMk, Er_index.tRaise, Er_index.tMk, rEq_int, rNe_int, rEq_str, rNe_str, rEq_bl, rNe_bl, sl0, sl1, sl2, sl3, sl4, sl5, sl6, sl8, tAsg, gName, tVar, tC, tOp, tCons, tNil, tRet, tDrop, tIfS, tTest, tB, tNot, tAnd, tOr, tAndV, tOrV, tNotV, tIf, tNext, tCall, tCB, tBM, tBM0, tPar, tAug, ipI, rI0, rI, rInt1, gSub, tSl, tNoPart, tPart, tTup, tLst, tM1, rIsN, rNotN, wipe, tRetN, tBreak, tCont, List.getElem?_cons_zero, List.getElem?_cons_succ, List.getElem_cons_zero, List.getElem_cons_succ, List.set_cons_zero, List.set_cons_succ, Option.some.injEq, V.int.injEq, V.ref.injEq, V.str.injEq, V.bl.injEq, List.cons.injEq, exists_eq_left', exists_eq_left, exists_eq_right, exists_eq_right', exists_and_left, exists_and_right, exists_eq, exists_eq', exists_false, exists_prop, true_and, and_true, false_and, and_false, or_false, false_or, and_assoc, reduceCtorEq, List.nil_append, List.cons_append, List.append_nil, List.length_cons, List.length_nil, if_true, if_false, Bool.false_eq_true, Bool.not_true, Bool.not_false, decide_eq_true_eq, Bool.not_eq_true', decide_eq_false_iff_not, ite_true, ite_false, L2.start, N_is_plain, N_need_plain, N_places_in, N_is_in, N_need_words, N_in_order, N_least_plain, N_least_words, N_is_above, N_law_start, N_law_below, N_law_chance, N_law_pick, N_law_mixed, N_law_copied, N_law_same, N_law_loose, N_law_spoilt, N_law_is_once, N_law_apart, N_law_bletters, N_law_blies, N_law_border, N_law_bleast, N_law_bword, N_law_bbad, N_law, List.map_cons, List.map_nil, List.replicate_succ, List.replicate_zero])
local macro_rules | `(tactic| walk_at "isb") => `(tactic| simp only [ib_non_str, ib_non_dict, ib_non_list, ib_non_tuple, ib_non_int, ib_non_bool, ib_bl_str, ib_bl_dict, ib_bl_list, ib_bl_tuple, ib_bl_int, ib_bl_bool, ib_int_str, ib_int_dict, ib_int_list, ib_int_tuple, ib_int_int, ib_int_bool, ib_str_str, ib_str_dict, ib_str_list, ib_str_tuple, ib_str_int, ib_str_bool, ib_lst_str, ib_lst_dict, ib_lst_list, ib_lst_tuple, ib_lst_int, ib_lst_bool, ib_tup_str, ib_tup_dict, ib_tup_list, ib_tup_tuple, ib_tup_int, ib_tup_bool, ib_dic_str, ib_dic_dict, ib_dic_list, ib_dic_tuple, ib_dic_int, ib_dic_bool, Bool.true_or, Bool.or_true, Bool.or_false, Bool.false_or, Bool.or_self, if_true, if_false, ite_true, ite_false, Bool.not_true, Bool.not_false, Bool.false_eq_true, decide_true, decide_false, reduceCtorEq, exists_eq_left', exists_eq_left, V.bl.injEq])
def sp_start (T : List (Addr × PySem.Str)) (K : PySem.W.Frag) : Sp := fun vs H Q _ => ∃ (s : Addr) (ns : List Int), vs = [.ref s] ∧ SqL K H s (ns.map V.int) ∧ ∀ st sc H', Fr T NoA H H' → Strm st sc 0 H' → Q (.ref st) H'
theorem hp_start {T : List (Addr × PySem.Str)} {K : PySem.W.Frag} : ∀ vs H Q E, sp_start T K vs H Q E → t_law_start K { nx := fun _ H1 => Q .non H1, rt := Q } (start N_law_start vs) H := by
  rintro vs H Q E ⟨s, ns, rfl, hs, q⟩
  unfold t_law_start
  walk_at "wp"
  refine ⟨s, ns.map V.int, rfl, .inl hs, fun sc hsc => ?_⟩
  intro st hst
  have ne : st ≠ sc := fun z => by rw [z, upd_same] at hst; cases hst
  exact q st sc _ ((Fr.new hsc).trans (Fr.new hst)) ⟨ne, 0, 0, 43, ns, upd_same, (upd_ne (Ne.symm ne)).trans upd_same, by decide, by decide, by decide, by decide, by decide⟩
def sp_chance (T : List (Addr × PySem.Str)) : Sp := fun vs H Q _ => ∃ st sc k m, vs = [.ref st, .int m] ∧ Strm st sc k H ∧ k < 2 ^ 40 ∧ 0 < m ∧ m < 2 ^ 30 ∧
  ∀ H' b, Fr T (St2 st sc) H H' → Strm st sc (k + 1) H' → Q (.bl b) H'
theorem hp_chance {T : List (Addr × PySem.Str)} {K : PySem.W.Frag} : ∀ vs H Q E, sp_chance T vs H Q E → t_law_chance K (sp_below T) { nx := fun _ H1 => Q .non H1, rt := Q } (start N_law_chance vs) H := by
  rintro vs H Q E ⟨st, sc, k, m, rfl, sm, hk, hm, hm2, q⟩
  unfold t_law_chance
  walk_at "wp"
  refine ⟨st, sc, k, m, rfl, sm, hk, hm, hm2, fun H' d f s' h0 h1 => ?_⟩
  walk_at "wp"
  exact q _ _ f s'
def sp_pick (T : List (Addr × PySem.Str)) : Sp := fun vs H Q _ => ∃ (st sc : Addr) (k : Nat) (p : Addr) (xs : List V), vs = [.ref st, .ref p] ∧ Strm st sc k H ∧ k < 2 ^ 40 ∧ H p = some (.lst xs) ∧ Ot2 st sc p ∧ 0 < xs.length ∧ xs.length ≤ 1000 ∧
  ∀ H' (i : Nat) x, xs[i]? = some x → Fr T (St2 st sc) H H' → Strm st sc (k + 1) H' → Q x H'
theorem hp_pick {T : List (Addr × PySem.Str)} {K : PySem.W.Frag} : ∀ vs H Q E, sp_pick T vs H Q E → t_law_pick K (sp_below T) { nx := fun _ H1 => Q .non H1, rt := Q } (start N_law_pick vs) H := by
  rintro vs H Q E ⟨st, sc, k, p, xs, rfl, sm, hk, hp, op, h0, h1, q⟩
  unfold t_law_pick
  walk_at "wp"
  refine len_ hp ?_
  refine ⟨st, sc, k, xs.length, rfl, sm, hk, by omega, by omega, fun H' d f s' d0 d1 => ?_⟩
  obtain ⟨i, rfl⟩ := Int.eq_ofNat_of_zero_le d0
  have hi : i < xs.length := by omega
  exact ix_ (f.keep _ _ (ot_st op) hp ntL) (atI_nat (List.getElem?_eq_getElem hi)) (q _ i _ (List.getElem?_eq_getElem hi) f s')
/-! ### a drawn order -/
theorem erase_perm {α : Type} : ∀ {l : List α} {j : Nat} {y : α}, l[j]? = some y → (y :: l.eraseIdx j).Perm l
  | [], j, y, h => by simp at h
  | a :: l, 0, y, h => by simp at h; subst h; exact List.Perm.refl _
  | a :: l, j + 1, y, h => by
    simp at h
    rw [List.eraseIdx_cons_succ]
    exact (List.Perm.swap a y _).trans ((erase_perm h).cons a)
def sp_mixed (T : List (Addr × PySem.Str)) : Sp := fun vs H Q _ => ∃ (st sc : Addr) (k : Nat) (p : Addr) (xs : List V), vs = [.ref st, .ref p] ∧ Strm st sc k H ∧ k < 2 ^ 39 ∧ H p = some (.lst xs) ∧ xs.length ≤ 1000 ∧
  ∀ q ys H', Fr T (St2 st sc) H H' → Nw H q → H' q = some (.lst ys) → ys.Perm xs → Strm st sc (k + xs.length) H' → Q (.ref q) H'
theorem hp_mixed {T : List (Addr × PySem.Str)} {K : PySem.W.Frag} : ∀ vs H Q E, sp_mixed T vs H Q E → t_law_mixed K (sp_below T) { nx := fun _ H1 => Q .non H1, rt := Q } (start N_law_mixed vs) H := by
  rintro vs H Q E ⟨st, sc, k, p, xs, rfl, sm, hk, hp, h1, q⟩
  unfold t_law_mixed
  refine sq_ ?_
  walk_at "wp"
  refine listOf_ (.inl hp) fun l hl => ?_
  have f1 : Fr T NoA H (upd H l (.lst xs)) := Fr.new hl
  have sm1 := sm.fr f1 (fun z => z) (fun z => z)
  have hl1 : upd H l (.lst xs) l = some (.lst xs) := upd_same
  have ol : Ot2 st sc l := sm.ot (Nw.of hl)
  generalize upd H l (.lst xs) = H1 at f1 sm1 hl1 ⊢
  refine len_ hl1 ?_
  refine ⟨_, rfl, by omega, by omega, ?_⟩
  rw [Int.toNat_natCast]
  refine LcGo.mk (T := T) (S := fun b => St2 st sc b ∨ b = l) walk_range (fun i acc H2 => ∃ rest, H2 l = some (.lst rest) ∧ rest.length + i = xs.length ∧ (acc ++ rest).Perm xs ∧ Strm st sc (k + i) H2) (by omega) ?_ (fun _ _ => trivial) ?_ ?_ ?_
  · obtain ⟨ne, a, n, c, zs, e1, e2, _⟩ := sm1
    rintro b ((rfl | rfl) | rfl)
    · rw [e1]; simp
    · rw [e2]; simp
    · rw [hl1]; simp
  · intro H2 f
    exact ⟨xs, f.keep _ _ (fun z => z) hl1 ntL, rfl, by simp, sm1.fr f (fun z => z) (fun z => z)⟩
  · rintro D i x acc H2 H3 Yes No hD hi hal f hDa ⟨rest, hr, hri, hpm, s2⟩ ⟨rfl, rfl⟩ yes no
    walk_at "wp"
    refine ⟨tyL_ hr, len_ hr ?_⟩
    refine ⟨st, sc, k + i, rest.length, rfl, s2, by omega, by omega, by omega, fun H4 d f4 s4 d0 d1 => ?_⟩
    obtain ⟨j, rfl⟩ := Int.eq_ofNat_of_zero_le d0
    have hj : j < rest.length := by omega
    have hr4 := f4.keep _ _ (ot_st ol) hr ntL
    refine ⟨l, rest, j, j, rest[j], rfl, rfl, hr4, by omega, by omega, seqIx hj, List.getElem?_eq_getElem hj, ?_⟩
    have f5 : Fr T (fun b => St2 st sc b ∨ b = l) H3 (upd H4 l (.lst (rest.eraseIdx j))) := (f4.mono fun b z => .inl z).mut (.inl (.inr rfl)) hr4 trivial ntL
    refine yes _ _ f5 fun H5 f6 => ?_
    have nl : l ≠ D := fun z => by rw [← z, hl1] at hD; cases hD
    refine ⟨rest.eraseIdx j, f6.keep _ _ nl upd_same ntL, by rw [List.length_eraseIdx]; simp [hj]; omega, ?_, ?_⟩
    · refine List.Perm.trans ?_ hpm
      rw [List.append_assoc]
      exact List.Perm.append_left _ (erase_perm (List.getElem?_eq_getElem hj))
    · have s5 : Strm st sc (k + i + 1) (upd H4 l (.lst (rest.eraseIdx j))) := s4.fr (T := T) (Fr.refl.mut (S := fun b => b = l) (.inl rfl) hr4 trivial ntL) (Ne.symm ol.1) (Ne.symm ol.2)
      obtain ⟨ne, a, n, c, zs, e1, e2, _⟩ := sm1
      exact s5.fr f6 (fun z => by rw [← show st = D from z, e1] at hD; cases hD) (fun z => by rw [← show sc = D from z, e2] at hD; cases hD)
  · rintro D acc H2 hD f hDa ⟨rest, hr, hri, hpm, s2⟩
    have : rest = [] := List.eq_nil_of_length_eq_zero (by omega)
    subst this
    rw [List.append_nil] at hpm
    refine q D acc H2 ?_ (Nw.back f1 (Nw.of hD)) hDa hpm s2
    exact (f1.any).thru f fun c hc => hc.elim .inl fun e => .inr (by rw [e]; exact Nw.of hl)
/-! ### copies -/
mutual
/-- no dict, and no list of more than ten thousand -/
def fit : PyData → Bool
  | .dict _ => false
  | .list ds => decide (ds.length ≤ 10000) && fits ds
  | .tuple ds => decide (ds.length ≤ 10000) && fits ds
  | _ => true
def fits : List PyData → Bool
  | [] => true
  | d :: ds => fit d && fits ds
end
theorem fits_get : ∀ {ds : List PyData} {i : Nat} {d : PyData}, fits ds = true → ds[i]? = some d → fit d = true
  | [], i, d, _, e => by simp at e
  | a :: ds, 0, d, h, e => by
    simp at e
    subst e
    simp only [fits, Bool.and_eq_true] at h
    exact h.1
  | a :: ds, i + 1, d, h, e => by
    simp only [fits, Bool.and_eq_true] at h
    exact fits_get h.2 (by simpa using e)
theorem depth_get : ∀ {ds : List PyData} {i : Nat} {d : PyData}, ds[i]? = some d → d.depth ≤ PyData.depthAll ds
  | [], i, d, e => by simp at e
  | a :: ds, 0, d, e => by
    simp at e
    subst e
    simp only [PyData.depthAll]
    omega
  | a :: ds, i + 1, d, e => by
    have := depth_get (ds := ds) (i := i) (d := d) (by simpa using e)
    simp only [PyData.depthAll]
    omega
def sp_copied (T : List (Addr × PySem.Str)) (n : Nat) : Sp := fun vs H Q _ => ∃ (A : Addr → Prop) (v : V) (d : PyData), vs = [v] ∧ Rp A H v d ∧ fit d = true ∧ d.depth < n ∧ ∀ u H', Fr T NoA H H' → Rp (Nw H) H' u d → Q u H'
theorem Rps.snoc {A : Addr → Prop} {H : Hp} {vs : List V} {ds : List PyData} {v : V} {d : PyData} (h : Rps A H vs ds) (g : Rp A H v d) : Rps A H (vs ++ [v]) (ds ++ [d]) := h.app (.cons g .nil)
theorem Rps.back {T : List (Addr × PySem.Str)} {S : Addr → Prop} {H0 H1 H : Hp} {vs : List V} {ds : List PyData} (h : Rps (Nw H1) H vs ds) (f : Fr T S H0 H1) : Rps (Nw H0) H vs ds := h.mono fun _ n => Nw.back f n
theorem Rp.back {T : List (Addr × PySem.Str)} {S : Addr → Prop} {H0 H1 H : Hp} {v : V} {d : PyData} (h : Rp (Nw H1) H v d) (f : Fr T S H0 H1) : Rp (Nw H0) H v d := h.mono fun _ n => Nw.back f n
/-- new things stay new and as they are while what was there before is written -/
theorem Rp.keepNw {T : List (Addr × PySem.Str)} {S : Addr → Prop} {H0 H H1 : Hp} {v : V} {d : PyData} (h : Rp (Nw H0) H v d) (f : Fr T S H H1) (hS : ∀ b, S b → ∃ o, H0 b = some o ∧ NT o) : Rp (Nw H0) H1 v d :=
  h.fr f fun a n s => by
    obtain ⟨o, e, t⟩ := hS a s
    exact n o e t
theorem take_snoc {α : Type} {l : List α} {i : Nat} {x : α} (h : l[i]? = some x) : l.take (i + 1) = l.take i ++ [x] := by
  rw [List.take_succ, h]
  rfl
theorem lc_copied {T : List (Addr × PySem.Str)} {n : Nat} {J : It} {G : Hp → Prop} {A : Addr → Prop} {H1 : Hp} {xs : List V} {ds : List PyData} {σ : L2.St} {i3 : Nat} {Q : VK} (w : Walk J xs.length G (YAt xs)) (hG : ∀ H2, Fr T NoA H1 H2 → G H2) (hr : Rps A H1 xs ds) (fs : fits ds = true) (hlen : xs.length ≤ 10000)
    (hd : PyData.depthAll ds < n) (h1 : ∀ z : V, wipe ((wipe σ [i3]).set i3 (some z)) [i3] = wipe σ [i3]) (h2 : ∀ z : V, ((wipe σ [i3]).set i3 (some z))[i3]? = some (some z)) (q : ∀ D ys H2, Fr T NoA H1 H2 → Nw H1 D → H2 D = some (.lst ys) → Rps (Nw H1) H2 ys ds → Q (.ref D) H2) :
    LcGo J (gName i3) (fun _ H Q => Q true H) (tCall (sp_copied T n) [] E0 (tCons (tVar i3) tNil)) [i3] σ H1 Q := by
  have hl := Rps.length hr
  refine LcGo.mkD (T := T) (S := NoA) w (fun D i acc H2 => Rps (fun b => Nw H1 b ∧ b ≠ D) H2 acc (ds.take i)) (by omega) (fun _ h => h.elim) hG (fun _ _ _ _ => .nil) ?_ ?_
  · rintro D i x acc H2 H3 Yes No hD hi hal f hDa hP ⟨rfl, hx⟩ yes no
    obtain ⟨d, hd1, hrd⟩ := Rps.get hr hx
    refine ⟨h1 x, ?_⟩
    show (if true = true then _ else _)
    rw [if_pos rfl]
    refine ⟨_, h2 x, A, x, d, rfl, hrd.fr f (fun _ _ z => z), fits_get fs hd1, Nat.lt_of_le_of_lt (depth_get hd1) hd, fun u H4 f4 hu => ?_⟩
    refine yes u H4 f4 fun H5 f5 => ?_
    rw [take_snoc hd1]
    have hu2 : Rp (fun b => Nw H1 b ∧ b ≠ D) H4 u d := hu.mono fun b nb => ⟨Nw.back f nb, nb.ne hDa ntL⟩
    have hP4 := hP.fr f4 (fun _ _ z => z)
    exact (hP4.snoc hu2).fr f5 fun b hb => hb.2
  · intro D acc H2 hD f hDa hP
    rw [hl, List.take_length] at hP
    exact q D acc H2 f (Nw.of hD) hDa (hP.mono fun _ z => z.1)
theorem isB_seq {d : PyData} (h : fit d = true) : isB d "dict" = false := by cases d <;> first | rfl | simp [fit] at h
theorem hp_copied {T : List (Addr × PySem.Str)} {K : PySem.W.Frag} {n : Nat} : ∀ vs H Q E, sp_copied T (n + 1) vs H Q E → t_law_copied K (sp_copied T n) { nx := fun _ H1 => Q .non H1, rt := Q } (start N_law_copied vs) H := by
  rintro vs H Q E ⟨A, v, d, rfl, hv, ft, hdp, q⟩
  unfold t_law_copied
  refine sq_ ?_
  walk_at "wp"
  refine isi_ hv ⟨_, rfl, ?_⟩
  rw [isB_seq ft, if_neg (by simp)]
  refine sq_ ?_
  walk_at "wp"
  intro tp htp
  have f1 : Fr T NoA H (upd H tp (.tup [.ty "list", .ty "tuple"])) := Fr.new htp
  refine isiT_ (hv.fr f1 fun _ _ z => z) upd_same ⟨_, rfl, ?_⟩
  generalize upd H tp (.tup [.ty "list", .ty "tuple"]) = H1 at f1 ⊢
  have hv1 := hv.fr f1 fun _ _ z => z
  cases hv with
  | @lst a xs ds ha hx hr =>
    rw [if_neg (by show ¬ (true || _) = false; simp)]
    have hx1 := f1.keep _ _ (fun z => z) hx ntL
    have hr1 := hr.fr f1 fun _ _ z => z
    simp only [fit, Bool.and_eq_true, decide_eq_true_eq] at ft
    have hl := Rps.length hr
    simp only [PyData.depth] at hdp
    refine sq_ ?_
    walk_at "wp"
    refine .inl ⟨⟨xs, SqL.of hx1⟩, ?_⟩
    refine lc_copied walk_list (fun H2 f => SqL.of (f.keep _ _ (fun z => z) hx1 ntL)) hr1 ft.2 (by omega) (by omega) (fun _ => rfl) (fun _ => rfl) fun D ys H2 f2 nD hD hys => ?_
    refine isi_ (hv1.fr f2 fun _ _ z => z) ?_
    refine ⟨_, rfl, ?_⟩
    rw [if_pos (show isB (.list ds) "list" = true from rfl)]
    exact q _ H2 (f1.trans f2) (.lst (Nw.back f1 nD) hD (hys.back f1))
  | @tup a xs ds ha hx hr =>
    rw [if_neg (by show ¬ (_ || true) = false; simp)]
    have hx1 := f1.keep _ _ (fun z => z) hx ntT
    have hr1 := hr.fr f1 fun _ _ z => z
    simp only [fit, Bool.and_eq_true, decide_eq_true_eq] at ft
    have hl := Rps.length hr
    simp only [PyData.depth] at hdp
    refine sq_ ?_
    walk_at "wp"
    refine .inr ⟨⟨xs, SqT.of hx1⟩, ?_⟩
    refine lc_copied walk_tup (fun H2 f => SqT.of (f.keep _ _ (fun z => z) hx1 ntT)) hr1 ft.2 (by omega) (by omega) (fun _ => rfl) (fun _ => rfl) fun D ys H2 f2 nD hD hys => ?_
    refine isi_ (hv1.fr f2 fun _ _ z => z) ?_
    refine ⟨_, rfl, ?_⟩
    rw [if_neg (show ¬ isB (.tuple ds) "list" = true by simp [isB, tyN])]
    refine ⟨D, ys, rfl, .inl ⟨SqL.of hD, fun l hl => ?_⟩⟩
    have f3 := f1.trans (f2.trans (Fr.new (o := .tup ys) hl))
    exact q _ _ f3 (.tup (Nw.back (f1.trans f2) (Nw.of hl)) upd_same ((hys.back f1).fr (Fr.new (T := T) (S := NoA) hl) fun _ _ z => z))
  | non => exact q _ H1 f1 .non
  | bl b => exact q _ H1 f1 (.bl b)
  | int i => exact q _ H1 f1 (.int i)
  | str z => exact q _ H1 f1 (.str z)
  | dic _ _ => simp [fit] at ft
end Lo
set_option Elab.async false
set_option linter.all false
set_option maxRecDepth 100000
set_option maxHeartbeats 4000000
namespace Lo
open PySem PySem.Spec PyProof.Rows L2
open LamX (Tabs TabS ExtN CodeO)
local macro_rules | `(tactic| walk_at "wp") => `(tactic| simp only [tLc_eq, tFor_eq, tDc_eq, iList, iTup, iStr, iRng1, iEnum, iEnumU, RZ.iZipA, iKeys, tLk, tSortLw, Er_thing.tRaise, Er_thing.tMk, Er_index.tRaise, Er_index.tMk, rEq_int, rNe_int, rEq_str, rNe_str, rEq_bl, rNe_bl, sl0, sl1, sl2, sl3, sl4, sl5, sl6, sl8, tAsg, gName, tVar, tC, tOp, tCons, tNil, tRet, tDrop, tIfS, tTest, tB, tNot, tAnd, tOr, tAndV, tOrV, tNotV, tIf, tNext, tCall, tCB, tBM, tBM0, tPar, tAug, ipI, rI0, rI, rInt1, gSub, tSl, tNoPart, tPart, tTup, tLst, tM1, rIsN, rNotN, wipe, tRetN, tBreak, tCont, List.getElem?_cons_zero, List.getElem?_cons_succ, List.getElem_cons_zero, List.getElem_cons_succ, List.set_cons_zero, List.set_cons_succ, Option.some.injEq, V.int.injEq, V.ref.injEq, V.str.injEq, V.bl.injEq, List.cons.injEq, exists_eq_left', exists_eq_left, exists_eq_right, exists_eq_right', exists_and_left, exists_and_right, exists_eq, exists_eq', exists_false, exists_prop, true_and, and_true, false_and, and_false, or_false, false_or, and_assoc, reduceCtorEq, List.nil_append, List.cons_append, List.append_nil, List.length_cons, List.length_nil, if_true, if_false, Bool.false_eq_true, Bool.not_true, Bool.not_false, decide_eq_true_eq, Bool.not_eq_true', decide_eq_false_iff_not, ite_true, ite_false, L2.start, N_is_plain, N_need_plain, N_places_in, N_is_in, N_need_words, N_in_order, N_least_plain, N_least_words, N_is_above, N_law_start, N_law_below, N_law_chance, N_law_pick, N_law_mixed, N_law_copied, N_law_same, N_law_loose, N_law_spoilt, N_law_is_once, N_law_apart, N_law_bletters, N_law_blies, N_law_border, N_law_bleast, N_law_bword, N_law_bbad, N_law, List.map_cons, List.map_nil, List.replicate_succ, List.replicate_zero])
local macro_rules | `(tactic| walk_at "isb") => `(tactic| simp only [ib_non_str, ib_non_dict, ib_non_list, ib_non_tuple, ib_non_int, ib_non_bool, ib_bl_str, ib_bl_dict, ib_bl_list, ib_bl_tuple, ib_bl_int, ib_bl_bool, ib_int_str, ib_int_dict, ib_int_list, ib_int_tuple, ib_int_int, ib_int_bool, ib_str_str, ib_str_dict, ib_str_list, ib_str_tuple, ib_str_int, ib_str_bool, ib_lst_str, ib_lst_dict, ib_lst_list, ib_lst_tuple, ib_lst_int, ib_lst_bool, ib_tup_str, ib_tup_dict, ib_tup_list, ib_tup_tuple, ib_tup_int, ib_tup_bool, ib_dic_str, ib_dic_dict, ib_dic_list, ib_dic_tuple, ib_dic_int, ib_dic_bool, Bool.true_or, Bool.or_true, Bool.or_false, Bool.false_or, Bool.or_self, if_true, if_false, ite_true, ite_false, Bool.not_true, Bool.not_false, Bool.false_eq_true, decide_true, decide_false, reduceCtorEq, exists_eq_left', exists_eq_left, V.bl.injEq, rNe_bl, rEq_bl, eq_self, if_true, if_false, List.length_replicate])
/-! ### equal things -/
def sp_same (T : List (Addr × PySem.Str)) (n : Nat) : Sp := fun vs H Q _ => ∃ (A B : Addr → Prop) (v u : V) (d : PyData), vs = [v, u] ∧ Rp A H v d ∧ Rp B H u d ∧ fit d = true ∧ d.depth < n ∧ ∀ H', Fr T NoA H H' → Q (.bl true) H'
theorem zipLc {T : List (Addr × PySem.Str)} {K : PySem.W.Frag} {n : Nat} {J : It} {G : Hp → Prop} {A B : Addr → Prop} {H1 : Hp} {xs ys : List V} {ds : List PyData} {σ : L2.St} {Q : VK} {v0 v1 : V} (hσ : σ = [some v0, some v1, none, none]) (w : Walk J ds.length G (YPair (fun i => xs[i]?) (fun i => ys[i]?))) (hG : ∀ H2, Fr T NoA H1 H2 → G H2)
    (hx : Rps A H1 xs ds) (hy : Rps B H1 ys ds) (fs : fits ds = true) (hlen : ds.length ≤ 10000) (hd : PyData.depthAll ds < n) (q : ∀ D H2, Fr T NoA H1 H2 → Nw H1 D → H2 D = some (.lst ((List.replicate ds.length true).map V.bl)) → Q (.ref D) H2) :
    LcGo J (gTup K 2 (gCons (gName 2) (gCons (gName 3) (gNil)))) (fun _ H Q => Q true H) (tCall (sp_same T n) [] E0 (tCons (tVar 2) (tCons (tVar 3) tNil))) [2, 3] σ H1 Q := by
  subst hσ
  refine LcGo.mk (T := T) (S := NoA) w (fun i acc H2 => acc = (List.replicate i true).map V.bl) (by omega) (fun _ h => h.elim) hG (fun _ _ => rfl) ?_ ?_
  · rintro D i x acc H2 H3 Yes No hD hi hal f hDa hP ⟨t, a, b, rfl, ht, rfl, ha, hb⟩ yes no
    obtain ⟨d, hd1, hrd⟩ := Rps.get hx ha
    obtain ⟨d2, hd2, hrd2⟩ := Rps.get hy hb
    rw [hd1] at hd2
    cases hd2
    refine gTup2_ upd_same ?_
    refine ⟨rfl, ?_⟩
    show (if true = true then _ else _)
    rw [if_pos rfl]
    have f3 : Fr T NoA H2 (upd H2 t (.tup [a, b])) := Fr.new ht
    refine ⟨_, rfl, _, rfl, A, B, a, b, d, rfl, (hrd.fr f (fun _ _ z => z)).fr f3 (fun _ _ z => z), (hrd2.fr f (fun _ _ z => z)).fr f3 (fun _ _ z => z), fits_get fs hd1, Nat.lt_of_le_of_lt (depth_get hd1) hd, fun H4 f4 => ?_⟩
    refine yes _ H4 (f3.trans f4) fun H5 f5 => ?_
    rw [hP, List.replicate_succ', List.map_append]
    rfl
  · intro D acc H2 hD f hDa hP
    rw [hP] at hDa
    exact q D H2 f (Nw.of hD) hDa
theorem all_ {K : PySem.W.Frag} {p : Addr} {n : Nat} {H : Hp} {Q : VK} (h : H p = some (.lst ((List.replicate n true).map V.bl))) (q : Q (.bl true) H) : rAll K [.ref p] H Q := by
  refine ⟨p, List.replicate n true, rfl, SqL.of h, ?_⟩
  have e : (List.replicate n true).all id = true := by simp
  rw [e]
  exact q
theorem walk_zipT {K : PySem.W.Frag} {a b : Addr} {xs ys : List V} {n : Nat} (hn : n = min xs.length ys.length) : Walk (RZ.ItzT K a b) n (fun H => SqT K H a xs ∧ SqT K H b ys) (YPair (fun i => xs[i]?) (fun i => ys[i]?)) := by
  subst hn
  refine ⟨fun i _ hi q => ?_, fun _ q => ⟨xs, ys, q.1, q.2, by omega⟩, fun i H v H' _ q y => ?_⟩
  · exact ⟨xs, ys, xs[i]'(by omega), ys[i]'(by omega), q.1, q.2, List.getElem?_eq_getElem _, List.getElem?_eq_getElem _⟩
  · obtain ⟨t, x, z, g1, g2, g3, g4, g5⟩ := y
    exact ⟨t, x, z, g1, g2, g3, g4 xs q.1, g5 ys q.2⟩
theorem hp_same {T : List (Addr × PySem.Str)} {K : PySem.W.Frag} {n : Nat} : ∀ vs H Q E, sp_same T (n + 1) vs H Q E → t_law_same K (sp_same T n) { nx := fun _ H1 => Q .non H1, rt := Q } (start N_law_same vs) H := by
  rintro vs H Q E ⟨A, B, v, u, d, rfl, hv, hu, ft, hdp, q⟩
  unfold t_law_same
  refine sq_ ?_
  walk_at "wp"
  intro tp htp
  have f1 : Fr T NoA H (upd H tp (.tup [.ty "list", .ty "tuple"])) := Fr.new htp
  refine isiT_ (hu.fr f1 fun _ _ z => z) upd_same ⟨_, rfl, ?_⟩
  generalize upd H tp (.tup [.ty "list", .ty "tuple"]) = H1 at f1 ⊢
  have hv1 := hv.fr f1 fun _ _ z => z
  have hu1 := hu.fr f1 fun _ _ z => z
  have q1 : ∀ H', Fr T NoA H1 H' → Q (.bl true) H' := fun H' f => q H' (f1.trans f)
  clear hv hu q htp f1
  cases hv1 with
  | @lst a xs ds ha hx hr =>
    cases hu1 with
    | @lst b ys _ hb hy hs =>
      walk_at "isb"
      simp only [fit, Bool.and_eq_true, decide_eq_true_eq] at ft
      have hl := Rps.length hr
      have hl2 := Rps.length hs
      simp only [PyData.depth] at hdp
      refine sq_ ?_
      walk_at "wp"
      refine isi_ (.lst ha hx hr) (isi_ (.lst hb hy hs) ?_)
      walk_at "isb"
      refine isi_ (.lst ha hx hr) (isi_ (.lst hb hy hs) ?_)
      walk_at "isb"
      refine len_ hx (len_ hy ?_)
      rw [hl, hl2, rEq_int]
      refine ⟨_, rfl, ?_⟩
      rw [if_pos (by simp)]
      refine ⟨xs, ys, .inl ⟨SqL.of hx, SqL.of hy, ?_⟩⟩
      refine zipLc rfl (walk_zip (by omega)) (fun H2 f => ⟨SqL.of (f.keep _ _ (fun z => z) hx ntL), SqL.of (f.keep _ _ (fun z => z) hy ntL)⟩) hr hs ft.2 (by omega) (by omega) fun D H2 f nD hD => ?_
      exact all_ hD (q1 H2 f)
  | @tup a xs ds ha hx hr =>
    cases hu1 with
    | @tup b ys _ hb hy hs =>
      walk_at "isb"
      simp only [fit, Bool.and_eq_true, decide_eq_true_eq] at ft
      have hl := Rps.length hr
      have hl2 := Rps.length hs
      simp only [PyData.depth] at hdp
      refine sq_ ?_
      walk_at "wp"
      refine isi_ (.tup ha hx hr) (isi_ (.tup hb hy hs) ?_)
      walk_at "isb"
      refine isi_ (.tup ha hx hr) (isi_ (.tup hb hy hs) ?_)
      walk_at "isb"
      refine lenT_ hx (lenT_ hy ?_)
      rw [hl, hl2, rEq_int]
      refine ⟨_, rfl, ?_⟩
      rw [if_pos (by simp)]
      refine ⟨xs, ys, .inr ⟨SqT.of hx, SqT.of hy, ?_⟩⟩
      refine zipLc rfl (walk_zipT (by omega)) (fun H2 f => ⟨SqT.of (f.keep _ _ (fun z => z) hx ntT), SqT.of (f.keep _ _ (fun z => z) hy ntT)⟩) hr hs ft.2 (by omega) (by omega) fun D H2 f nD hD => ?_
      exact all_ hD (q1 H2 f)
  | non =>
    cases hu1
    walk_at "isb"
    refine sq_ ?_
    walk_at "wp"
    refine isi_ (.non (A := NoA)) ?_
    walk_at "isb"
    refine sq_ ?_
    walk_at "wp"
    refine isi_ (.non (A := NoA)) ?_
    walk_at "isb"
    refine sq_ ?_
    walk_at "wp"
    exact q1 H1 Fr.refl
  | bl b =>
    cases hu1
    walk_at "isb"
    refine sq_ ?_
    walk_at "wp"
    refine isi_ (.bl (A := NoA) b) ?_
    walk_at "isb"
    refine sq_ ?_
    walk_at "wp"
    refine isi_ (.bl (A := NoA) b) ?_
    walk_at "isb"
    refine isi_ (.bl (A := NoA) b) ?_
    walk_at "isb"
    refine isi_ (.bl (A := NoA) b) (isi_ (.bl (A := NoA) b) ?_)
    walk_at "isb"
    exact q1 H1 Fr.refl
  | int i =>
    cases hu1
    walk_at "isb"
    refine sq_ ?_
    walk_at "wp"
    refine isi_ (.int (A := NoA) i) ?_
    walk_at "isb"
    refine sq_ ?_
    walk_at "wp"
    refine isi_ (.int (A := NoA) i) ?_
    walk_at "isb"
    refine isi_ (.int (A := NoA) i) ?_
    walk_at "isb"
    refine isi_ (.int (A := NoA) i) (isi_ (.int (A := NoA) i) ?_)
    walk_at "isb"
    exact q1 H1 Fr.refl
  | str z =>
    cases hu1
    walk_at "isb"
    refine sq_ ?_
    walk_at "wp"
    refine isi_ (.str (A := NoA) z) ?_
    walk_at "isb"
    refine sq_ ?_
    walk_at "wp"
    refine isi_ (.str (A := NoA) z) ?_
    walk_at "isb"
    refine sq_ ?_
    walk_at "wp"
    refine sq_ ?_
    walk_at "wp"
    refine isi_ (.str (A := NoA) z) ?_
    walk_at "isb"
    refine isi_ (.str (A := NoA) z) ?_
    walk_at "isb"
    exact q1 H1 Fr.refl
  | dic _ _ => simp [fit] at ft
end Lo
set_option Elab.async false
set_option linter.all false
set_option maxRecDepth 100000
set_option maxHeartbeats 4000000
namespace Lo
open PySem PySem.Spec PyProof.Rows L2
open LamX (Tabs TabS ExtN CodeO)
local macro_rules | `(tactic| walk_at "wp") => `(tactic| simp only [tLc_eq, tFor_eq, tDc_eq, iList, iTup, iStr, iRng1, iEnum, iEnumU, RZ.iZipA, iKeys, tLk, tSortLw, Er_thing.tRaise, Er_thing.tMk, Er_index.tRaise, Er_index.tMk, rEq_int, rNe_int, rEq_str, rNe_str, rEq_bl, rNe_bl, sl0, sl1, sl2, sl3, sl4, sl5, sl6, sl8, tAsg, gName, tVar, tC, tOp, tCons, tNil, tRet, tDrop, tIfS, tTest, tB, tNot, tAnd, tOr, tAndV, tOrV, tNotV, tIf, tNext, tCall, tCB, tBM, tBM0, tPar, tAug, ipI, rI0, rI, rInt1, gSub, tSl, tNoPart, tPart, tTup, tLst, tM1, rIsN, rNotN, wipe, tRetN, tBreak, tCont, List.getElem?_cons_zero, List.getElem?_cons_succ, List.getElem_cons_zero, List.getElem_cons_succ, List.set_cons_zero, List.set_cons_succ, Option.some.injEq, V.int.injEq, V.ref.injEq, V.str.injEq, V.bl.injEq, List.cons.injEq, exists_eq_left', exists_eq_left, exists_eq_right, exists_eq_right', exists_and_left, exists_and_right, exists_eq, exists_eq', exists_false, exists_prop, true_and, and_true, false_and, and_false, or_false, false_or, and_assoc, reduceCtorEq, List.nil_append, List.cons_append, List.append_nil, List.length_cons, List.length_nil, if_true, if_false, Bool.false_eq_true, Bool.not_true, Bool.not_false, decide_eq_true_eq, Bool.not_eq_true', decide_eq_false_iff_not, ite_true, ite_false, L2.start, N_is_plain, N_need_plain, N_places_in, N_is_in, N_need_words, N_in_order, N_least_plain, N_least_words, N_is_above, N_law_start, N_law_below, N_law_chance, N_law_pick, N_law_mixed, N_law_copied, N_law_same, N_law_loose, N_law_spoilt, N_law_is_once, N_law_apart, N_law_bletters, N_law_blies, N_law_border, N_law_bleast, N_law_bword, N_law_bbad, N_law, List.map_cons, List.map_nil, List.replicate_succ, List.replicate_zero])
local macro_rules | `(tactic| walk_at "isb") => `(tactic| simp only [ib_non_str, ib_non_dict, ib_non_list, ib_non_tuple, ib_non_int, ib_non_bool, ib_bl_str, ib_bl_dict, ib_bl_list, ib_bl_tuple, ib_bl_int, ib_bl_bool, ib_int_str, ib_int_dict, ib_int_list, ib_int_tuple, ib_int_int, ib_int_bool, ib_str_str, ib_str_dict, ib_str_list, ib_str_tuple, ib_str_int, ib_str_bool, ib_lst_str, ib_lst_dict, ib_lst_list, ib_lst_tuple, ib_lst_int, ib_lst_bool, ib_tup_str, ib_tup_dict, ib_tup_list, ib_tup_tuple, ib_tup_int, ib_tup_bool, ib_dic_str, ib_dic_dict, ib_dic_list, ib_dic_tuple, ib_dic_int, ib_dic_bool, Bool.true_or, Bool.or_true, Bool.or_false, Bool.false_or, Bool.or_self, if_true, if_false, ite_true, ite_false, Bool.not_true, Bool.not_false, Bool.false_eq_true, decide_true, decide_false, reduceCtorEq, exists_eq_left', exists_eq_left, V.bl.injEq, rNe_bl, rEq_bl, eq_self, if_true, if_false, List.length_replicate])
/-! ### things changed throughout -/
mutual
def spoil : PyData → PyData
  | .list ds => .list (spoils ds ++ [.str "LATE"])
  | .tuple ds => .tuple (spoils ds)
  | d => d
def spoils : List PyData → List PyData
  | [] => []
  | d :: ds => spoil d :: spoils ds
end
mutual
inductive Tp (H : Hp) : V → PyData → (Addr → Prop) → Prop
  | non : Tp H .non .none NoA
  | bl (b : Bool) : Tp H (.bl b) (.bool b) NoA
  | int (i : Int) : Tp H (.int i) (.int i) NoA
  | str (x : PySem.Str) : Tp H (.str x) (.str x) NoA
  | lst {a : Addr} {xs : List V} {ds : List PyData} {F : Addr → Prop} : H a = some (.lst xs) → Tps H xs ds F → ¬ F a → Tp H (.ref a) (.list ds) (fun b => b = a ∨ F b)
  | tup {a : Addr} {xs : List V} {ds : List PyData} {F : Addr → Prop} : H a = some (.tup xs) → Tps H xs ds F → Tp H (.ref a) (.tuple ds) F
inductive Tps (H : Hp) : List V → List PyData → (Addr → Prop) → Prop
  | nil : Tps H [] [] NoA
  | cons {v : V} {vs : List V} {d : PyData} {ds : List PyData} {F G : Addr → Prop} : Tp H v d F → Tps H vs ds G → (∀ b, F b → ¬ G b) → Tps H (v :: vs) (d :: ds) (fun b => F b ∨ G b)
end
section
variable {T : List (Addr × PySem.Str)} {H H1 : Hp} {S : Addr → Prop}
mutual
theorem Tp.lists : ∀ {d : PyData} {v : V} {F : Addr → Prop}, Tp H v d F → ∀ b, F b → ∃ xs, H b = some (.lst xs)
  | .none, _, _, h, b, hb => by cases h; exact hb.elim
  | .bool _, _, _, h, b, hb => by cases h; exact hb.elim
  | .int _, _, _, h, b, hb => by cases h; exact hb.elim
  | .str _, _, _, h, b, hb => by cases h; exact hb.elim
  | .list ds, _, _, h, b, hb => by
    cases h with
    | lst hx hr hn =>
      rcases hb with rfl | hb
      · exact ⟨_, hx⟩
      · exact Tps.lists hr b hb
  | .tuple ds, _, _, h, b, hb => by
    cases h with
    | tup hx hr => exact Tps.lists hr b hb
  | .dict _, _, _, h, b, hb => by cases h
theorem Tps.lists : ∀ {ds : List PyData} {vs : List V} {F : Addr → Prop}, Tps H vs ds F → ∀ b, F b → ∃ xs, H b = some (.lst xs)
  | [], _, _, h, b, hb => by cases h; exact hb.elim
  | d :: ds, _, _, h, b, hb => by
    cases h with
    | cons h1 h2 hd =>
      rcases hb with hb | hb
      · exact Tp.lists h1 b hb
      · exact Tps.lists h2 b hb
end
mutual
theorem Tp.fr (e : Fr T S H H1) (hS : ∀ b, S b → ∃ xs, H b = some (.lst xs)) : ∀ {d : PyData} {v : V} {F : Addr → Prop}, Tp H v d F → (∀ b, F b → ¬ S b) → Tp H1 v d F
  | .none, _, _, h, _ => by cases h; exact .non
  | .bool b, _, _, h, _ => by cases h; exact .bl b
  | .int i, _, _, h, _ => by cases h; exact .int i
  | .str x, _, _, h, _ => by cases h; exact .str x
  | .list ds, _, _, h, hf => by
    cases h with
    | lst hx hr hn => exact .lst (e.keep _ _ (hf _ (.inl rfl)) hx ntL) (Tps.fr e hS hr fun b hb => hf b (.inr hb)) hn
  | .tuple ds, _, _, h, hf => by
    cases h with
    | tup hx hr => exact .tup (e.keep _ _ (fun s => by obtain ⟨xs, hs⟩ := hS _ s; rw [hx] at hs; cases hs) hx ntT) (Tps.fr e hS hr hf)
  | .dict _, _, _, h, _ => by cases h
theorem Tps.fr (e : Fr T S H H1) (hS : ∀ b, S b → ∃ xs, H b = some (.lst xs)) : ∀ {ds : List PyData} {vs : List V} {F : Addr → Prop}, Tps H vs ds F → (∀ b, F b → ¬ S b) → Tps H1 vs ds F
  | [], _, _, h, _ => by cases h; exact .nil
  | d :: ds, _, _, h, hf => by
    cases h with
    | cons h1 h2 hd => exact .cons (Tp.fr e hS h1 fun b hb => hf b (.inl hb)) (Tps.fr e hS h2 fun b hb => hf b (.inr hb)) hd
end
theorem Tps.snoc : ∀ {ds : List PyData} {vs : List V} {F G : Addr → Prop} {v : V} {d : PyData}, Tps H vs ds F → Tp H v d G → (∀ b, F b → ¬ G b) → ∃ F', Tps H (vs ++ [v]) (ds ++ [d]) F' ∧ ∀ b, F' b ↔ F b ∨ G b
  | [], _, _, G, v, d, h, g, _ => by
    cases h
    exact ⟨_, .cons g .nil fun _ _ z => z, fun b => by simp⟩
  | e :: ds, _, _, G, v, d, h, g, hd => by
    cases h with
    | cons h1 h2 h3 =>
      obtain ⟨F', hF, hb⟩ := Tps.snoc h2 g fun b hb => hd b (.inr hb)
      refine ⟨_, .cons h1 hF fun b hb1 hb2 => ?_, fun b => ?_⟩
      · rcases (hb b).mp hb2 with z | z
        · exact h3 b hb1 z
        · exact hd b (.inl hb1) z
      · constructor
        · rintro (z | z)
          · exact .inl (.inl z)
          · rcases (hb b).mp z with z | z
            · exact .inl (.inr z)
            · exact .inr z
        · rintro ((z | z) | z)
          · exact .inl z
          · exact .inr ((hb b).mpr (.inl z))
          · exact .inr ((hb b).mpr (.inr z))
theorem Tps.length : ∀ {ds : List PyData} {vs : List V} {F : Addr → Prop}, Tps H vs ds F → vs.length = ds.length
  | [], _, _, h => by cases h; rfl
  | _ :: _, _, _, h => by
    cases h with
    | cons _ h2 _ => simp [Tps.length h2]
mutual
theorem Tp.rp : ∀ {d : PyData} {v : V} {F : Addr → Prop}, Tp H v d F → Rp (fun _ => True) H v d
  | .none, _, _, h => by cases h; exact .non
  | .bool b, _, _, h => by cases h; exact .bl b
  | .int i, _, _, h => by cases h; exact .int i
  | .str x, _, _, h => by cases h; exact .str x
  | .list ds, _, _, h => by
    cases h with
    | lst hx hr hn => exact .lst trivial hx (Tps.rp hr)
  | .tuple ds, _, _, h => by
    cases h with
    | tup hx hr => exact .tup trivial hx (Tps.rp hr)
  | .dict _, _, _, h => by cases h
theorem Tps.rp : ∀ {ds : List PyData} {vs : List V} {F : Addr → Prop}, Tps H vs ds F → Rps (fun _ => True) H vs ds
  | [], _, _, h => by cases h; exact .nil
  | d :: ds, _, _, h => by
    cases h with
    | cons h1 h2 hd => exact .cons (Tp.rp h1) (Tps.rp h2)
end
end
theorem spoils_app : ∀ (ds es : List PyData), spoils (ds ++ es) = spoils ds ++ spoils es
  | [], es => rfl
  | d :: ds, es => by simp [spoils, spoils_app ds es]
theorem spoils_len : ∀ (ds : List PyData), (spoils ds).length = ds.length
  | [] => rfl
  | d :: ds => by simp [spoils, spoils_len ds]
def sp_spoilt (T : List (Addr × PySem.Str)) (n : Nat) : Sp := fun vs H Q _ => ∃ (v : V) (d : PyData) (F : Addr → Prop), vs = [v] ∧ Tp H v d F ∧ fit d = true ∧ d.depth < n ∧ ∀ H', Fr T F H H' → Tp H' v (spoil d) F → Q .non H'
def Pv_spoilt (T : List (Addr × PySem.Str)) (v : V) (xs : List V) (ds : List PyData) (F : Addr → Prop) (H : Hp) : Nat → L2.St → Hp → Prop := fun i σ H1 => ∃ (x1 x2 : Option V) (F1 F2 : Addr → Prop), σ = [some v, x1, x2] ∧ Fr T F H H1 ∧ Tps H1 (xs.take i) (spoils (ds.take i)) F1 ∧ Tps H1 (xs.drop i) (ds.drop i) F2 ∧
  (∀ b, F1 b → ¬ F2 b) ∧ ∀ b, F b ↔ F1 b ∨ F2 b
theorem loop_spoilt {T : List (Addr × PySem.Str)} {n : Nat} {J : It} {G : Hp → Prop} {H H1 : Hp} {xs : List V} {ds : List PyData} {F : Addr → Prop} {v : V} {D : Ends} (w : Walk J xs.length G (YAt xs)) (hG : ∀ H2, Fr T F H H2 → G H2) (f1 : Fr T F H H1) (hr : Tps H1 xs ds F) (fs : fits ds = true) (hd : PyData.depthAll ds < n)
    (q : ∀ x1 x2 H2, Fr T F H H2 → Tps H2 xs (spoils ds) F → D.nx [some v, x1, x2] H2) : ForGo J (gName 2) (tDrop (tCall (sp_spoilt T n) [] E0 (tCons (tVar 2) tNil))) D [some v, none, none] H1 := by
  have hl := Tps.length hr
  refine ForGo.mk w (Pv_spoilt T v xs ds F H) ⟨none, none, NoA, F, rfl, f1, .nil, hr, fun _ z => z.elim, fun b => ⟨.inr, fun z => z.elim (fun z => z.elim) id⟩⟩ (fun i σ H2 _ ⟨_, _, _, _, _, f, _⟩ => hG H2 f) ?_ ?_
  · rintro i x σ H2 H3 hi ⟨x1, x2, F1, F2, rfl, f, h1, h2, hdis, hF⟩ ⟨rfl, hx⟩
    have hi2 : i < ds.length := by omega
    obtain ⟨e1, e2⟩ := List.getElem?_eq_some_iff.mp hx
    rw [List.drop_eq_getElem_cons e1, List.drop_eq_getElem_cons hi2, e2] at h2
    cases h2 with
    | @cons _ _ _ _ Fx G2 hx1 hx2 hxd =>
      refine ⟨x, rfl, x, ds[i], Fx, rfl, hx1, fits_get fs (List.getElem?_eq_getElem hi2), Nat.lt_of_le_of_lt (depth_get (List.getElem?_eq_getElem hi2)) hd, fun H4 f4 hx4 => ?_⟩
      have h14 := h1.fr f4 hx1.lists fun b hb z => hdis b hb (.inl z)
      have h24 := hx2.fr f4 hx1.lists fun b hb z => hxd b z hb
      obtain ⟨F', hF', hb'⟩ := h14.snoc hx4 fun b hb z => hdis b hb (.inl z)
      refine ⟨_, _, F', G2, rfl, f.trans (f4.mono fun b z => (hF b).mpr (.inr (.inl z))), ?_, h24, fun b hb z => ?_, fun b => ?_⟩
      · rw [take_snoc hx, take_snoc (List.getElem?_eq_getElem hi2), spoils_app]
        exact hF'
      · rcases (hb' b).mp hb with hb | hb
        · exact hdis b hb (.inr z)
        · exact hxd b hb z
      · rw [hF, hb']
        constructor
        · rintro (z | z | z)
          · exact .inl (.inl z)
          · exact .inl (.inr z)
          · exact .inr z
        · rintro ((z | z) | z)
          · exact .inl z
          · exact .inr (.inl z)
          · exact .inr (.inr z)
  · rintro σ H2 ⟨x1, x2, F1, F2, rfl, f, h1, h2, hdis, hF⟩
    rw [List.take_length, hl, List.take_length] at h1
    rw [List.drop_length, hl, List.drop_length] at h2
    cases h2
    have e : F1 = F := funext fun b => propext ⟨fun z => (hF b).mpr (.inl z), fun z => ((hF b).mp z).elim id fun z => z.elim⟩
    rw [e] at h1
    exact q x1 x2 H2 f h1
theorem hp_spoilt {T : List (Addr × PySem.Str)} {K : PySem.W.Frag} {n : Nat} : ∀ vs H Q E, sp_spoilt T (n + 1) vs H Q E → t_law_spoilt K (sp_spoilt T n) { nx := fun _ H1 => Q .non H1, rt := Q } (start N_law_spoilt vs) H := by
  rintro vs H Q E ⟨v, d, F, rfl, hv, ft, hdp, q⟩
  unfold t_law_spoilt
  refine sq_ ?_
  walk_at "wp"
  refine isi_ hv.rp ⟨_, rfl, ?_⟩
  rw [isB_seq ft, if_neg (by simp)]
  refine sq_ ?_
  walk_at "wp"
  intro tp htp
  have f1 : Fr T NoA H (upd H tp (.tup [.ty "list", .ty "tuple"])) := Fr.new htp
  have hv1 : Tp (upd H tp (.tup [.ty "list", .ty "tuple"])) v d F := hv.fr f1 (fun _ z => z.elim) fun _ _ z => z
  refine isiT_ hv1.rp upd_same ⟨_, rfl, ?_⟩
  generalize upd H tp (.tup [.ty "list", .ty "tuple"]) = H1 at f1 hv1 ⊢
  cases hv1 with
  | @lst a xs ds F hx hr hn =>
    walk_at "isb"
    simp only [fit, Bool.and_eq_true, decide_eq_true_eq] at ft
    simp only [PyData.depth] at hdp
    walk_at "wp"
    refine .inl ⟨⟨xs, SqL.of hx⟩, ?_⟩
    refine loop_spoilt (H := H1) walk_list (fun H2 f => SqL.of (f.keep _ _ hn hx ntL)) Fr.refl hr ft.2 (by omega) fun x1 x2 H2 f2 hs => ?_
    have hx2 := f2.keep _ _ hn hx ntL
    walk_at "wp"
    refine isi_ (.lst (A := fun _ => True) trivial hx2 hs.rp) ⟨_, rfl, ?_⟩
    walk_at "isb"
    have hl := Tps.length hr
    refine ⟨tyL_ hx2, a, xs, .str "LATE", rfl, rfl, hx2, big1_ (by omega), ?_⟩
    have f3 : Fr T (fun b => b = a) H2 (upd H2 a (.lst (xs ++ [.str "LATE"]))) := Fr.refl.mut (.inl rfl) hx2 trivial ntL
    refine q _ ((f1.any.trans (f2.mono fun b z => .inr z)).trans (f3.mono fun b z => .inl z)) ?_
    have hs3 := hs.fr f3 (fun b z => ⟨xs, by rw [z]; exact hx2⟩) fun b hb z => hn (by rw [← show b = a from z]; exact hb)
    obtain ⟨F', hF', hb'⟩ := hs3.snoc (.str "LATE") fun _ _ z => z
    have e : F' = F := funext fun b => propext ((hb' b).trans ⟨fun z => z.elim id fun z => z.elim, .inl⟩)
    rw [e] at hF'
    exact .lst upd_same hF' hn
  | @tup a xs ds F hx hr =>
    walk_at "isb"
    simp only [fit, Bool.and_eq_true, decide_eq_true_eq] at ft
    simp only [PyData.depth] at hdp
    have hn : ¬ F a := fun z => by obtain ⟨ys, hy⟩ := hr.lists a z; rw [hx] at hy; cases hy
    walk_at "wp"
    refine .inr ⟨⟨xs, SqT.of hx⟩, ?_⟩
    refine loop_spoilt (H := H1) walk_tup (fun H2 f => SqT.of (f.keep _ _ hn hx ntT)) Fr.refl hr ft.2 (by omega) fun x1 x2 H2 f2 hs => ?_
    have hx2 := f2.keep _ _ hn hx ntT
    walk_at "wp"
    refine isi_ (.tup (A := fun _ => True) trivial hx2 hs.rp) ⟨_, rfl, ?_⟩
    walk_at "isb"
    exact q _ (f1.any.trans f2) (.tup hx2 hs)
  | non =>
    walk_at "isb"
    refine isi_ (.non (A := NoA)) ⟨_, rfl, ?_⟩
    walk_at "isb"
    exact q _ f1 .non
  | bl b =>
    walk_at "isb"
    refine isi_ (.bl (A := NoA) b) ⟨_, rfl, ?_⟩
    walk_at "isb"
    exact q _ f1 (.bl b)
  | int i =>
    walk_at "isb"
    refine isi_ (.int (A := NoA) i) ⟨_, rfl, ?_⟩
    walk_at "isb"
    exact q _ f1 (.int i)
  | str z =>
    walk_at "isb"
    refine isi_ (.str (A := NoA) z) ⟨_, rfl, ?_⟩
    walk_at "isb"
    exact q _ f1 (.str z)
/-! ### once only -/
mutual
def onceD : PyData → Bool
  | .list ds => ((ds.countP fun z => PyData.eqv z (.str "LATE")) == 1) && onceDs ds
  | .tuple ds => ((ds.countP fun z => PyData.eqv z (.str "LATE")) == 0) && onceDs ds
  | _ => true
def onceDs : List PyData → Bool
  | [] => true
  | d :: ds => onceD d && onceDs ds
end
mutual
def noLate : PyData → Bool
  | .list ds => noLates ds
  | .tuple ds => noLates ds
  | .str z => decide (z ≠ "LATE")
  | _ => true
def noLates : List PyData → Bool
  | [] => true
  | d :: ds => noLate d && noLates ds
end
theorem count_late : ∀ {ds : List PyData}, noLates ds = true → ((spoils ds).countP fun z => PyData.eqv z (.str "LATE")) = 0
  | [], _ => rfl
  | d :: ds, h => by
    simp only [noLates, Bool.and_eq_true] at h
    simp only [spoils, List.countP_cons, count_late h.2]
    cases d <;> simp_all [spoil, PyData.eqv, noLate]
mutual
theorem once_spoil : ∀ {d : PyData}, noLate d = true → onceD (spoil d) = true
  | .list ds, h => by
    simp only [noLate] at h
    simp only [spoil, onceD, List.countP_append, count_late h, once_spoils_app h]
    simp [PyData.eqv]
  | .tuple ds, h => by
    simp only [noLate] at h
    simp only [spoil, onceD, count_late h, once_spoils h]
    rfl
  | .none, _ => rfl
  | .bool _, _ => rfl
  | .int _, _ => rfl
  | .str _, _ => rfl
  | .dict _, _ => rfl
theorem once_spoils : ∀ {ds : List PyData}, noLates ds = true → onceDs (spoils ds) = true
  | [], _ => rfl
  | d :: ds, h => by
    simp only [noLates, Bool.and_eq_true] at h
    simp only [spoils, onceDs, once_spoil h.1, once_spoils h.2, Bool.and_self]
theorem once_spoils_app : ∀ {ds : List PyData}, noLates ds = true → onceDs (spoils ds ++ [.str "LATE"]) = true
  | [], _ => rfl
  | d :: ds, h => by
    simp only [noLates, Bool.and_eq_true] at h
    simp only [spoils, List.cons_append, onceDs, once_spoil h.1, once_spoils_app h.2, Bool.and_self]
end
/-- may be counted in -/
def okC : PyData → Prop
  | .list ds => SeqAt.shaped (.list ds) = true ∧ PyData.plainAll ds = true
  | .tuple ds => SeqAt.shaped (.list ds) = true ∧ PyData.plainAll ds = true
  | _ => True
mutual
def okCr : PyData → Prop
  | .list ds => okC (.list ds) ∧ okCs ds
  | .tuple ds => okC (.list ds) ∧ okCs ds
  | _ => True
def okCs : List PyData → Prop
  | [] => True
  | d :: ds => okCr d ∧ okCs ds
end
theorem okCs_get : ∀ {ds : List PyData} {i : Nat} {d : PyData}, okCs ds → ds[i]? = some d → okCr d
  | [], i, d, _, e => by simp at e
  | a :: ds, 0, d, h, e => by
    simp at e
    subst e
    simp only [okCs] at h
    exact h.1
  | a :: ds, i + 1, d, h, e => by
    simp only [okCs] at h
    exact okCs_get h.2 (by simpa using e)
theorem onceDs_get : ∀ {ds : List PyData} {i : Nat} {d : PyData}, onceDs ds = true → ds[i]? = some d → onceD d = true
  | [], i, d, _, e => by simp at e
  | a :: ds, 0, d, h, e => by
    simp at e
    subst e
    simp only [onceDs, Bool.and_eq_true] at h
    exact h.1
  | a :: ds, i + 1, d, h, e => by
    simp only [onceDs, Bool.and_eq_true] at h
    exact onceDs_get h.2 (by simpa using e)
mutual
theorem fit_noDict : ∀ {d : PyData}, fit d = true → noDict d = true
  | .list ds, h => by
    simp only [fit, Bool.and_eq_true] at h
    simp only [noDict]
    exact fits_noDict h.2
  | .tuple ds, h => by
    simp only [fit, Bool.and_eq_true] at h
    simp only [noDict]
    exact fits_noDict h.2
  | .none, _ => rfl
  | .bool _, _ => rfl
  | .int _, _ => rfl
  | .str _, _ => rfl
  | .dict _, h => by simp [fit] at h
theorem fits_noDict : ∀ {ds : List PyData}, fits ds = true → noDicts ds = true
  | [], _ => rfl
  | d :: ds, h => by
    simp only [fits, Bool.and_eq_true] at h
    simp only [noDicts, fit_noDict h.1, fits_noDict h.2, Bool.and_self]
end
def sp_is_once (T : List (Addr × PySem.Str)) (n : Nat) : Sp := fun vs H Q _ => ∃ (A : Addr → Prop) (v : V) (d : PyData), vs = [v] ∧ Rp A H v d ∧ fit d = true ∧ okCr d ∧ onceD d = true ∧ d.depth < n ∧ ∀ H', Fr T NoA H H' → Q (.bl true) H'
theorem lc_once {T : List (Addr × PySem.Str)} {n : Nat} {J : It} {G : Hp → Prop} {A : Addr → Prop} {H1 : Hp} {xs : List V} {ds : List PyData} {σ : L2.St} {i3 : Nat} {Q : VK} (w : Walk J xs.length G (YAt xs)) (hG : ∀ H2, Fr T NoA H1 H2 → G H2) (hr : Rps A H1 xs ds) (fs : fits ds = true) (oc : okCs ds) (os : onceDs ds = true) (hlen : xs.length ≤ 10000)
    (hd : PyData.depthAll ds < n) (h1 : ∀ z : V, wipe ((wipe σ [i3]).set i3 (some z)) [i3] = wipe σ [i3]) (h2 : ∀ z : V, ((wipe σ [i3]).set i3 (some z))[i3]? = some (some z)) (q : ∀ D H2, Fr T NoA H1 H2 → H2 D = some (.lst ((List.replicate ds.length true).map V.bl)) → Q (.ref D) H2) :
    LcGo J (gName i3) (fun _ H Q => Q true H) (tCall (sp_is_once T n) [] E0 (tCons (tVar i3) tNil)) [i3] σ H1 Q := by
  have hl := Rps.length hr
  refine LcGo.mk (T := T) (S := NoA) w (fun i acc H2 => acc = (List.replicate i true).map V.bl) (by omega) (fun _ h => h.elim) hG (fun _ _ => rfl) ?_ ?_
  · rintro D i x acc H2 H3 Yes No hD hi hal f hDa hP ⟨rfl, hx⟩ yes no
    obtain ⟨d, hd1, hrd⟩ := Rps.get hr hx
    refine ⟨h1 x, ?_⟩
    show (if true = true then _ else _)
    rw [if_pos rfl]
    refine ⟨_, h2 x, A, x, d, rfl, hrd.fr f (fun _ _ z => z), fits_get fs hd1, okCs_get oc hd1, onceDs_get os hd1, Nat.lt_of_le_of_lt (depth_get hd1) hd, fun H4 f4 => ?_⟩
    refine yes _ H4 f4 fun H5 f5 => ?_
    rw [hP, List.replicate_succ', List.map_append]
    rfl
  · intro D acc H2 hD f hDa hP
    rw [hP, hl] at hDa
    exact q D H2 f hDa
theorem count_ {K : PySem.W.Frag} {A : Addr → Prop} {p : Addr} {xs : List V} {ds : List PyData} {H : Hp} {Q : VK} (h : H p = some (.lst xs)) (hr : Rps A H xs ds) (fs : fits ds = true) (oc : okC (.list ds)) (q : Q (.int ((ds.countP fun z => PyData.eqv z (.str "LATE") : Nat) : Int)) H) : rCountD K (.ref p) [.str "LATE"] H Q := by
  refine ⟨p, .str "LATE", .str "LATE", ds, rfl, rfl, .lst (SqL.of h) (Rps.dp ds xs hr (fits_noDict fs)), .str _, oc.1, by decide +kernel, oc.2, by decide +kernel, q⟩
theorem hp_is_once {T : List (Addr × PySem.Str)} {K : PySem.W.Frag} {n : Nat} : ∀ vs H Q E, sp_is_once T (n + 1) vs H Q E → t_law_is_once K (sp_is_once T n) { nx := fun _ H1 => Q .non H1, rt := Q } (start N_law_is_once vs) H := by
  rintro vs H Q E ⟨A, v, d, rfl, hv, ft, oc, od, hdp, q⟩
  unfold t_law_is_once
  refine sq_ ?_
  walk_at "wp"
  refine isi_ hv ⟨_, rfl, ?_⟩
  rw [isB_seq ft, if_neg (by simp)]
  refine sq_ ?_
  walk_at "wp"
  intro tp htp
  have f1 : Fr T NoA H (upd H tp (.tup [.ty "list", .ty "tuple"])) := Fr.new htp
  have hv1 := hv.fr f1 fun _ _ z => z
  refine isiT_ hv1 upd_same ⟨_, rfl, ?_⟩
  generalize upd H tp (.tup [.ty "list", .ty "tuple"]) = H1 at f1 hv1 ⊢
  have q1 : ∀ H', Fr T NoA H1 H' → Q (.bl true) H' := fun H' f => q H' (f1.trans f)
  cases hv1 with
  | @lst a xs ds ha hx hr =>
    walk_at "isb"
    simp only [fit, Bool.and_eq_true, decide_eq_true_eq] at ft
    simp only [PyData.depth] at hdp
    simp only [onceD, Bool.and_eq_true, beq_iff_eq] at od
    have hl := Rps.length hr
    refine sq_ ?_
    walk_at "wp"
    refine isi_ (.lst ha hx hr) ?_
    walk_at "isb"
    walk_at "wp"
    refine listOf_ (.inl hx) fun l hl2 => ⟨tyL_ upd_same, ?_⟩
    have f2 : Fr T NoA H1 (upd H1 l (.lst xs)) := Fr.new hl2
    refine count_ upd_same (hr.fr f2 fun _ _ z => z) ft.2 oc.1 ?_
    rw [od.1]
    rw [show ((1 : Nat) : Int) = 1 from rfl, rEq_int]
    refine ⟨_, rfl, ?_⟩
    rw [if_pos (by simp)]
    have hx2 := f2.keep _ _ (fun z => z) hx ntL
    refine .inl ⟨⟨xs, SqL.of hx2⟩, ?_⟩
    refine lc_once walk_list (fun H2 f => SqL.of (f.keep _ _ (fun z => z) hx2 ntL)) (hr.fr f2 fun _ _ z => z) ft.2 oc.2 od.2 (by omega) (by omega) (fun _ => rfl) (fun _ => rfl) fun D H2 f hD => ?_
    exact all_ hD (q1 H2 (f2.trans f))
  | @tup a xs ds ha hx hr =>
    walk_at "isb"
    simp only [fit, Bool.and_eq_true, decide_eq_true_eq] at ft
    simp only [PyData.depth] at hdp
    simp only [onceD, Bool.and_eq_true, beq_iff_eq] at od
    have hl := Rps.length hr
    refine sq_ ?_
    walk_at "wp"
    refine isi_ (.tup ha hx hr) ?_
    walk_at "isb"
    walk_at "wp"
    refine listOf_ (.inr hx) fun l hl2 => ⟨tyL_ upd_same, ?_⟩
    have f2 : Fr T NoA H1 (upd H1 l (.lst xs)) := Fr.new hl2
    refine count_ upd_same (hr.fr f2 fun _ _ z => z) ft.2 oc.1 ?_
    rw [od.1]
    rw [show ((0 : Nat) : Int) = 0 from rfl, rEq_int]
    refine ⟨_, rfl, ?_⟩
    rw [if_pos (by simp)]
    have hx2 := f2.keep _ _ (fun z => z) hx ntT
    refine .inr ⟨⟨xs, SqT.of hx2⟩, ?_⟩
    refine lc_once walk_tup (fun H2 f => SqT.of (f.keep _ _ (fun z => z) hx2 ntT)) (hr.fr f2 fun _ _ z => z) ft.2 oc.2 od.2 (by omega) (by omega) (fun _ => rfl) (fun _ => rfl) fun D H2 f hD => ?_
    exact all_ hD (q1 H2 (f2.trans f))
  | non =>
    walk_at "isb"
    exact q1 _ Fr.refl
  | bl b =>
    walk_at "isb"
    exact q1 _ Fr.refl
  | int i =>
    walk_at "isb"
    exact q1 _ Fr.refl
  | str z =>
    walk_at "isb"
    exact q1 _ Fr.refl
  | dic _ _ => simp [fit] at ft
/-- a told thing whose lists are new and stand in one place each -/
def sp_apart (T : List (Addr × PySem.Str)) : Sp := fun vs H Q _ => ∃ (v : V) (d : PyData) (F : Addr → Prop), vs = [v] ∧ Tp H v d F ∧ fit (spoil d) = true ∧ fit d = true ∧ okCr (spoil d) ∧ noLate d = true ∧ d.depth < 8 ∧ (spoil d).depth < 8 ∧ ∀ H', Fr T F H H' → Q (.bl true) H'
theorem hp_apart {T : List (Addr × PySem.Str)} {K : PySem.W.Frag} : ∀ vs H Q E, sp_apart T vs H Q E → t_law_apart K (sp_spoilt T 8) (sp_is_once T 8) { nx := fun _ H1 => Q .non H1, rt := Q } (start N_law_apart vs) H := by
  rintro vs H Q E ⟨v, d, F, rfl, hv, ft, ft2, oc, nl, d1, d2, q⟩
  unfold t_law_apart
  refine sq_ ?_
  walk_at "wp"
  refine ⟨v, d, F, rfl, hv, ft2, d1, fun H1 f1 h1 => ?_⟩
  exact ⟨_, v, spoil d, rfl, h1.rp, ft, oc, once_spoil nl, d2, fun H2 f2 => q H2 (f1.trans f2.any)⟩
end Lo
set_option Elab.async false
set_option linter.all false
set_option maxRecDepth 100000
set_option maxHeartbeats 4000000
namespace Lo
open PySem PySem.Spec PyProof.Rows L2
open LamX (Tabs TabS ExtN CodeO)
local macro_rules | `(tactic| walk_at "wp") => `(tactic| simp only [tLc_eq, tFor_eq, tDc_eq, iList, iTup, iStr, iRng1, iEnum, iEnumU, RZ.iZipA, iKeys, tLk, tSortLw, Er_thing.tRaise, Er_thing.tMk, Er_index.tRaise, Er_index.tMk, rEq_int, rNe_int, rEq_str, rNe_str, rEq_bl, rNe_bl, sl0, sl1, sl2, sl3, sl4, sl5, sl6, sl8, tAsg, gName, tVar, tC, tOp, tCons, tNil, tRet, tDrop, tIfS, tTest, tB, tNot, tAnd, tOr, tAndV, tOrV, tNotV, tIf, tNext, tCall, tCB, tBM, tBM0, tPar, tAug, ipI, rI0, rI, rInt1, gSub, tSl, tNoPart, tPart, tTup, tLst, tM1, rIsN, rNotN, wipe, tRetN, tBreak, tCont, List.getElem?_cons_zero, List.getElem?_cons_succ, List.getElem_cons_zero, List.getElem_cons_succ, List.set_cons_zero, List.set_cons_succ, Option.some.injEq, V.int.injEq, V.ref.injEq, V.str.injEq, V.bl.injEq, List.cons.injEq, exists_eq_left', exists_eq_left, exists_eq_right, exists_eq_right', exists_and_left, exists_and_right, exists_eq, exists_eq', exists_false, exists_prop, true_and, and_true, false_and, and_false, or_false, false_or, and_assoc, reduceCtorEq, List.nil_append, List.cons_append, List.append_nil, List.length_cons, List.length_nil, if_true, if_false, Bool.false_eq_true, Bool.not_true, Bool.not_false, decide_eq_true_eq, Bool.not_eq_true', decide_eq_false_iff_not, ite_true, ite_false, L2.start, N_is_plain, N_need_plain, N_places_in, N_is_in, N_need_words, N_in_order, N_least_plain, N_least_words, N_is_above, N_law_start, N_law_below, N_law_chance, N_law_pick, N_law_mixed, N_law_copied, N_law_same, N_law_loose, N_law_spoilt, N_law_is_once, N_law_apart, N_law_bletters, N_law_blies, N_law_border, N_law_bleast, N_law_bword, N_law_bbad, N_law, List.map_cons, List.map_nil, List.replicate_succ, List.replicate_zero])
local macro_rules | `(tactic| walk_at "isb") => `(tactic| simp only [ib_non_str, ib_non_dict, ib_non_list, ib_non_tuple, ib_non_int, ib_non_bool, ib_bl_str, ib_bl_dict, ib_bl_list, ib_bl_tuple, ib_bl_int, ib_bl_bool, ib_int_str, ib_int_dict, ib_int_list, ib_int_tuple, ib_int_int, ib_int_bool, ib_str_str, ib_str_dict, ib_str_list, ib_str_tuple, ib_str_int, ib_str_bool, ib_lst_str, ib_lst_dict, ib_lst_list, ib_lst_tuple, ib_lst_int, ib_lst_bool, ib_tup_str, ib_tup_dict, ib_tup_list, ib_tup_tuple, ib_tup_int, ib_tup_bool, ib_dic_str, ib_dic_dict, ib_dic_list, ib_dic_tuple, ib_dic_int, ib_dic_bool, Bool.true_or, Bool.or_true, Bool.or_false, Bool.false_or, Bool.or_self, if_true, if_false, ite_true, ite_false, Bool.not_true, Bool.not_false, Bool.false_eq_true, decide_true, decide_false, reduceCtorEq, exists_eq_left', exists_eq_left, V.bl.injEq, rNe_bl, rEq_bl, eq_self, if_true, if_false, List.length_replicate])
/-! ### loose -/
def sp_loose0 (T : List (Addr × PySem.Str)) : Sp := fun vs H Q _ => ∃ (v : V) (z : PySem.Str), vs = [v, .str z] ∧ ∀ H', Fr T NoA H H' → Q (.str z) H'
def spNo (m : Nat) : Sp := fun _ _ _ _ => False
theorem hp_loose0 {T : List (Addr × PySem.Str)} {K : PySem.W.Frag} {s1 s2 s3 : Sp} : ∀ vs H Q E, sp_loose0 T vs H Q E → t_law_loose K s1 s2 s3 { nx := fun _ H1 => Q .non H1, rt := Q } (start N_law_loose vs) H := by
  rintro vs H Q E ⟨v, z, rfl, q⟩
  unfold t_law_loose
  refine sq_ ?_
  walk_at "wp"
  refine isi_ (.str (A := NoA) z) ⟨_, rfl, ?_⟩
  walk_at "isb"
  refine sq_ ?_
  walk_at "wp"
  intro tp htp
  refine isiT_ (.str (A := NoA) z) upd_same ⟨_, rfl, ?_⟩
  walk_at "isb"
  exact q _ (Fr.new htp)
def sp_loose (T : List (Addr × PySem.Str)) : Sp := fun vs H Q _ => ∃ (st sc : Addr) (k : Nat) (p : Addr) (ws : List PySem.Str), vs = [.ref st, .ref p] ∧ Strm st sc k H ∧ k < 2 ^ 39 ∧ H p = some (.lst (ws.map V.str)) ∧ Ot2 st sc p ∧ ws.length ≤ 1000 ∧
  ∀ q H', Fr T (St2 st sc) H H' → Nw H q → (H' q = some (.lst (ws.map V.str)) ∨ H' q = some (.tup (ws.map V.str))) → Strm st sc (k + 1) H' → Q (.ref q) H'
theorem hp_loose {T : List (Addr × PySem.Str)} {K : PySem.W.Frag} {s2 : Sp} : ∀ vs H Q E, sp_loose T vs H Q E → t_law_loose K (sp_loose0 T) s2 (sp_below T) { nx := fun _ H1 => Q .non H1, rt := Q } (start N_law_loose vs) H := by
  rintro vs H Q E ⟨st, sc, k, p, ws, rfl, sm, hk, hp, op, hl, q⟩
  unfold t_law_loose
  refine sq_ ?_
  walk_at "wp"
  refine isi_ (.lst (A := fun _ => True) trivial hp (Rps.strs ws)) ⟨_, rfl, ?_⟩
  walk_at "isb"
  refine sq_ ?_
  walk_at "wp"
  intro tp htp
  have f1 : Fr T NoA H (upd H tp (.tup [.ty "list", .ty "tuple"])) := Fr.new htp
  have hp1 := f1.keep _ _ (fun z => z) hp ntL
  refine isiT_ (.lst (A := fun _ => True) trivial hp1 (Rps.strs ws)) upd_same ⟨_, rfl, ?_⟩
  generalize upd H tp (.tup [.ty "list", .ty "tuple"]) = H1 at f1 hp1 ⊢
  walk_at "isb"
  refine sq_ ?_
  walk_at "wp"
  refine .inl ⟨⟨_, SqL.of hp1⟩, ?_⟩
  refine LcGo.mk (T := T) (S := NoA) walk_list (fun i acc _ => acc = (ws.take i).map V.str) (by rw [List.length_map]; omega) (fun _ h => h.elim) (fun H2 f => SqL.of (f.keep _ _ (fun z => z) hp1 ntL)) (fun _ _ => rfl) ?_ ?_
  · rintro D i x acc H2 H3 Yes No hD hi hal f hDa hP ⟨rfl, hx⟩ yes no
    obtain ⟨z, hz, rfl⟩ := str_at hx
    refine ⟨rfl, ?_⟩
    show (if true = true then _ else _)
    rw [if_pos rfl]
    refine ⟨_, rfl, _, rfl, _, z, rfl, fun H4 f4 => yes _ H4 f4 fun H5 _ => ?_⟩
    rw [hP, take_snoc hz]
    simp
  · intro D acc H2 hD f hDa hP
    rw [List.length_map, List.take_length] at hP
    rw [hP] at hDa
    have f2 := f1.trans f
    have nD : Nw H D := Nw.back f1 (Nw.of hD)
    refine ⟨st, sc, k, 2, rfl, sm.fr f2 (fun z => z) (fun z => z), by omega, by decide, by decide, fun H3 d f3 s3 d0 d1 => ?_⟩
    have hD3 := f3.keep _ _ (ot_st (sm.ot nD)) hDa ntL
    walk_at "wp"
    by_cases e : d = 0
    · rw [if_pos e]
      exact q D H3 (f2.any.trans f3) nD (.inl hD3) s3
    · rw [if_neg e]
      refine ⟨D, _, rfl, .inl ⟨SqL.of hD3, fun l hl2 => ?_⟩⟩
      have f4 : Fr T NoA H3 (upd H3 l (.tup (ws.map V.str))) := Fr.new hl2
      exact q l _ (f2.any.trans (f3.trans f4.any)) (Nw.back (f2.any.trans f3) (Nw.of hl2)) (.inr upd_same) (s3.fr f4 (fun z => z) (fun z => z))
/-! ### drawn letters -/
def sp_bletters (T : List (Addr × PySem.Str)) : Sp := fun vs H Q _ => ∃ (st sc : Addr) (k : Nat) (m : Int), vs = [.ref st, .int m] ∧ Strm st sc k H ∧ k < 2 ^ 39 ∧ 1 ≤ m ∧ m ≤ 26 ∧
  ∀ q (zs : List PySem.Str) H', Fr T (St2 st sc) H H' → Nw H q → H' q = some (.lst (zs.map V.str)) → 0 < zs.length → zs.length ≤ 26 → (∀ z ∈ zs, ∃ c ∈ small, z = ⟨#[c]⟩) → Strm st sc (k + 26) H' → Q (.ref q) H'
theorem hp_bletters {T : List (Addr × PySem.Str)} {K : PySem.W.Frag} : ∀ vs H Q E, sp_bletters T vs H Q E → t_law_bletters K (sp_mixed T) { nx := fun _ H1 => Q .non H1, rt := Q } (start N_law_bletters vs) H := by
  rintro vs H Q E ⟨st, sc, k, m, rfl, sm, hk, m0, m1, q⟩
  unfold t_law_bletters
  walk_at "wp"
  refine ⟨_, rfl, by decide, fun l hl => ?_⟩
  have f1 : Fr T NoA H (upd H l (.lst (("abcdefghijklmnopqrstuvwxyz" : PySem.Str).cps.toList.map fun c => V.str ⟨#[c]⟩))) := Fr.new hl
  refine ⟨st, sc, k, l, _, rfl, sm.fr f1 (fun z => z) (fun z => z), hk, upd_same, by decide, fun r ys H2 f2 nr hr pm s2 => ?_⟩
  refine ⟨r, ys, rfl, SqL.of hr, fun p hp => ?_⟩
  have hyl : ys.length = 26 := by rw [pm.length_eq]; rfl
  have hys : ∃ zs : List PySem.Str, ys = zs.map V.str ∧ ∀ z ∈ zs, ∃ c ∈ small, z = ⟨#[c]⟩ := by
    have hall : ∀ y ∈ ys, ∃ c ∈ small, y = V.str ⟨#[c]⟩ := fun y hy => by
      obtain ⟨c, hc, e⟩ := List.mem_map.mp ((pm.mem_iff).mp hy)
      exact ⟨c, hc, e.symm⟩
    clear pm hyl hr hp q
    induction ys with
    | nil => exact ⟨[], rfl, fun _ h => nomatch h⟩
    | cons y ys ih =>
      obtain ⟨c, hc, e⟩ := hall y (List.mem_cons_self ..)
      obtain ⟨zs, e2, h2⟩ := ih fun y hy => hall y (List.mem_cons_of_mem _ hy)
      refine ⟨⟨#[c]⟩ :: zs, by rw [e, e2]; rfl, fun z hz => ?_⟩
      rcases List.mem_cons.mp hz with h | h
      · exact ⟨c, hc, h⟩
      · exact h2 z h
  obtain ⟨zs, rfl, hzs⟩ := hys
  obtain ⟨mn, rfl⟩ := Int.eq_ofNat_of_zero_le (show 0 ≤ m by omega)
  rw [List.length_map] at hyl
  have ecut : cutV (zs.map V.str) none (some (mn : Int)) = (zs.take mn).map V.str := by
    unfold cutV
    rw [HT.sIx_none, HT.sIx_nat]
    simp [hyl]
  rw [ecut]
  refine ⟨p, zs.take mn, rfl, SqL.of upd_same, by simp; omega, fun out p2 pm2 _ hp2 => ?_⟩
  have f3 : Fr T NoA H2 (upd H2 p (.lst ((zs.take mn).map V.str))) := Fr.new hp
  have f4 : Fr T NoA (upd H2 p (.lst ((zs.take mn).map V.str))) (upd (upd H2 p (.lst ((zs.take mn).map V.str))) p2 (.lst (out.map V.str))) := Fr.new hp2
  have hol : out.length = mn := by rw [pm2.length_eq, List.length_take]; omega
  refine q p2 out _ (f1.any.trans (f2.trans (f3.any.trans f4.any))) (Nw.back (f1.any.trans (f2.trans f3.any)) (Nw.of hp2)) upd_same (by omega) (by omega) (fun z hz => hzs z (List.mem_of_mem_take ((pm2.mem_iff).mp hz))) ?_
  exact (s2.fr f3 (fun z => z) (fun z => z)).fr f4 (fun z => z) (fun z => z)
/-! ### the law's own look -/
def sp_blies (T : List (Addr × PySem.Str)) : Sp := fun vs H Q _ => ∃ (w o : PySem.Str), vs = [.str w, .str o] ∧ w.length ≤ 1000 ∧ o.length ≤ 1000 ∧ ∀ H', Fr T NoA H H' → Q (.bl (lies w o)) H'
def Pv_blies (w o : PySem.Str) (H : Hp) : Nat → L2.St → Hp → Prop := fun i σ H1 => H1 = H ∧ ∃ (x3 : Option V) (j : Nat), σ = [some (.str w), some (.str o), some (.int j), x3] ∧ j ≤ w.cps.toList.length ∧ w.cps.toList.isSublist o.cps.toList = (w.cps.toList.drop j).isSublist (o.cps.toList.drop i)
theorem sub_cc (c d : Nat) (l r : List Nat) : (c :: l).isSublist (d :: r) = if c == d then l.isSublist r else (c :: l).isSublist r := rfl
theorem sub_nil (l : List Nat) : ([] : List Nat).isSublist l = true := by cases l <;> rfl
theorem hp_blies {T : List (Addr × PySem.Str)} {K : PySem.W.Frag} : ∀ vs H Q E, sp_blies T vs H Q E → t_law_blies K { nx := fun _ H1 => Q .non H1, rt := Q } (start N_law_blies vs) H := by
  rintro vs H Q E ⟨w, o, rfl, hw, ho, q⟩
  have hwl : w.length = w.cps.toList.length := by simp [PySem.Str.length]
  unfold t_law_blies
  refine sq_ ?_
  walk_at "wp"
  refine sq_ ?_
  walk_at "wp"
  refine ForGo.mk walk_str (Pv_blies w o H) ⟨rfl, none, 0, rfl, Nat.zero_le _, by simp⟩ (fun _ _ _ _ _ => trivial) ?_ ?_
  · rintro i x σ H1 H2 hi ⟨rfl, x3, j, rfl, hj, hs⟩ ⟨rfl, c, hc, rfl⟩
    have hc' : o.cps.toList[i]? = some c := by simpa using hc
    have hdr : o.cps.toList.drop i = c :: o.cps.toList.drop (i + 1) := by
      obtain ⟨h1, h2⟩ := List.getElem?_eq_some_iff.mp hc'
      rw [List.drop_eq_getElem_cons h1, h2]
    walk_at "wp"
    refine lenS_ (big_ (by omega)) ?_
    walk_at "wp"
    by_cases hlt : (j : Int) < w.length
    · rw [if_pos hlt]
      have hlt' : j < w.cps.toList.length := by omega
      have hd : w.cps.toList.drop j = w.cps.toList[j] :: w.cps.toList.drop (j + 1) := List.drop_eq_getElem_cons hlt'
      refine ⟨w, j, w.cps.toList[j], rfl, rfl, big_ (by omega), atI_nat (by simp [hlt']), ?_⟩
      walk_at "wp"
      by_cases hcc : w.cps.toList[j] = c
      · rw [if_pos (by rw [hcc])]
        refine ⟨rfl, _, j + 1, rfl, by omega, ?_⟩
        rw [hs, hdr, hd, sub_cc, if_pos (by simp [hcc])]
      · rw [if_neg (by simpa using hcc)]
        refine ⟨rfl, _, j, (by rw [Int.add_zero]), by omega, ?_⟩
        rw [hs, hdr, hd, sub_cc, if_neg (by simpa using hcc), ← hd]
    · rw [if_neg hlt]
      have : w.cps.toList.drop j = [] := List.drop_eq_nil_of_le (by omega)
      refine ⟨rfl, _, j, (by rw [Int.add_zero]), by omega, ?_⟩
      rw [hs, this, sub_nil, sub_nil]
  · rintro σ H1 ⟨rfl, x3, j, rfl, hj, hs⟩
    walk_at "wp"
    refine lenS_ (big_ (by omega)) ?_
    rw [rEq_int]
    have e : decide ((j : Int) = w.length) = lies w o := by
      unfold lies
      rw [hs, show o.cps.toList.drop o.cps.size = [] from List.drop_eq_nil_of_le (by simp), sub_nil_r]
      rw [Bool.eq_iff_iff, decide_eq_true_eq, List.isEmpty_iff, List.drop_eq_nil_iff]
      omega
    rw [e]
    exact q H1 Fr.refl
theorem blies_ok {T : List (Addr × PySem.Str)} : ∀ (a b : PySem.Str) H Q E, a.length ≤ 1000 → b.length ≤ 1000 → (∀ H', Fr T NoA H H' → Q (.bl (lies a b)) H') → sp_blies T [.str a, .str b] H Q E := fun a b _ _ _ h1 h2 q => ⟨a, b, rfl, h1, h2, q⟩
/-! ### drawn words -/
theorem mem_join : ∀ (ys : List PySem.Str) (c : Nat), c ∈ (Txt.join "" ys).cps.toList → ∃ y ∈ ys, c ∈ y.cps.toList := by
  have key : ∀ (ys : List PySem.Str) (c : Nat), c ∈ (Str.join "" ys).cps.toList → ∃ y ∈ ys, c ∈ y.cps.toList := by
    intro ys
    induction ys with
    | nil => intro c h; simp [Str.join, Str.empty] at h
    | cons x r ih =>
      intro c h
      cases r with
      | nil => exact ⟨x, List.mem_cons_self .., h⟩
      | cons z r =>
        have e : (Str.join "" (x :: z :: r)).cps.toList = x.cps.toList ++ (Str.join "" (z :: r)).cps.toList := by
          show (x ++ "" ++ Str.join "" (z :: r)).cps.toList = _
          rw [Str.cps_append, Str.cps_append, Array.toList_append, Array.toList_append]
          show _ ++ [] ++ _ = _
          rw [List.append_nil]
        rw [e] at h
        rcases List.mem_append.mp h with h | h
        · exact ⟨x, List.mem_cons_self .., h⟩
        · obtain ⟨y, hy, h2⟩ := ih c h
          exact ⟨y, List.mem_cons_of_mem _ hy, h2⟩
  intro ys c h
  exact key ys c (by rw [← StrLaws.glued_eq_join]; exact h)
theorem len_join (ys : List PySem.Str) (h : ∀ y ∈ ys, y.length = 1) : (Txt.join "" ys).length = ys.length := by
  have e : (Txt.join "" ys).length = (ys.map (·.length)).sum + (ys.length - 1) * ("" : PySem.Str).length := size_glued "" ys
  rw [e, show ("" : PySem.Str).length = 0 from rfl, Nat.mul_zero, Nat.add_zero]
  clear e
  induction ys with
  | nil => rfl
  | cons y ys ih =>
    rw [List.map_cons, List.sum_cons, h y (List.mem_cons_self ..), ih fun z hz => h z (List.mem_cons_of_mem _ hz), List.length_cons]
    omega
def sp_bword (T : List (Addr × PySem.Str)) : Sp := fun vs H Q _ => ∃ (st sc : Addr) (k : Nat) (lp : Addr) (zs : List PySem.Str) (m : Nat), vs = [.ref st, .ref lp, .int m] ∧ Strm st sc k H ∧ k < 2 ^ 39 ∧ H lp = some (.lst (zs.map V.str)) ∧ Ot2 st sc lp ∧ 0 < zs.length ∧ zs.length ≤ 26 ∧ (∀ z ∈ zs, ∃ c ∈ small, z = ⟨#[c]⟩) ∧ m ≤ 100 ∧
  ∀ z H', Fr T (St2 st sc) H H' → z.length ≤ m → plainS z = true → Strm st sc (k + m + 1) H' → Q (.str z) H'
theorem hp_bword {T : List (Addr × PySem.Str)} {K : PySem.W.Frag} : ∀ vs H Q E, sp_bword T vs H Q E → t_law_bword K (sp_pick T) (sp_below T) { nx := fun _ H1 => Q .non H1, rt := Q } (start N_law_bword vs) H := by
  rintro vs H Q E ⟨st, sc, k, lp, zs, m, rfl, sm, hk, hp, op, z0, z1, hzs, hm, q⟩
  unfold t_law_bword
  walk_at "wp"
  refine ⟨st, sc, k, _, rfl, sm, by omega, by omega, by omega, fun H1 d f1 s1 d0 d1 => ?_⟩
  obtain ⟨n, rfl⟩ := Int.eq_ofNat_of_zero_le d0
  have hnm : n ≤ m := by omega
  refine ⟨_, rfl, by omega, by omega, ?_⟩
  rw [Int.toNat_natCast]
  refine LcGo.mk (T := T) (S := St2 st sc) walk_range (fun i acc H2 => ∃ ys : List PySem.Str, acc = ys.map V.str ∧ ys.length = i ∧ (∀ y ∈ ys, ∃ c ∈ small, y = ⟨#[c]⟩) ∧ Strm st sc (k + 1 + i) H2) (by omega) ?_ (fun _ _ => trivial) ?_ ?_ ?_
  · obtain ⟨ne, a, nn, c, xs, e1, e2, _⟩ := s1
    rintro b (rfl | rfl)
    · rw [e1]; simp
    · rw [e2]; simp
  · exact fun H2 f => ⟨[], rfl, rfl, fun _ h => (nomatch h), s1.fr f (fun z => z) (fun z => z)⟩
  · rintro D i x acc H2 H3 Yes No hD hi hal f hDa ⟨ys, rfl, hyl, hys, s2⟩ ⟨rfl, rfl⟩ yes no
    have hp3 := (f1.trans f).keep _ _ (ot_st op) hp ntL
    refine ⟨rfl, ?_⟩
    show (if true = true then _ else _)
    rw [if_pos rfl]
    refine ⟨_, rfl, _, rfl, st, sc, k + 1 + i, lp, zs.map V.str, rfl, s2, by omega, hp3, op, by simpa using z0, by rw [List.length_map]; omega, fun H4 j x hx f4 s4 => ?_⟩
    obtain ⟨z, hz, rfl⟩ := str_at hx
    refine yes _ H4 f4 fun H5 f5 => ⟨ys ++ [z], by simp, by simp [hyl], fun y hy => ?_, ?_⟩
    · rcases List.mem_append.mp hy with h | h
      · exact hys y h
      · rw [List.mem_singleton.mp h]
        exact hzs z (List.mem_of_getElem? hz)
    · obtain ⟨ne, a, nn, c, xs, e1, e2, _⟩ := s1
      exact (show Strm st sc (k + 1 + (i + 1)) H4 from s4).fr f5 (fun z => by rw [← show st = D from z, e1] at hD; cases hD) (fun z => by rw [← show sc = D from z, e2] at hD; cases hD)
  · rintro D acc H2 hD f hDa ⟨ys, rfl, hyl, hys, s2⟩
    have hy1 : ∀ y ∈ ys, y.length = 1 := fun y hy => by obtain ⟨c, _, rfl⟩ := hys y hy; rfl
    have hsum : (ys.map (·.length)).sum = ys.length := by
      clear hDa hyl hys s2 q
      induction ys with
      | nil => rfl
      | cons y ys ih =>
        rw [List.map_cons, List.sum_cons, hy1 y (List.mem_cons_self ..), ih fun z hz => hy1 z (List.mem_cons_of_mem _ hz), List.length_cons]
        omega
    have hlj := len_join ys hy1
    refine ⟨_, D, ys, rfl, rfl, .inl (SqL.of hDa), by rw [hsum]; show ys.length + ys.length * 0 ≤ _; omega, ?_⟩
    refine q _ H2 (f1.trans f) (by omega) ?_ (s2.le (by omega))
    unfold plainS
    rw [Bool.and_eq_true, decide_eq_true_eq, List.all_eq_true]
    refine ⟨by omega, fun c hc => ?_⟩
    obtain ⟨y, hy, hcy⟩ := mem_join ys c hc
    obtain ⟨c', hc', rfl⟩ := hys y hy
    have : c = c' := by simpa using hcy
    simpa [this] using hc'
end Lo
set_option Elab.async false
set_option linter.all false
set_option maxRecDepth 100000
set_option maxHeartbeats 4000000
namespace Lo
open PySem PySem.Spec PyProof.Rows L2
open LamX (Tabs TabS ExtN CodeO)
local macro_rules | `(tactic| walk_at "wp") => `(tactic| simp only [tLc_eq, tFor_eq, tDc_eq, iList, iTup, iStr, iRng1, iEnum, iEnumU, RZ.iZipA, iKeys, tLk, tSortLw, Er_thing.tRaise, Er_thing.tMk, Er_index.tRaise, Er_index.tMk, rEq_int, rNe_int, rEq_str, rNe_str, rEq_bl, rNe_bl, sl0, sl1, sl2, sl3, sl4, sl5, sl6, sl8, tAsg, gName, tVar, tC, tOp, tCons, tNil, tRet, tDrop, tIfS, tTest, tB, tNot, tAnd, tOr, tAndV, tOrV, tNotV, tIf, tNext, tCall, tCB, tBM, tBM0, tPar, tAug, ipI, rI0, rI, rInt1, gSub, tSl, tNoPart, tPart, tTup, tLst, tM1, rIsN, rNotN, wipe, tRetN, tBreak, tCont, List.getElem?_cons_zero, List.getElem?_cons_succ, List.getElem_cons_zero, List.getElem_cons_succ, List.set_cons_zero, List.set_cons_succ, Option.some.injEq, V.int.injEq, V.ref.injEq, V.str.injEq, V.bl.injEq, List.cons.injEq, exists_eq_left', exists_eq_left, exists_eq_right, exists_eq_right', exists_and_left, exists_and_right, exists_eq, exists_eq', exists_false, exists_prop, true_and, and_true, false_and, and_false, or_false, false_or, and_assoc, reduceCtorEq, List.nil_append, List.cons_append, List.append_nil, List.length_cons, List.length_nil, if_true, if_false, Bool.false_eq_true, Bool.not_true, Bool.not_false, decide_eq_true_eq, Bool.not_eq_true', decide_eq_false_iff_not, ite_true, ite_false, L2.start, N_is_plain, N_need_plain, N_places_in, N_is_in, N_need_words, N_in_order, N_least_plain, N_least_words, N_is_above, N_law_start, N_law_below, N_law_chance, N_law_pick, N_law_mixed, N_law_copied, N_law_same, N_law_loose, N_law_spoilt, N_law_is_once, N_law_apart, N_law_bletters, N_law_blies, N_law_border, N_law_bleast, N_law_bword, N_law_bbad, N_law, List.map_cons, List.map_nil, List.replicate_succ, List.replicate_zero])
local macro_rules | `(tactic| walk_at "isb") => `(tactic| simp only [ib_non_str, ib_non_dict, ib_non_list, ib_non_tuple, ib_non_int, ib_non_bool, ib_bl_str, ib_bl_dict, ib_bl_list, ib_bl_tuple, ib_bl_int, ib_bl_bool, ib_int_str, ib_int_dict, ib_int_list, ib_int_tuple, ib_int_int, ib_int_bool, ib_str_str, ib_str_dict, ib_str_list, ib_str_tuple, ib_str_int, ib_str_bool, ib_lst_str, ib_lst_dict, ib_lst_list, ib_lst_tuple, ib_lst_int, ib_lst_bool, ib_tup_str, ib_tup_dict, ib_tup_list, ib_tup_tuple, ib_tup_int, ib_tup_bool, ib_dic_str, ib_dic_dict, ib_dic_list, ib_dic_tuple, ib_dic_int, ib_dic_bool, Bool.true_or, Bool.or_true, Bool.or_false, Bool.false_or, Bool.or_self, if_true, if_false, ite_true, ite_false, Bool.not_true, Bool.not_false, Bool.false_eq_true, decide_true, decide_false, reduceCtorEq, exists_eq_left', exists_eq_left, V.bl.injEq, rNe_bl, rEq_bl, eq_self, if_true, if_false, List.length_replicate])
/-! ### words in order, by pairs -/
def Prs (H : Hp) (f : PySem.Str → List V) (ps : List Addr) (ws : List PySem.Str) : Prop := ps.length = ws.length ∧ ∀ (j : Nat) a z, ps[j]? = some a → ws[j]? = some z → H a = some (.tup (f z))
theorem Prs.fr {T : List (Addr × PySem.Str)} {S : Addr → Prop} {H H1 : Hp} {f : PySem.Str → List V} {ps : List Addr} {ws : List PySem.Str} (h : Prs H f ps ws) (e : Fr T S H H1) (hS : ∀ b, S b → ∃ u, H b = some u ∧ Dat u) : Prs H1 f ps ws := ⟨h.1, fun j a z h1 h2 => by
  have h3 := h.2 j a z h1 h2
  refine e.keep _ _ (fun s => ?_) h3 ntT
  obtain ⟨u, hu, d⟩ := hS a s
  rw [h3] at hu
  cases hu
  exact d⟩
theorem Prs.snoc {H : Hp} {f : PySem.Str → List V} {ps : List Addr} {ws : List PySem.Str} {a : Addr} {z : PySem.Str} (h : Prs H f ps ws) (ha : H a = some (.tup (f z))) : Prs H f (ps ++ [a]) (ws ++ [z]) := by
  refine ⟨by simp [h.1], fun j b y h1 h2 => ?_⟩
  rcases Nat.lt_or_ge j ps.length with hj | hj
  · rw [List.getElem?_append_left hj] at h1
    rw [List.getElem?_append_left (by rw [← h.1]; exact hj)] at h2
    exact h.2 j b y h1 h2
  · rw [List.getElem?_append_right hj] at h1
    rw [List.getElem?_append_right (by rw [← h.1]; exact hj)] at h2
    rw [← h.1] at h2
    cases hk : j - ps.length with
    | zero =>
      rw [hk] at h1 h2
      simp at h1 h2
      rw [← h1, ← h2]
      exact ha
    | succ m => rw [hk] at h1; simp at h1
/-- a comprehension of texts into tuples -/
theorem lc_tups {T : List (Addr × PySem.Str)} {J : It} {G : Hp → Prop} {H1 : Hp} {ws : List PySem.Str} {te : TA} {σ : L2.St} {i2 : Nat} {Q : VK} {f : PySem.Str → List V} (w : Walk J ws.length G (YAt (ws.map V.str))) (hG : ∀ H2, Fr T NoA H1 H2 → G H2) (ok : okL ws)
    (h1 : ∀ z : PySem.Str, wipe ((wipe σ [i2]).set i2 (some (.str z))) [i2] = wipe σ [i2]) (ht : ∀ (z : PySem.Str) H (R : List V → Hp → Prop), okZ z → R (f z) H → te ((wipe σ [i2]).set i2 (some (.str z))) H R) (hf : ∀ z, (f z).length ≤ 1000)
    (q : ∀ D ps H2, Fr T NoA H1 H2 → H1 D = none → H2 D = some (.lst (ps.map V.ref)) → Prs H2 f ps ws → Q (.ref D) H2) :
    LcGo J (gName i2) (fun _ H Q => Q true H) (tTup te) [i2] σ H1 Q := by
  refine LcGo.mk (T := T) (S := NoA) w (fun i acc H2 => ∃ ps : List Addr, acc = ps.map V.ref ∧ Prs H2 f ps (ws.take i)) (by have := ok.1; omega) (fun _ h => h.elim) hG (fun _ _ => ⟨[], rfl, rfl, fun j a z h => by simp at h⟩) ?_ ?_
  · rintro D i x acc H2 H3 Yes No hD hi hal fr hDa ⟨ps, rfl, hps⟩ ⟨rfl, hx⟩ yes no
    obtain ⟨z, hz, rfl⟩ := str_at hx
    refine ⟨h1 z, ?_⟩
    show (if true = true then _ else _)
    rw [if_pos rfl]
    refine ht z _ _ (ok.2 z (List.mem_of_getElem? hz)) ⟨big_ (by have := hf z; omega), fun a ha => ?_⟩
    have f2 : Fr T NoA H3 (upd H3 a (.tup (f z))) := Fr.new ha
    refine yes _ _ f2 fun H5 f5 => ⟨ps ++ [a], by simp, ?_⟩
    rw [take_snoc hz]
    have h4 := (hps.fr f2 (fun _ z => z.elim)).snoc (a := a) upd_same
    have hD4 := f2.keep _ _ (fun z => z) hDa ntL
    exact h4.fr f5 fun b hb => ⟨.lst (ps.map V.ref), (congrArg _ hb).trans hD4, trivial⟩
  · rintro D acc H2 hD fr hDa ⟨ps, rfl, hps⟩
    rw [List.take_length] at hps
    exact q D ps H2 fr hD hDa hps
theorem prs_paired {K : PySem.W.Frag} {H : Hp} : ∀ {ps : List Addr} {ws : List PySem.Str}, Prs H (fun z => [.str z, .int 0]) ps ws → Paired (fun p (kv : Key × V) => SqT K H p [kV kv.1, kv.2]) ps (ws.map fun z => ((Sum.inr z : Key), V.int 0))
  | [], [], _ => .nil
  | [], _ :: _, h => by have := h.1; simp at this
  | _ :: _, [], h => by have := h.1; simp at this
  | a :: ps, z :: ws, h => .cons (SqT.of (h.2 0 a z rfl rfl)) (prs_paired ⟨by have := h.1; simp at this; exact this, fun j b y h1 h2 => h.2 (j + 1) b y (by simpa using h1) (by simpa using h2)⟩)
theorem merge_keys : ∀ (ws : List PySem.Str) (kvs : List (Key × V)) (acc : List PySem.Str), kvs.map (·.1) = acc.map Sum.inr → (mergeK kvs (ws.map fun z => ((Sum.inr z : Key), V.int 0))).map (·.1) = (ws.foldl ddk acc).map Sum.inr
  | [], _, _, h => h
  | w :: ws, kvs, acc, h => merge_keys ws _ _ (putK_keys kvs acc w (.int 0) h)
def sp_border (T : List (Addr × PySem.Str)) : Sp := fun vs H Q _ => ∃ (p : Addr) (ws : List PySem.Str), vs = [.ref p] ∧ H p = some (.lst (ws.map V.str)) ∧ okL ws ∧ ∀ q H', Fr T NoA H H' → Nw H q → H' q = some (.lst ((ordW ws).map V.str)) → Q (.ref q) H'
theorem okL.dd {ws : List PySem.Str} (h : okL ws) : okL (dd ws) := by
  refine ⟨?_, fun z hz => h.2 z ?_⟩
  · have h1 := dd_len ws []
    have h2 := h.1
    unfold Lo.dd
    simp at h1
    omega
  · have := (dd_mem ws [] z).mp hz
    simpa using this
theorem walk_keysS {d : Addr} {o : Obj} {kvs : List (Key × V)} {ws : List PySem.Str} (h : kvs.map (·.1) = ws.map Sum.inr) : Walk (Itk d o kvs) ws.length (fun H => H d = some (.frz o (.dK kvs))) (YAt (ws.map V.str)) := by
  have hl : kvs.length = ws.length := by simpa using congrArg List.length h
  have w := walk_keys (d := d) (o := o) (kvs := kvs)
  rw [hl] at w
  refine w.mono (fun _ z => z) fun i H x H' hi _ ⟨e, k, v, hk, hx⟩ => ⟨e, ?_⟩
  have h1 : (kvs.map (·.1))[i]? = some k := by rw [List.getElem?_map, hk]; rfl
  rw [h, List.getElem?_map] at h1
  cases hz : ws[i]? with
  | none => rw [hz] at h1; cases h1
  | some z =>
    rw [hz] at h1
    cases h1
    rw [List.getElem?_map, hz, hx]
    rfl
theorem hp_border {T : List (Addr × PySem.Str)} {K : PySem.W.Frag} : ∀ vs H Q E, sp_border T vs H Q E → t_law_border K { nx := fun _ H1 => Q .non H1, rt := Q } (start N_law_border vs) H := by
  rintro vs H Q E ⟨p, ws, rfl, hp, ok, q⟩
  unfold t_law_border
  walk_at "wp"
  refine ⟨⟨_, SqL.of hp⟩, ?_⟩
  have w1 := walk_list (K := K) (a := p) (xs := ws.map V.str)
  rw [List.length_map] at w1
  refine lc_tups (T := T) (f := fun z => [.str z, .int 0]) w1 (fun H2 f => SqL.of (f.keep _ _ (fun z => z) hp ntL)) ok (fun _ => rfl) (fun z H R _ r => ⟨_, rfl, r⟩) (fun _ => by show 2 ≤ 1000; decide) fun D ps H1 f1 hD hDp hps => ?_
  refine ⟨D, ps, ws.map fun z => ((Sum.inr z : Key), V.int 0), rfl, SqL.of hDp, prs_paired hps, fun d hd => ?_⟩
  have hkeys := merge_keys ws [] [] rfl
  generalize hkv : mergeK [] (ws.map fun z => ((Sum.inr z : Key), V.int 0)) = kvs at hkeys
  have f2 : Fr T NoA H (upd H1 d (.dK kvs)) := f1.trans (Fr.new hd)
  have nd : Nw H d := Nw.back f1 (Nw.of hd)
  refine ⟨d, rfl, kvs, upd_same, fun o => ?_⟩
  have f3 : Fr T NoA H (upd (upd H1 d (.dK kvs)) d (.frz o (.dK kvs))) := f2.mut (.inr nd) upd_same trivial (fun ps z => nomatch z)
  have hd3 : upd (upd H1 d (.dK kvs)) d (.frz o (.dK kvs)) d = some (.frz o (.dK kvs)) := upd_same
  generalize upd (upd H1 d (.dK kvs)) d (.frz o (.dK kvs)) = H3 at f3 hd3 ⊢
  refine ⟨d, rfl, o, .inl ⟨kvs, hd3, ?_⟩⟩
  have okd := ok.dd
  refine lc_tups (T := T) (ws := dd ws) (f := fun z => [.int z.length, .str z]) (walk_keysS hkeys) (fun H2 f => f.keep _ _ (fun z => z) hd3 (fun ps z => nomatch z)) okd (fun _ => rfl) (fun z H R oz r => by
    walk_at "wp"
    exact lenS_ (big_ (by have := oz.1; omega)) r) (fun _ => by show 2 ≤ 1000; decide) fun D2 ps2 H4 f4 hD2 hDp2 hps2 => ?_
  have hzl : (ps2.zip (dd ws)).map (·.1) = ps2 := List.map_fst_zip (by rw [hps2.1]; exact Nat.le_refl _)
  have hzr : (ps2.zip (dd ws)).map (·.2) = dd ws := List.map_snd_zip (by rw [hps2.1]; exact Nat.le_refl _)
  have hzm : ∀ q ∈ ps2.zip (dd ws), H4 q.1 = some (.tup [.int q.2.length, .str q.2]) := fun q hq => by
    obtain ⟨j, hj⟩ := List.mem_iff_getElem?.mp hq
    rw [List.getElem?_zip_eq_some] at hj
    exact hps2.2 j q.1 q.2 hj.1 hj.2
  generalize ps2.zip (dd ws) = L at hzl hzr hzm
  have eL : (L.map fun q => (V.ref q.1, lwKey q.2)).map (·.1) = ps2.map V.ref := by rw [List.map_map, ← hzl, List.map_map]; rfl
  have eK : (L.map fun q => (V.ref q.1, lwKey q.2)).map (·.2) = (dd ws).map lwKey := by rw [List.map_map, ← hzr, List.map_map]; rfl
  refine ⟨D2, L.map fun q => (V.ref q.1, lwKey q.2), rfl, by rw [eL]; exact SqL.of hDp2, fun r hr => ?_, by rw [eK]; exact lw_alike _, by rw [eK]; exact lw_sortable _, fun r hr => ?_, fun p5 hp5 => ?_⟩
  · obtain ⟨q, hq, rfl⟩ := List.mem_map.mp hr
    exact .tup (SqT.of (hzm q hq)) (.cons (.int _) (.cons (.str _) .nil))
  · obtain ⟨q, hq, rfl⟩ := List.mem_map.mp hr
    rw [lw_depth]
    decide
  have eS : ((L.map fun q => (V.ref q.1, lwKey q.2)).mergeSort (PySem.W.dataLe false (·.2))).map (·.1) = (L.mergeSort (PySem.W.dataLe false fun q => lwKey q.2)).map fun q => V.ref q.1 := by
    have h := List.map_mergeSort (r := PySem.W.dataLe false fun q : Addr × PySem.Str => lwKey q.2) (s := PySem.W.dataLe false fun x : V × PyData => x.2) (f := fun q : Addr × PySem.Str => (V.ref q.1, lwKey q.2)) (l := L) (fun a _ b _ => rfl)
    rw [← h, List.map_map]
    rfl
  have eO : (L.mergeSort (PySem.W.dataLe false fun q => lwKey q.2)).map (·.2) = ordW ws := by
    have h := List.map_mergeSort (r := PySem.W.dataLe false fun q : Addr × PySem.Str => lwKey q.2) (s := PySem.W.dataLe false lwKey) (f := fun q : Addr × PySem.Str => q.2) (l := L) (fun a _ b _ => rfl)
    rw [h, hzr]
    rfl
  have hSm : ∀ q ∈ L.mergeSort (PySem.W.dataLe false fun q => lwKey q.2), H4 q.1 = some (.tup [.int q.2.length, .str q.2]) := fun q hq => hzm q (List.mem_mergeSort.mp hq)
  rw [eS]
  generalize L.mergeSort (PySem.W.dataLe false fun q => lwKey q.2) = Ls at eO hSm
  have f5 : Fr T NoA H4 (upd H4 p5 (.lst (Ls.map fun q => V.ref q.1))) := Fr.new hp5
  have hp5' : upd H4 p5 (.lst (Ls.map fun q => V.ref q.1)) p5 = some (.lst (Ls.map fun q => V.ref q.1)) := upd_same
  have hSm5 : ∀ q ∈ Ls, upd H4 p5 (.lst (Ls.map fun q => V.ref q.1)) q.1 = some (.tup [.int q.2.length, .str q.2]) := fun q hq => f5.keep _ _ (fun z => z) (hSm q hq) ntT
  have f35 := f3.trans (f4.trans f5)
  generalize upd H4 p5 (.lst (Ls.map fun q => V.ref q.1)) = H6 at f35 hp5' hSm5 ⊢
  refine ⟨p5, rfl, ⟨_, SqL.of hp5'⟩, ?_⟩
  have hLl : Ls.length = (ordW ws).length := by rw [← eO, List.length_map]
  have w6 := walk_list (K := K) (a := p5) (xs := Ls.map fun q => V.ref q.1)
  refine LcGo.mk (T := T) (S := NoA) w6 (fun i acc _ => acc = ((ordW ws).take i).map V.str) (by rw [List.length_map, hLl]; have := ok.ord.1; omega) (fun _ h => h.elim) (fun H2 f => SqL.of (f.keep _ _ (fun z => z) hp5' ntL)) (fun _ _ => rfl) ?_ ?_
  · rintro D7 i x acc H7 H8 Yes No hD7 hi hal f7 hDa hP ⟨rfl, hx⟩ yes no
    rw [List.getElem?_map] at hx
    cases hq : Ls[i]? with
    | none => rw [hq] at hx; cases hx
    | some qq =>
      rw [hq] at hx
      cases hx
      have hz : (ordW ws)[i]? = some qq.2 := by rw [← eO, List.getElem?_map, hq]; rfl
      refine gTup2_ (f7.keep _ _ (fun z => z) (hSm5 qq (List.mem_of_getElem? hq)) ntT) ⟨rfl, ?_⟩
      show (if true = true then _ else _)
      rw [if_pos rfl]
      refine ⟨_, rfl, yes _ _ Fr.refl fun H9 _ => ?_⟩
      rw [hP, take_snoc hz]
      simp
  · intro D7 acc H7 hD7 f7 hDa hP
    rw [List.length_map, hLl, List.take_length] at hP
    rw [hP] at hDa
    exact q D7 H7 (f35.trans f7) (Nw.back f35 (Nw.of hD7)) hDa
end Lo
set_option Elab.async false
set_option linter.all false
set_option maxRecDepth 100000
set_option maxHeartbeats 4000000
namespace Lo
open PySem PySem.Spec PyProof.Rows L2
open LamX (Tabs TabS ExtN CodeO)
local macro_rules | `(tactic| walk_at "wp") => `(tactic| simp only [tDNewK, tLc_eq, tFor_eq, tDc_eq, iList, iTup, iStr, iRng1, iEnum, iEnumU, RZ.iZipA, iKeys, tLk, tSortLw, Er_thing.tRaise, Er_thing.tMk, Er_index.tRaise, Er_index.tMk, rEq_int, rNe_int, rEq_str, rNe_str, rEq_bl, rNe_bl, sl0, sl1, sl2, sl3, sl4, sl5, sl6, sl8, tAsg, gName, tVar, tC, tOp, tCons, tNil, tRet, tDrop, tIfS, tTest, tB, tNot, tAnd, tOr, tAndV, tOrV, tNotV, tIf, tNext, tCall, tCB, tBM, tBM0, tPar, tAug, ipI, rI0, rI, rInt1, gSub, tSl, tNoPart, tPart, tTup, tLst, tM1, rIsN, rNotN, wipe, tRetN, tBreak, tCont, List.getElem?_cons_zero, List.getElem?_cons_succ, List.getElem_cons_zero, List.getElem_cons_succ, List.set_cons_zero, List.set_cons_succ, Option.some.injEq, V.int.injEq, V.ref.injEq, V.str.injEq, V.bl.injEq, List.cons.injEq, exists_eq_left', exists_eq_left, exists_eq_right, exists_eq_right', exists_and_left, exists_and_right, exists_eq, exists_eq', exists_false, exists_prop, true_and, and_true, false_and, and_false, or_false, false_or, and_assoc, reduceCtorEq, List.nil_append, List.cons_append, List.append_nil, List.length_cons, List.length_nil, if_true, if_false, Bool.false_eq_true, Bool.not_true, Bool.not_false, decide_eq_true_eq, Bool.not_eq_true', decide_eq_false_iff_not, ite_true, ite_false, L2.start, N_is_plain, N_need_plain, N_places_in, N_is_in, N_need_words, N_in_order, N_least_plain, N_least_words, N_is_above, N_law_start, N_law_below, N_law_chance, N_law_pick, N_law_mixed, N_law_copied, N_law_same, N_law_loose, N_law_spoilt, N_law_is_once, N_law_apart, N_law_bletters, N_law_blies, N_law_border, N_law_bleast, N_law_bword, N_law_bbad, N_law, List.map_cons, List.map_nil, List.replicate_succ, List.replicate_zero])
local macro_rules | `(tactic| walk_at "isb") => `(tactic| simp only [ib_non_str, ib_non_dict, ib_non_list, ib_non_tuple, ib_non_int, ib_non_bool, ib_bl_str, ib_bl_dict, ib_bl_list, ib_bl_tuple, ib_bl_int, ib_bl_bool, ib_int_str, ib_int_dict, ib_int_list, ib_int_tuple, ib_int_int, ib_int_bool, ib_str_str, ib_str_dict, ib_str_list, ib_str_tuple, ib_str_int, ib_str_bool, ib_lst_str, ib_lst_dict, ib_lst_list, ib_lst_tuple, ib_lst_int, ib_lst_bool, ib_tup_str, ib_tup_dict, ib_tup_list, ib_tup_tuple, ib_tup_int, ib_tup_bool, ib_dic_str, ib_dic_dict, ib_dic_list, ib_dic_tuple, ib_dic_int, ib_dic_bool, Bool.true_or, Bool.or_true, Bool.or_false, Bool.false_or, Bool.or_self, if_true, if_false, ite_true, ite_false, Bool.not_true, Bool.not_false, Bool.false_eq_true, decide_true, decide_false, reduceCtorEq, exists_eq_left', exists_eq_left, V.bl.injEq, rNe_bl, rEq_bl, eq_self, if_true, if_false, List.length_replicate])
def sp_bleast (T : List (Addr × PySem.Str)) : Sp := fun vs H Q _ => ∃ (p : Addr) (ws : List PySem.Str), vs = [.ref p] ∧ H p = some (.lst (ws.map V.str)) ∧ okL ws ∧ ∀ q H', Fr T NoA H H' → Nw H q → H' q = some (.lst ((leastW ws).map V.str)) → Q (.ref q) H'
def Pv_bleast (T : List (Addr × PySem.Str)) (os : List PySem.Str) (v0 : V) (H0 H : Hp) : Nat → L2.St → Hp → Prop := fun i σ H1 => ∃ (fp : Addr) (x2 x3 : Option V), σ = [some v0, some (.ref fp), x2, x3] ∧ Fr T NoA H H1 ∧ Nw H0 fp ∧ H1 fp = some (.lst (((os.take i).foldl leastS []).map V.str))
theorem hp_bleast {T : List (Addr × PySem.Str)} {K : PySem.W.Frag} : ∀ vs H Q E, sp_bleast T vs H Q E → t_law_bleast K (sp_border T) (sp_blies T) { nx := fun _ H1 => Q .non H1, rt := Q } (start N_law_bleast vs) H := by
  rintro vs H Q E ⟨p, ws, rfl, hp, ok, q⟩
  unfold t_law_bleast
  refine sq_ ?_
  walk_at "wp"
  intro fp hfp
  refine sq_ ?_
  have f1 : Fr T NoA H (upd H fp (.lst [])) := Fr.new hfp
  walk_at "wp"
  refine ⟨p, ws, rfl, f1.keep _ _ (fun z => z) hp ntL, ok, fun o H1 f2 no ho => ?_⟩
  refine ⟨o, rfl, ⟨_, SqL.of ho⟩, ?_⟩
  have okO := ok.ord
  have f12 := f1.trans f2
  refine ForGo.mk (walk_list (xs := (ordW ws).map V.str)) (Pv_bleast T (ordW ws) (.ref p) H H1) ⟨fp, none, none, rfl, Fr.refl, Nw.of hfp, f2.keep _ _ (fun z => z) upd_same ntL⟩ ?_ ?_ ?_
  · rintro i σ H2 hi ⟨fp, x2, x3, rfl, f, nf, hf⟩
    exact SqL.of (f.keep _ _ (fun z => z) ho ntL)
  · rintro i x σ H2 H3 hi ⟨fp, x2, x3, rfl, f, nf, hf⟩ ⟨rfl, hx⟩
    obtain ⟨z, hz, rfl⟩ := str_at hx
    have okF : okL (((ordW ws).take i).foldl leastS []) := by
      refine ⟨?_, fun y hy => ?_⟩
      · have := least_len ((ordW ws).take i) []
        have := okO.1
        simp at *
        omega
      · rcases least_sub _ _ y hy with h1 | h1
        · cases h1
        · exact okO.2 y (List.mem_of_mem_take h1)
    have okz := okO.2 z (List.mem_of_getElem? hz)
    walk_at "wp"
    refine ⟨⟨_, SqL.of hf⟩, ?_⟩
    refine lc_lies blies_ok hf okF okz.1 (fun _ => rfl) (fun _ => rfl) (fun _ => rfl) fun D H4 f4 nD hD => ?_
    intro b hb
    have nDb : D ≠ b := fun z => by rw [z, hb] at hD; cases hD
    refine eqD_nil (A := NoA) ((upd_ne nDb).trans hD) (.strs _) (flat_strs fun y hy => (okF.2 y (List.mem_filter.mp hy).1).2) upd_same ?_
    refine ⟨_, rfl, ?_⟩
    have f5 : Fr T NoA H1 (upd H4 b (.lst [])) := f.trans (f4.trans (Fr.new hb))
    have hf5 : upd H4 b (.lst []) fp = _ := (f4.trans (Fr.new (T := T) (S := NoA) hb)).keep _ _ (fun z => z) hf ntL
    generalize upd H4 b (.lst []) = H5 at f5 hf5 ⊢
    have e1 : (((((ordW ws).take i).foldl leastS []).filter fun o => lies o z).map PyData.str).isEmpty = !(((ordW ws).take i).foldl leastS []).any (fun o => lies o z) := by
      rw [List.isEmpty_map, any_filter]
    rw [e1]
    cases hany : (((ordW ws).take i).foldl leastS []).any (fun o => lies o z) with
    | true =>
      rw [if_neg (by simp)]
      refine ⟨_, _, _, rfl, f5, nf, ?_⟩
      rw [least_take hz, leastS_yes hany]
      exact hf5
    | false =>
      rw [if_pos (by simp)]
      intro c hc
      have f6 : Fr T NoA H5 (upd H5 c (.lst [.str z])) := Fr.new hc
      have hf6 := f6.keep _ _ (fun z => z) hf5 ntL
      refine ⟨fp, c, _, _, rfl, rfl, hf6, upd_same, big_ (by rw [List.length_map]; have := okF.1; show _ + 1 ≤ _; omega), fun g hg => ?_⟩
      refine ⟨g, _, _, rfl, (f5.trans f6).trans (Fr.new hg), Nw.back (f12.trans (f5.trans f6)) (Nw.of hg), ?_⟩
      rw [upd_same, least_take hz, leastS_no hany]
      simp
  · rintro σ H2 ⟨fp, x2, x3, rfl, f, nf, hf⟩
    walk_at "wp"
    refine q fp H2 (f12.trans f) nf ?_
    rw [List.length_map, List.take_length] at hf
    exact hf
/-! ### things that are no lists of words -/
def aa201 : PySem.Str := Txt.mul "a" 201
theorem aa_len : aa201.length = 201 := by decide +kernel
theorem aa_ok : PyData.strOk aa201 = true := by decide +kernel
theorem aa_mul : MulOk "a" 201 := by unfold MulOk; decide +kernel
def oddDs : List PyData := [.none, .int 5, .str "A", .str "a\n", .list [.str "a"], .str aa201, .str "1", .bool true]
theorem odd_bad : ∀ d ∈ oddDs, plainD d = false ∧ okS d := by
  intro d hd
  simp only [oddDs, List.mem_cons, List.not_mem_nil, or_false] at hd
  rcases hd with rfl | rfl | rfl | rfl | rfl | rfl | rfl | rfl
  · exact ⟨rfl, trivial⟩
  · exact ⟨rfl, trivial⟩
  · exact ⟨by decide +kernel, ⟨by decide, by decide +kernel⟩⟩
  · exact ⟨by decide +kernel, ⟨by decide, by decide +kernel⟩⟩
  · exact ⟨rfl, trivial⟩
  · exact ⟨by show plainS aa201 = false; unfold plainS; rw [aa_len]; rfl, ⟨by rw [aa_len]; decide, aa_ok⟩⟩
  · exact ⟨by decide +kernel, ⟨by decide, by decide +kernel⟩⟩
  · exact ⟨rfl, trivial⟩
def badDs : List PyData := [.none, .int 5, .str "ab", .dict [], .list (List.replicate 201 (.str "a"))]
theorem bad_bad : ∀ d ∈ badDs, nw d = .inr 0 ∧ okW d := by
  intro d hd
  simp only [badDs, List.mem_cons, List.not_mem_nil, or_false] at hd
  rcases hd with rfl | rfl | rfl | rfl | rfl
  · exact ⟨rfl, trivial⟩
  · exact ⟨rfl, trivial⟩
  · exact ⟨rfl, trivial⟩
  · exact ⟨rfl, trivial⟩
  · refine ⟨rfl, fun d hd => ?_⟩
    rw [List.eq_of_mem_replicate hd]
    exact ⟨by decide, by decide +kernel⟩
/-- a thing put into a list of words -/
theorem put_bad {ws : List PySem.Str} {d : PyData} {i : Nat} (h : ∀ z ∈ ws, plainS z = true) (hl : ws.length ≤ 100) (hi : i ≤ ws.length) (hd : plainD d = false) :
    nw (.list ((ws.take i).map PyData.str ++ [d] ++ (ws.drop i).map PyData.str)) = .inr i := by
  show nwL _ = _
  unfold nwL
  rw [if_neg (by simp; omega)]
  have e : ((ws.take i).map PyData.str ++ [d] ++ (ws.drop i).map PyData.str).findIdx? (fun d => !plainD d) = some i := by
    rw [List.findIdx?_eq_some_iff_getElem]
    have hl1 : ((ws.take i).map PyData.str).length = i := by simp; omega
    refine ⟨by simp; omega, ?_, fun j hj => ?_⟩
    · have e1 : ((ws.take i).map PyData.str ++ [d] ++ (ws.drop i).map PyData.str)[i]? = some d := by
        rw [List.append_assoc, List.getElem?_append_right (by omega), hl1]
        simp
      rw [(List.getElem?_eq_some_iff.mp e1).2, hd]
      rfl
    · have hj2 : j < ((ws.take i).map PyData.str).length := by omega
      have e1 : ((ws.take i).map PyData.str ++ [d] ++ (ws.drop i).map PyData.str)[j]? = ((ws.take i).map PyData.str)[j]? := by
        rw [List.append_assoc, List.getElem?_append_left hj2]
      have e2 := List.getElem?_eq_getElem hj2
      rw [e2] at e1
      rw [(List.getElem?_eq_some_iff.mp e1).2]
      obtain ⟨z, hz, e3⟩ := List.mem_map.mp (List.getElem_mem hj2)
      rw [← e3]
      have : plainS z = true := h z (List.mem_of_mem_take hz)
      simp [plainD, this]
  rw [e]
def sp_bbad (T : List (Addr × PySem.Str)) : Sp := fun vs H Q _ => ∃ (st sc : Addr) (k : Nat) (p : Addr) (ws : List PySem.Str), vs = [.ref st, .ref p] ∧ Strm st sc k H ∧ k < 2 ^ 39 ∧ H p = some (.lst (ws.map V.str)) ∧ Ot2 st sc p ∧ ws.length ≤ 100 ∧ (∀ z ∈ ws, plainS z = true) ∧
  ∀ x d (i : Nat) H', Fr T (St2 st sc) H H' → Rp (Nw H) H' x (.tuple [d, .int i]) → okW d → nw d = .inr i → Strm st sc (k + 3) H' → Q x H'
theorem hp_bbad {T : List (Addr × PySem.Str)} {K : PySem.W.Frag} : ∀ vs H Q E, sp_bbad T vs H Q E → t_law_bbad K (sp_pick T) (sp_chance T) (sp_below T) { nx := fun _ H1 => Q .non H1, rt := Q } (start N_law_bbad vs) H := by
  rintro vs H Q E ⟨st, sc, k, p, ws, rfl, sm, hk, hp, op, hl, hws, q⟩
  unfold t_law_bbad
  refine sq_ ?_
  walk_at "wp"
  intro l1 hl1
  refine ⟨"a", 201, rfl, rfl, aa_mul, ?_⟩
  intro l2 hl2
  have f1 : Fr T NoA H (upd H l1 (.lst [.str "a"])) := Fr.new hl1
  have g1 : upd H l1 (.lst [.str "a"]) l1 = some (.lst [.str "a"]) := upd_same
  generalize upd H l1 (.lst [.str "a"]) = H1 at f1 g1 hl2 ⊢
  have hR1 : Rps (Nw H) H1 [.non, .int 5, .str "A", .str "a\n", .ref l1, .str aa201, .str "1", .bl true] oddDs :=
    .cons .non (.cons (.int 5) (.cons (.str _) (.cons (.str _) (.cons (.lst (Nw.of hl1) g1 (.cons (.str _) .nil)) (.cons (.str _) (.cons (.str _) (.cons (.bl true) .nil)))))))
  have ol2 : Ot2 st sc l2 := sm.ot (Nw.back f1 (Nw.of hl2))
  have f2 : Fr T NoA H (upd H1 l2 (.lst [.non, .int 5, .str "A", .str "a\n", .ref l1, .str aa201, .str "1", .bl true])) := f1.trans (Fr.new hl2)
  have hR2 := hR1.fr (Fr.new (T := T) (S := NoA) (o := .lst [.non, .int 5, .str "A", .str "a\n", .ref l1, .str aa201, .str "1", .bl true]) hl2) fun _ _ z => z
  refine ⟨st, sc, k, l2, [.non, .int 5, .str "A", .str "a\n", .ref l1, .str aa201, .str "1", .bl true], rfl, sm.fr f2 (fun z => z) (fun z => z), by omega, upd_same, ol2, by show 0 < 8; decide, by show 8 ≤ 1000; decide, fun H3 i x hx f3 s3 => ?_⟩
  obtain ⟨d, hd, hrd⟩ := Rps.get hR2 hx
  have hbad := odd_bad d (List.mem_of_getElem? hd)
  have hrd3 : Rp (Nw H) H3 x d := hrd.fr f3 fun b nb => ot_st (sm.ot nb)
  have f13 : Fr T (St2 st sc) H H3 := f2.any.trans f3
  clear hR1 hR2 hrd hx hd g1
  clear f1 f2 f3 hl2 hl1
  refine sq_ ?_
  walk_at "wp"
  refine ⟨st, sc, k + 1, 4, rfl, s3, by omega, by decide, by decide, fun H4 b f4 s4 => ⟨_, rfl, ?_⟩⟩
  have hrd4 : Rp (Nw H) H4 x d := hrd3.fr f4 fun b nb => ot_st (sm.ot nb)
  have f14 := f13.trans f4
  have hp4 := f14.keep _ _ (ot_st op) hp ntL
  cases b with
  | true =>
    rw [if_pos rfl]
    have f1_4 := f14
    intro a1 ha1
    have fa1 : Fr T NoA H4 (upd H4 a1 (.tup [.non, .int 0])) := Fr.new ha1
    have na1 : Nw H a1 := Nw.back f1_4 (Nw.of ha1)
    have ga1 : upd H4 a1 (.tup [.non, .int 0]) a1 = some (.tup [.non, .int 0]) := upd_same
    generalize upd H4 a1 (.tup [.non, .int 0]) = H5 at fa1 ga1 ⊢
    have f1_5 := f1_4.trans fa1.any
    intro a2 ha2
    have fa2 : Fr T NoA H5 (upd H5 a2 (.tup [.int 5, .int 0])) := Fr.new ha2
    have na2 : Nw H a2 := Nw.back f1_5 (Nw.of ha2)
    have ga2 : upd H5 a2 (.tup [.int 5, .int 0]) a2 = some (.tup [.int 5, .int 0]) := upd_same
    generalize upd H5 a2 (.tup [.int 5, .int 0]) = H6 at fa2 ga2 ⊢
    have f1_6 := f1_5.trans fa2.any
    intro a3 ha3
    have fa3 : Fr T NoA H6 (upd H6 a3 (.tup [.str "ab", .int 0])) := Fr.new ha3
    have na3 : Nw H a3 := Nw.back f1_6 (Nw.of ha3)
    have ga3 : upd H6 a3 (.tup [.str "ab", .int 0]) a3 = some (.tup [.str "ab", .int 0]) := upd_same
    generalize upd H6 a3 (.tup [.str "ab", .int 0]) = H7 at fa3 ga3 ⊢
    have f1_7 := f1_6.trans fa3.any
    intro a4 ha4
    have fa4 : Fr T NoA H7 (upd H7 a4 (.dK [])) := Fr.new ha4
    have na4 : Nw H a4 := Nw.back f1_7 (Nw.of ha4)
    have ga4 : upd H7 a4 (.dK []) a4 = some (.dK []) := upd_same
    generalize upd H7 a4 (.dK []) = H8 at fa4 ga4 ⊢
    have f1_8 := f1_7.trans fa4.any
    intro a5 ha5
    have fa5 : Fr T NoA H8 (upd H8 a5 (.tup [.ref a4, .int 0])) := Fr.new ha5
    have na5 : Nw H a5 := Nw.back f1_8 (Nw.of ha5)
    have ga5 : upd H8 a5 (.tup [.ref a4, .int 0]) a5 = some (.tup [.ref a4, .int 0]) := upd_same
    generalize upd H8 a5 (.tup [.ref a4, .int 0]) = H9 at fa5 ga5 ⊢
    have f1_9 := f1_8.trans fa5.any
    intro a6 ha6
    have fa6 : Fr T NoA H9 (upd H9 a6 (.lst [.str "a"])) := Fr.new ha6
    have na6 : Nw H a6 := Nw.back f1_9 (Nw.of ha6)
    have ga6 : upd H9 a6 (.lst [.str "a"]) a6 = some (.lst [.str "a"]) := upd_same
    generalize upd H9 a6 (.lst [.str "a"]) = H10 at fa6 ga6 ⊢
    have f1_10 := f1_9.trans fa6.any
    refine ⟨a6, 201, _, rfl, rfl, ga6, by decide, by decide, by show 1 * 201 ≤ sizeLine; decide, fun a7 ha7 => ?_⟩
    have erep : (List.replicate (201 : Int).toNat [V.str "a"]).flatten = (List.replicate 201 ("a" : PySem.Str)).map V.str := by decide +kernel
    rw [erep]
    have fa7 : Fr T NoA H10 (upd H10 a7 (.lst ((List.replicate 201 ("a" : PySem.Str)).map V.str))) := Fr.new ha7
    have na7 : Nw H a7 := Nw.back f1_10 (Nw.of ha7)
    have ga7 : upd H10 a7 (.lst ((List.replicate 201 ("a" : PySem.Str)).map V.str)) a7 = some (.lst ((List.replicate 201 ("a" : PySem.Str)).map V.str)) := upd_same
    generalize upd H10 a7 (.lst ((List.replicate 201 ("a" : PySem.Str)).map V.str)) = H11 at fa7 ga7 ⊢
    have f1_11 := f1_10.trans fa7.any
    intro a8 ha8
    have fa8 : Fr T NoA H11 (upd H11 a8 (.tup [.ref a7, .int 0])) := Fr.new ha8
    have na8 : Nw H a8 := Nw.back f1_11 (Nw.of ha8)
    have ga8 : upd H11 a8 (.tup [.ref a7, .int 0]) a8 = some (.tup [.ref a7, .int 0]) := upd_same
    generalize upd H11 a8 (.tup [.ref a7, .int 0]) = H12 at fa8 ga8 ⊢
    have f1_12 := f1_11.trans fa8.any
    intro a9 ha9
    have fa9 : Fr T NoA H12 (upd H12 a9 (.lst [.ref a1, .ref a2, .ref a3, .ref a5, .ref a8])) := Fr.new ha9
    have na9 : Nw H a9 := Nw.back f1_12 (Nw.of ha9)
    have ga9 : upd H12 a9 (.lst [.ref a1, .ref a2, .ref a3, .ref a5, .ref a8]) a9 = some (.lst [.ref a1, .ref a2, .ref a3, .ref a5, .ref a8]) := upd_same
    generalize upd H12 a9 (.lst [.ref a1, .ref a2, .ref a3, .ref a5, .ref a8]) = H13 at fa9 ga9 ⊢
    have f1_13 := f1_12.trans fa9.any
    have z12 := fa8.trans fa9
    have z11 := fa7.trans z12
    have z10 := z11
    have z9 := fa6.trans z10
    have z8 := fa5.trans z9
    have z7 := fa4.trans z8
    have z6 := fa3.trans z7
    have z5 := fa2.trans z6
    have s13 : Strm st sc (k + 1 + 1) H13 := s4.fr (fa1.trans z5) (fun z => z) (fun z => z)
    have hR : Rps (Nw H) H13 [.ref a1, .ref a2, .ref a3, .ref a5, .ref a8] (badDs.map fun d => .tuple [d, .int 0]) := by
      refine .cons (.tup na1 (z5.keep _ _ (fun z => z) ga1 ntT) (.cons .non (.cons (.int 0) .nil))) (.cons (.tup na2 (z6.keep _ _ (fun z => z) ga2 ntT) (.cons (.int 5) (.cons (.int 0) .nil)))
        (.cons (.tup na3 (z7.keep _ _ (fun z => z) ga3 ntT) (.cons (.str _) (.cons (.int 0) .nil))) (.cons (.tup na5 (z9.keep _ _ (fun z => z) ga5 ntT) (.cons (.dic na4 (z8.keep _ _ (fun z => z) ga4 ntD)) (.cons (.int 0) .nil)))
        (.cons (.tup na8 (fa9.keep _ _ (fun z => z) ga8 ntT) (.cons (.lst na7 (z12.keep _ _ (fun z => z) ga7 ntL) ?_) (.cons (.int 0) .nil))) .nil))))
      have e2 : (List.replicate 201 (PyData.str "a")) = (List.replicate 201 ("a" : PySem.Str)).map PyData.str := by rw [List.map_replicate]
      rw [e2]
      exact Rps.strs _
    refine ⟨st, sc, k + 1 + 1, a9, _, rfl, s13, by omega, ga9, sm.ot na9, by show 0 < 5; decide, by show 5 ≤ 1000; decide, fun H14 i2 y hy f14' s14 => ?_⟩
    obtain ⟨d2, hd2, hrd2⟩ := Rps.get hR hy
    obtain ⟨d3, hd3, rfl⟩ := List.mem_map.mp (List.mem_of_getElem? hd2)
    have hb := bad_bad d3 hd3
    exact q y d3 0 H14 (f1_13.trans f14') (hrd2.fr f14' fun b nb => ot_st (sm.ot nb)) hb.2 hb.1 s14
  | false =>
    rw [if_neg (by simp)]
    refine sq_ ?_
    walk_at "wp"
    refine len_ hp4 ?_
    walk_at "wp"
    rw [List.length_map]
    refine ⟨st, sc, k + 1 + 1, _, rfl, s4, by omega, by omega, by omega, fun H5 e f5 s5 e0 e1 => ?_⟩
    obtain ⟨j, rfl⟩ := Int.eq_ofNat_of_zero_le e0
    have hj : j ≤ ws.length := by omega
    have f15 := f14.trans f5
    have hp5 := f15.keep _ _ (ot_st op) hp ntL
    have hrd5 : Rp (Nw H) H5 x d := hrd4.fr f5 fun b nb => ot_st (sm.ot nb)
    have ecut1 : cutV (ws.map V.str) none (some (j : Int)) = (ws.take j).map V.str := by
      unfold cutV
      rw [HT.sIx_none, HT.sIx_nat, List.length_map]
      simp [Nat.min_eq_left hj]
    have ecut2 : cutV (ws.map V.str) (some (j : Int)) none = (ws.drop j).map V.str := by
      unfold cutV
      rw [HT.sIx_none, HT.sIx_nat, List.length_map, Nat.min_eq_left hj]
      rw [List.take_of_length_le (by simp)]
      simp
    refine ⟨_, rfl, p, _, rfl, SqL.of hp5, ?_⟩
    rw [ecut1]
    intro c1 hc1 c2 hc2
    have fc1 : Fr T NoA H5 (upd H5 c1 (.lst ((ws.take j).map V.str))) := Fr.new hc1
    have gc1 : upd H5 c1 (.lst ((ws.take j).map V.str)) c1 = some (.lst ((ws.take j).map V.str)) := upd_same
    have fc2 : Fr T NoA (upd H5 c1 (.lst ((ws.take j).map V.str))) (upd (upd H5 c1 (.lst ((ws.take j).map V.str))) c2 (.lst [x])) := Fr.new hc2
    have gc1' := fc2.keep _ _ (fun z => z) gc1 ntL
    have gc2 : upd (upd H5 c1 (.lst ((ws.take j).map V.str))) c2 (.lst [x]) c2 = some (.lst [x]) := upd_same
    have fc := fc1.trans fc2
    clear gc1 fc1 fc2
    generalize upd (upd H5 c1 (.lst ((ws.take j).map V.str))) c2 (.lst [x]) = H6 at fc gc1' gc2 ⊢
    refine ⟨c1, c2, _, _, rfl, rfl, gc1', gc2, big_ (by simp; omega), fun c3 hc3 => ?_⟩
    have fc3 : Fr T NoA H6 (upd H6 c3 (.lst ((ws.take j).map V.str ++ [x]))) := Fr.new hc3
    have gc3 : upd H6 c3 (.lst ((ws.take j).map V.str ++ [x])) c3 = some (.lst ((ws.take j).map V.str ++ [x])) := upd_same
    have fd := fc.trans fc3
    generalize upd H6 c3 (.lst ((ws.take j).map V.str ++ [x])) = H7 at fc3 gc3 fd ⊢
    refine ⟨_, rfl, p, _, rfl, SqL.of (fd.keep _ _ (fun z => z) hp5 ntL), ?_⟩
    rw [ecut2]
    intro c4 hc4
    have fc4 : Fr T NoA H7 (upd H7 c4 (.lst ((ws.drop j).map V.str))) := Fr.new hc4
    have gc4 : upd H7 c4 (.lst ((ws.drop j).map V.str)) c4 = some (.lst ((ws.drop j).map V.str)) := upd_same
    have gc3' := fc4.keep _ _ (fun z => z) gc3 ntL
    have fe := fd.trans fc4
    generalize upd H7 c4 (.lst ((ws.drop j).map V.str)) = H8 at fc4 gc4 gc3' fe ⊢
    refine ⟨c3, c4, _, _, rfl, rfl, gc3', gc4, big_ (by simp; omega), fun c5 hc5 => ?_⟩
    have fc5 : Fr T NoA H8 (upd H8 c5 (.lst ((ws.take j).map V.str ++ [x] ++ (ws.drop j).map V.str))) := Fr.new hc5
    have gc5 : upd H8 c5 (.lst ((ws.take j).map V.str ++ [x] ++ (ws.drop j).map V.str)) c5 = some (.lst ((ws.take j).map V.str ++ [x] ++ (ws.drop j).map V.str)) := upd_same
    have ff := fe.trans fc5
    have nc5 : Nw H c5 := Nw.back (f15.trans fe.any) (Nw.of hc5)
    generalize upd H8 c5 (.lst ((ws.take j).map V.str ++ [x] ++ (ws.drop j).map V.str)) = H9 at fc5 gc5 ff ⊢
    intro c6 hc6
    have fc6 : Fr T NoA H9 (upd H9 c6 (.tup [.ref c5, .int j])) := Fr.new hc6
    have nc6 : Nw H c6 := Nw.back (f15.trans ff.any) (Nw.of hc6)
    have fg := ff.trans fc6
    refine q (.ref c6) (.list ((ws.take j).map PyData.str ++ [d] ++ (ws.drop j).map PyData.str)) j _ (f15.trans fg.any) ?_ ?_ (put_bad hws hl hj hbad.1) (s5.fr fg (fun z => z) (fun z => z))
    · refine .tup nc6 upd_same (.cons (.lst nc5 (fc6.keep _ _ (fun z => z) gc5 ntL) ?_) (.cons (.int _) .nil))
      exact ((Rps.strs _).app (.one (hrd5.fr fg fun _ _ z => z))).app (Rps.strs _)
    · intro e he
      rcases List.mem_append.mp he with he | he
      · rcases List.mem_append.mp he with he | he
        · obtain ⟨z, hz, rfl⟩ := List.mem_map.mp he
          exact plainS_ok (hws z (List.mem_of_mem_take hz))
        · rw [List.mem_singleton.mp he]
          exact hbad.2
      · obtain ⟨z, hz, rfl⟩ := List.mem_map.mp he
        exact plainS_ok (hws z (List.mem_of_mem_drop hz))
end Lo
set_option Elab.async false
set_option linter.all false
set_option maxRecDepth 100000
set_option maxHeartbeats 4000000
namespace Lo
open PySem PySem.Spec PyProof.Rows L2
open LamX (Tabs TabS ExtN CodeO)
local macro_rules | `(tactic| walk_at "wp") => `(tactic| simp only [tDNewK, tLc_eq, tFor_eq, tDc_eq, iList, iTup, iStr, iRng1, iEnum, iEnumU, RZ.iZipA, iKeys, tLk, tSortLw, Er_thing.tRaise, Er_thing.tMk, Er_index.tRaise, Er_index.tMk, rEq_int, rNe_int, rEq_str, rNe_str, rEq_bl, rNe_bl, sl0, sl1, sl2, sl3, sl4, sl5, sl6, sl8, tAsg, gName, tVar, tC, tOp, tCons, tNil, tRet, tDrop, tIfS, tTest, tB, tNot, tAnd, tOr, tAndV, tOrV, tNotV, tIf, tNext, tCall, tCB, tBM, tBM0, tPar, tAug, ipI, rI0, rI, rInt1, gSub, tSl, tNoPart, tPart, tTup, tLst, tM1, rIsN, rNotN, wipe, tRetN, tBreak, tCont, List.getElem?_cons_zero, List.getElem?_cons_succ, List.getElem_cons_zero, List.getElem_cons_succ, List.set_cons_zero, List.set_cons_succ, Option.some.injEq, V.int.injEq, V.ref.injEq, V.str.injEq, V.bl.injEq, List.cons.injEq, exists_eq_left', exists_eq_left, exists_eq_right, exists_eq_right', exists_and_left, exists_and_right, exists_eq, exists_eq', exists_false, exists_prop, true_and, and_true, false_and, and_false, or_false, false_or, and_assoc, reduceCtorEq, List.nil_append, List.cons_append, List.append_nil, List.length_cons, List.length_nil, if_true, if_false, Bool.false_eq_true, Bool.not_true, Bool.not_false, decide_eq_true_eq, Bool.not_eq_true', decide_eq_false_iff_not, ite_true, ite_false, L2.start, N_is_plain, N_need_plain, N_places_in, N_is_in, N_need_words, N_in_order, N_least_plain, N_least_words, N_is_above, N_law_start, N_law_below, N_law_chance, N_law_pick, N_law_mixed, N_law_copied, N_law_same, N_law_loose, N_law_spoilt, N_law_is_once, N_law_apart, N_law_bletters, N_law_blies, N_law_border, N_law_bleast, N_law_bword, N_law_bbad, N_law, List.map_cons, List.map_nil, List.replicate_succ, List.replicate_zero])
local macro_rules | `(tactic| walk_at "isb") => `(tactic| simp only [ib_non_str, ib_non_dict, ib_non_list, ib_non_tuple, ib_non_int, ib_non_bool, ib_bl_str, ib_bl_dict, ib_bl_list, ib_bl_tuple, ib_bl_int, ib_bl_bool, ib_int_str, ib_int_dict, ib_int_list, ib_int_tuple, ib_int_int, ib_int_bool, ib_str_str, ib_str_dict, ib_str_list, ib_str_tuple, ib_str_int, ib_str_bool, ib_lst_str, ib_lst_dict, ib_lst_list, ib_lst_tuple, ib_lst_int, ib_lst_bool, ib_tup_str, ib_tup_dict, ib_tup_list, ib_tup_tuple, ib_tup_int, ib_tup_bool, ib_dic_str, ib_dic_dict, ib_dic_list, ib_dic_tuple, ib_dic_int, ib_dic_bool, Bool.true_or, Bool.or_true, Bool.or_false, Bool.false_or, Bool.or_self, if_true, if_false, ite_true, ite_false, Bool.not_true, Bool.not_false, Bool.false_eq_true, decide_true, decide_false, reduceCtorEq, exists_eq_left', exists_eq_left, V.bl.injEq, rNe_bl, rEq_bl, eq_self, if_true, if_false, List.length_replicate])
/-! ### the plain law -/
theorem lwKey_inj {a b : PySem.Str} (h : PySem.W.keyToks (lwKey a) = PySem.W.keyToks (lwKey b)) : a = b := by
  have h2 : ([.inl 1, .inl (a.length : Int), .inl 1, .inr a.cps.toList, .inl 0] : List (Int ⊕ List Nat)) = [.inl 1, .inl (b.length : Int), .inl 1, .inr b.cps.toList, .inl 0] := h
  simp only [List.cons.injEq, Sum.inr.injEq] at h2
  have h3 := h2.2.2.2.1
  cases a
  cases b
  simpa using h3
theorem le_anti {a b : PySem.Str} (h1 : PySem.W.dataLe false lwKey a b = true) (h2 : PySem.W.dataLe false lwKey b a = true) : a = b := by
  refine lwKey_inj ((listOrd itemOrd).total _ _ ?_ ?_)
  · have : (!(listOrd itemOrd).blt (PySem.W.keyToks (lwKey a)) (PySem.W.keyToks (lwKey b))) = true := h2
    simpa using this
  · have : (!(listOrd itemOrd).blt (PySem.W.keyToks (lwKey b)) (PySem.W.keyToks (lwKey a))) = true := h1
    simpa using this
theorem sorted_uniq {le : PySem.Str → PySem.Str → Bool} (anti : ∀ a b, le a b = true → le b a = true → a = b) : ∀ {l1 l2 : List PySem.Str}, l1.Perm l2 → l1.Pairwise (fun a b => le a b = true) → l2.Pairwise (fun a b => le a b = true) → l1 = l2
  | [], l2, p, _, _ => (List.Perm.nil_eq p)
  | a :: l1, [], p, _, _ => by have := p.length_eq; simp at this
  | a :: l1, b :: l2, p, h1, h2 => by
    obtain ⟨h1a, h1b⟩ := List.pairwise_cons.mp h1
    obtain ⟨h2a, h2b⟩ := List.pairwise_cons.mp h2
    have e : a = b := by
      have m1 : a ∈ b :: l2 := p.mem_iff.mp (List.mem_cons_self ..)
      have m2 : b ∈ a :: l1 := p.mem_iff.mpr (List.mem_cons_self ..)
      rcases List.mem_cons.mp m1 with h | h
      · exact h
      · rcases List.mem_cons.mp m2 with g | g
        · exact g.symm
        · exact anti a b (h1a b g) (h2a a h)
    subst e
    rw [sorted_uniq anti (List.Perm.cons_inv p) h1b h2b]
theorem dd_nodup : ∀ (ws acc : List PySem.Str), acc.Nodup → (ws.foldl ddk acc).Nodup
  | [], _, h => h
  | w :: ws, acc, h => by
    refine dd_nodup ws _ ?_
    unfold ddk
    split
    · exact h
    · rename_i hn
      rw [List.nodup_append]
      refine ⟨h, by simp, fun a ha b hb => ?_⟩
      rw [List.mem_singleton.mp hb]
      exact fun e => hn (e ▸ ha)
theorem dd_perm {ws vs : List PySem.Str} (p : ws.Perm vs) : (dd ws).Perm (dd vs) := by
  rw [List.perm_iff_count]
  intro a
  have n1 : (dd ws).Nodup := dd_nodup ws [] List.nodup_nil
  have n2 : (dd vs).Nodup := dd_nodup vs [] List.nodup_nil
  have hm : a ∈ dd ws ↔ a ∈ dd vs := by
    unfold dd
    rw [dd_mem, dd_mem]
    simp [p.mem_iff]
  by_cases h : a ∈ dd ws
  · rw [n1.count (a := a), n2.count (a := a)]
    rw [if_pos h, if_pos (hm.mp h)]
  · rw [List.count_eq_zero_of_not_mem h, List.count_eq_zero_of_not_mem fun z => h (hm.mpr z)]
theorem ord_perm {ws vs : List PySem.Str} (p : ws.Perm vs) : ordW ws = ordW vs := by
  have t := PySem.W.sortLe_total (listOrd itemOrd) false fun z => PySem.W.keyToks (lwKey z)
  refine sorted_uniq (le := PySem.W.dataLe false lwKey) (fun a b => le_anti) ?_ ?_ ?_
  · exact (List.mergeSort_perm _ _).trans ((dd_perm p).trans (List.mergeSort_perm _ _).symm)
  · exact List.pairwise_mergeSort t.trans (fun a b => by rw [Bool.or_eq_true]; exact t.total a b) _
  · exact List.pairwise_mergeSort t.trans (fun a b => by rw [Bool.or_eq_true]; exact t.total a b) _
theorem least_perm {ws vs : List PySem.Str} (p : ws.Perm vs) : leastW ws = leastW vs := by
  unfold leastW
  rw [ord_perm p]
theorem lies_iff (a b : PySem.Str) : lies a b = true ↔ a.cps.toList.Sublist b.cps.toList := by
  unfold lies
  exact List.isSublist_iff_sublist
theorem lies_trans {a b c : PySem.Str} (h1 : lies a b = true) (h2 : lies b c = true) : lies a c = true := by
  rw [lies_iff] at *
  exact h1.trans h2
/-- whatever is gone through has a kept one within it -/
theorem least_dom : ∀ (os acc : List PySem.Str) (z : PySem.Str), z ∈ os → ∃ y ∈ os.foldl leastS acc, lies y z = true := by
  have mono : ∀ (os acc : List PySem.Str) (y : PySem.Str), y ∈ acc → y ∈ os.foldl leastS acc := by
    intro os
    induction os with
    | nil => exact fun _ _ h => h
    | cons w os ih =>
      intro acc y h
      refine ih _ y ?_
      unfold leastS
      split
      · exact h
      · exact List.mem_append_left _ h
  intro os
  induction os with
  | nil => exact fun _ _ h => nomatch h
  | cons w os ih =>
    intro acc z hz
    rcases List.mem_cons.mp hz with rfl | hz
    · cases h : acc.any (fun o => lies o z) with
      | true =>
        obtain ⟨y, hy, hl⟩ := List.any_eq_true.mp h
        exact ⟨y, mono os (leastS acc z) y (by rw [leastS_yes h]; exact hy), hl⟩
      | false =>
        refine ⟨z, mono os (leastS acc z) z (by rw [leastS_no h]; simp), ?_⟩
        rw [lies_iff]
        exact List.Sublist.refl _
    · exact ih _ z hz
theorem least_any (ws : List PySem.Str) (z : PySem.Str) : (leastW ws).any (fun o => lies o z) = ws.any (fun o => lies o z) := by
  rw [Bool.eq_iff_iff, List.any_eq_true, List.any_eq_true]
  constructor
  · rintro ⟨y, hy, h⟩
    rcases least_sub _ _ y hy with h1 | h1
    · cases h1
    · exact ⟨y, (ord_mem ws y).mp h1, h⟩
  · rintro ⟨y, hy, h⟩
    obtain ⟨x, hx, h2⟩ := least_dom (ordW ws) [] y ((ord_mem ws y).mpr hy)
    exact ⟨x, hx, lies_trans h2 h⟩
/-- lists of plain words -/
theorem nw_strs {ws : List PySem.Str} (h : ∀ z ∈ ws, plainS z = true) (hl : ws.length ≤ 200) : nwL (ws.map PyData.str) = .inl ws := by
  unfold nwL
  rw [if_neg (by rw [List.length_map]; omega)]
  have e : (ws.map PyData.str).findIdx? (fun d => !plainD d) = none := by
    rw [List.findIdx?_eq_none_iff]
    intro d hd
    obtain ⟨z, hz, rfl⟩ := List.mem_map.mp hd
    simp [plainD, h z hz]
  rw [e]
  show Sum.inl _ = Sum.inl _
  rw [List.map_map]
  congr 1
  exact List.map_id'' (fun z => rfl) _
def long : PySem.Str := Txt.mul "ab" 100
theorem long_mul : MulOk "ab" 100 := by unfold MulOk; decide +kernel
theorem last_least : leastW [long, cutS long (some 1) none, "", "b"] = ([""] : List PySem.Str) := by
  have e : ordW [long, cutS long (some 1) none, "", "b"] = ([("" : PySem.Str), "b", cutS long (some 1) none, long] : List PySem.Str) := by
    refine sorted_uniq (le := PySem.W.dataLe false lwKey) (fun a b => le_anti) ?_ ?_ ?_
    · refine (List.mergeSort_perm _ _).trans ?_
      rw [← List.isPerm_iff]
      decide +kernel
    · have t := PySem.W.sortLe_total (listOrd itemOrd) false fun z => PySem.W.keyToks (lwKey z)
      exact List.pairwise_mergeSort t.trans (fun a b => by rw [Bool.or_eq_true]; exact t.total a b) _
    · decide +kernel
  unfold leastW
  rw [e]
  decide +kernel
theorem last_nw : nw (.list [.str long, .str (cutS long (some 1) none), .str "", .str "b"]) = .inl [long, cutS long (some 1) none, "", "b"] := by decide +kernel
end Lo
set_option Elab.async false
set_option linter.all false
set_option maxRecDepth 100000
set_option maxHeartbeats 4000000
namespace Lo
open PySem PySem.Spec PyProof.Rows L2
open LamX (Tabs TabS ExtN CodeO)
local macro_rules | `(tactic| walk_at "wp") => `(tactic| simp only [tDNewK, tLc_eq, tFor_eq, tDc_eq, iList, iTup, iStr, iRng1, iEnum, iEnumU, RZ.iZipA, iKeys, tLk, tSortLw, Er_thing.tRaise, Er_thing.tMk, Er_index.tRaise, Er_index.tMk, rEq_int, rNe_int, rEq_str, rNe_str, rEq_bl, rNe_bl, sl0, sl1, sl2, sl3, sl4, sl5, sl6, sl8, tAsg, gName, tVar, tC, tOp, tCons, tNil, tRet, tDrop, tIfS, tTest, tB, tNot, tAnd, tOr, tAndV, tOrV, tNotV, tIf, tNext, tCall, tCB, tBM, tBM0, tPar, tAug, ipI, rI0, rI, rInt1, gSub, tSl, tNoPart, tPart, tTup, tLst, tM1, rIsN, rNotN, wipe, tRetN, tBreak, tCont, List.getElem?_cons_zero, List.getElem?_cons_succ, List.getElem_cons_zero, List.getElem_cons_succ, List.set_cons_zero, List.set_cons_succ, Option.some.injEq, V.int.injEq, V.ref.injEq, V.str.injEq, V.bl.injEq, List.cons.injEq, exists_eq_left', exists_eq_left, exists_eq_right, exists_eq_right', exists_and_left, exists_and_right, exists_eq, exists_eq', exists_false, exists_prop, true_and, and_true, false_and, and_false, or_false, false_or, and_assoc, reduceCtorEq, List.nil_append, List.cons_append, List.append_nil, List.length_cons, List.length_nil, if_true, if_false, Bool.false_eq_true, Bool.not_true, Bool.not_false, decide_eq_true_eq, Bool.not_eq_true', decide_eq_false_iff_not, ite_true, ite_false, L2.start, N_is_plain, N_need_plain, N_places_in, N_is_in, N_need_words, N_in_order, N_least_plain, N_least_words, N_is_above, N_law_start, N_law_below, N_law_chance, N_law_pick, N_law_mixed, N_law_copied, N_law_same, N_law_loose, N_law_spoilt, N_law_is_once, N_law_apart, N_law_bletters, N_law_blies, N_law_border, N_law_bleast, N_law_bword, N_law_bbad, N_law, List.map_cons, List.map_nil, List.replicate_succ, List.replicate_zero])
local macro_rules | `(tactic| walk_at "isb") => `(tactic| simp only [ib_non_str, ib_non_dict, ib_non_list, ib_non_tuple, ib_non_int, ib_non_bool, ib_bl_str, ib_bl_dict, ib_bl_list, ib_bl_tuple, ib_bl_int, ib_bl_bool, ib_int_str, ib_int_dict, ib_int_list, ib_int_tuple, ib_int_int, ib_int_bool, ib_str_str, ib_str_dict, ib_str_list, ib_str_tuple, ib_str_int, ib_str_bool, ib_lst_str, ib_lst_dict, ib_lst_list, ib_lst_tuple, ib_lst_int, ib_lst_bool, ib_tup_str, ib_tup_dict, ib_tup_list, ib_tup_tuple, ib_tup_int, ib_tup_bool, ib_dic_str, ib_dic_dict, ib_dic_list, ib_dic_tuple, ib_dic_int, ib_dic_bool, Bool.true_or, Bool.or_true, Bool.or_false, Bool.false_or, Bool.or_self, if_true, if_false, ite_true, ite_false, Bool.not_true, Bool.not_false, Bool.false_eq_true, decide_true, decide_false, reduceCtorEq, exists_eq_left', exists_eq_left, V.bl.injEq, rNe_bl, rEq_bl, eq_self, if_true, if_false, List.length_replicate])
/-! ### the law's own steps -/
theorem lc_words {T : List (Addr × PySem.Str)} {H1 : Hp} {σ : L2.St} {Q : VK} {st sc lp : Addr} {k n m : Nat} {zs : List PySem.Str} {is ic il : Nat} (sm : Strm st sc k H1) (hk : k + n * (m + 1) < 2 ^ 38) (hl : H1 lp = some (.lst (zs.map V.str))) (op : Ot2 st sc lp) (z0 : 0 < zs.length) (z1 : zs.length ≤ 26) (hzs : ∀ z ∈ zs, ∃ c ∈ small, z = ⟨#[c]⟩) (hm : m ≤ 100) (hn : n ≤ 100)
    (h1 : ∀ z : V, wipe ((wipe σ [ic]).set ic (some z)) [ic] = wipe σ [ic]) (h2 : ∀ z : V, ((wipe σ [ic]).set ic (some z))[is]? = some (some (.ref st))) (h3 : ∀ z : V, ((wipe σ [ic]).set ic (some z))[il]? = some (some (.ref lp)))
    (q : ∀ D (ws : List PySem.Str) H2, Fr T (St2 st sc) H1 H2 → Nw H1 D → H2 D = some (.lst (ws.map V.str)) → ws.length = n → (∀ z ∈ ws, z.length ≤ m ∧ plainS z = true) → Strm st sc (k + n * (m + 1)) H2 → Q (.ref D) H2) :
    LcGo (Itr 0 n) (gName ic) (fun _ H Q => Q true H) (tCall (sp_bword T) [] E0 (tCons (tVar is) (tCons (tVar il) (tCons (tC (.int (m : Nat))) tNil)))) [ic] σ H1 Q := by
  have hst : ∀ b, St2 st sc b → H1 b ≠ none := by
    obtain ⟨ne, a, nn, c, xs, e1, e2, _⟩ := sm
    rintro b (rfl | rfl)
    · rw [e1]; simp
    · rw [e2]; simp
  refine LcGo.mk (T := T) (S := St2 st sc) walk_range (fun i acc H2 => ∃ ws : List PySem.Str, acc = ws.map V.str ∧ ws.length = i ∧ (∀ z ∈ ws, z.length ≤ m ∧ plainS z = true) ∧ Strm st sc (k + i * (m + 1)) H2) (by omega) hst (fun _ _ => trivial) (fun H2 f => ⟨[], rfl, rfl, fun _ h => (nomatch h), (sm.fr f (fun z => z) (fun z => z)).le (by omega)⟩) ?_ ?_
  · rintro D i x acc H2 H3 Yes No hD hi hal f hDa ⟨ws, rfl, hwl, hws, s2⟩ ⟨rfl, rfl⟩ yes no
    refine ⟨h1 _, ?_⟩
    show (if true = true then _ else _)
    rw [if_pos rfl]
    have hb : i * (m + 1) ≤ n * (m + 1) := Nat.mul_le_mul_right _ (by omega)
    refine ⟨_, h2 _, _, h3 _, st, sc, k + i * (m + 1), lp, zs, m, rfl, s2, by omega, f.keep _ _ (ot_st op) hl ntL, op, z0, z1, hzs, hm, fun z H4 f4 hz hp s4 => ?_⟩
    refine yes _ H4 f4 fun H5 f5 => ⟨ws ++ [z], by simp, by simp [hwl], fun y hy => ?_, ?_⟩
    · rcases List.mem_append.mp hy with h | h
      · exact hws y h
      · rw [List.mem_singleton.mp h]
        exact ⟨hz, hp⟩
    · have e : k + (i + 1) * (m + 1) = k + i * (m + 1) + m + 1 := by rw [Nat.add_mul]; omega
      rw [e]
      refine s4.fr f5 (fun z => hst st (.inl rfl) (by rw [show st = D from z]; exact hD)) (fun z => hst sc (.inr rfl) (by rw [show sc = D from z]; exact hD))
  · rintro D acc H2 hD f hDa ⟨ws, rfl, hwl, hws, s2⟩
    exact q D ws H2 f (Nw.of hD) hDa hwl hws s2
theorem lc_chance {T : List (Addr × PySem.Str)} {K : PySem.W.Frag} {H1 : Hp} {σ : L2.St} {Q : VK} {st sc p : Addr} {k : Nat} {ws : List PySem.Str} {is ic : Nat} (sm : Strm st sc k H1) (hk : k + ws.length < 2 ^ 38) (hp : H1 p = some (.lst (ws.map V.str))) (op : Ot2 st sc p) (hn : ws.length ≤ 1000)
    (h1 : ∀ z : V, wipe ((wipe σ [ic]).set ic (some z)) [ic] = wipe σ [ic]) (h2 : ∀ z : V, ((wipe σ [ic]).set ic (some z))[is]? = some (some (.ref st))) (h3 : ∀ z : V, ((wipe σ [ic]).set ic (some z))[ic]? = some (some z))
    (q : ∀ D (us : List PySem.Str) H2, Fr T (St2 st sc) H1 H2 → Nw H1 D → H2 D = some (.lst (us.map V.str)) → us.length ≤ ws.length → (∀ z ∈ us, z ∈ ws) → Strm st sc (k + ws.length) H2 → Q (.ref D) H2) :
    LcGo (Itl K p) (gName ic) (tB (tCall (sp_chance T) [] E0 (tCons (tVar is) (tCons (tC (.int 4)) tNil)))) (tVar ic) [ic] σ H1 Q := by
  have hst : ∀ b, St2 st sc b → H1 b ≠ none := by
    obtain ⟨ne, a, nn, c, xs, e1, e2, _⟩ := sm
    rintro b (rfl | rfl)
    · rw [e1]; simp
    · rw [e2]; simp
  have nst : ∀ D, H1 D = none → st ≠ D ∧ sc ≠ D := fun D hD => ⟨fun z => hst st (.inl rfl) (by rw [z]; exact hD), fun z => hst sc (.inr rfl) (by rw [z]; exact hD)⟩
  have w := walk_list (K := K) (a := p) (xs := ws.map V.str)
  rw [List.length_map] at w
  refine LcGo.mk (T := T) (S := St2 st sc) w (fun i acc H2 => ∃ us : List PySem.Str, acc = us.map V.str ∧ us.length ≤ i ∧ (∀ z ∈ us, z ∈ ws) ∧ Strm st sc (k + i) H2) (by omega) hst (fun H2 f => SqL.of (f.keep _ _ (ot_st op) hp ntL)) (fun H2 f => ⟨[], rfl, Nat.le_refl _, fun _ h => (nomatch h), sm.fr f (fun z => z) (fun z => z)⟩) ?_ ?_
  · rintro D i x acc H2 H3 Yes No hD hi hal f hDa ⟨us, rfl, hul, hus, s2⟩ ⟨rfl, hx⟩ yes no
    obtain ⟨z, hz, rfl⟩ := str_at hx
    refine ⟨h1 _, _, h2 _, st, sc, k + i, 4, rfl, s2, by omega, by decide, by decide, fun H4 b f4 s4 => ⟨_, rfl, ?_⟩⟩
    cases b with
    | true =>
      rw [if_pos rfl]
      refine ⟨_, h3 _, yes _ H4 f4 fun H5 f5 => ⟨us ++ [z], by simp, by simp; omega, fun y hy => ?_, s4.fr f5 (nst D hD).1 (nst D hD).2⟩⟩
      rcases List.mem_append.mp hy with h | h
      · exact hus y h
      · rw [List.mem_singleton.mp h]
        exact List.mem_of_getElem? hz
    | false =>
      rw [if_neg (by simp)]
      exact no H4 f4 ⟨us, rfl, by omega, hus, s4⟩
  · rintro D acc H2 hD f hDa ⟨us, rfl, hul, hus, s2⟩
    exact q D us H2 f (Nw.of hD) hDa hul hus s2
/-- an exception of one of the clauses -/
theorem brE_hit {K : PySem.W.Frag} {Q : VK} {C : Addr} {lab fld : PySem.Str} {dx : Addr} {H : Hp} {v : V} (hc : PySem.W.exmOne K (.ref C) (.ref C) = some true) (hx : H dx = some (.xd [(fld, v)])) (q : ∀ p, H p = none → Q (.ref p) (upd H p (.tup [.str lab, v]))) :
    ∀ (pre post : List Cls3), (∀ r ∈ pre, PySem.W.exmOne K (.ref C) (.ref r.1) = some false) → brE K (pre ++ (C, lab, fld) :: post) Q (.ref C) (some dx) H
  | [], post, _ => ⟨true, hc, fun _ => ⟨rfl, dx, v, rfl, hx, q⟩, fun z => (nomatch z)⟩
  | r :: pre, post, h => ⟨false, h r (List.mem_cons_self ..), fun z => (nomatch z), fun _ => brE_hit hc hx q pre post fun r' hr => h r' (List.mem_cons_of_mem _ hr)⟩
/-- things that stand on the heap, away from the stream -/
def Th (st sc : Addr) (L : List (Addr × HO)) (H : Hp) : Prop := ∀ q ∈ L, H q.1 = some q.2 ∧ Ot2 st sc q.1 ∧ NT q.2
theorem Th.fr {T : List (Addr × PySem.Str)} {st sc : Addr} {L : List (Addr × HO)} {H H1 : Hp} (h : Th st sc L H) (f : Fr T (St2 st sc) H H1) : Th st sc L H1 := fun q hq => by
  obtain ⟨h1, h2, h3⟩ := h q hq
  exact ⟨f.keep _ _ (ot_st h2) h1 h3, h2, h3⟩
theorem Rp.away {A : Addr → Prop} {H : Hp} {v : V} {d : PyData} {p : Addr} (h : Rp A H v d) (n : Nw H p) : Rp (fun b => A b ∧ b ≠ p) H v d := Rp.to (fun a o ha hx t => ⟨⟨ha, (n.ne hx t).symm⟩, hx⟩) d v h
theorem rpL {A : Addr → Prop} {H : Hp} {p : Addr} {ws : List PySem.Str} (h : H p = some (.lst (ws.map V.str))) (ha : A p) : Rp A H (.ref p) (.list (ws.map PyData.str)) := .lst ha h (Rps.strs ws)
theorem rpT {A : Addr → Prop} {H : Hp} {p : Addr} {ws : List PySem.Str} (h : H p = some (.tup (ws.map V.str))) (ha : A p) : Rp A H (.ref p) (.tuple (ws.map PyData.str)) := .tup ha h (Rps.strs ws)
theorem fits_strs : ∀ (ws : List PySem.Str), fits (ws.map PyData.str) = true
  | [] => rfl
  | w :: ws => by simp [fits, fit, fits_strs ws]
theorem depth_strs : ∀ (ws : List PySem.Str), PyData.depthAll (ws.map PyData.str) = 0
  | [] => by simp [PyData.depthAll]
  | w :: ws => by simp [PyData.depthAll, PyData.depth, depth_strs ws]
theorem fit_strs {ws : List PySem.Str} (h : ws.length ≤ 10000) : fit (.list (ws.map PyData.str)) = true := by
  simp only [fit, fits_strs, Bool.and_true, decide_eq_true_eq, List.length_map]
  exact h
theorem fitT_strs {ws : List PySem.Str} (h : ws.length ≤ 10000) : fit (.tuple (ws.map PyData.str)) = true := by
  simp only [fit, fits_strs, Bool.and_true, decide_eq_true_eq, List.length_map]
  exact h
theorem dep_strs (ws : List PySem.Str) : (PyData.list (ws.map PyData.str)).depth < 8 := by
  simp only [PyData.depth, depth_strs]
  omega
theorem depT_strs (ws : List PySem.Str) : (PyData.tuple (ws.map PyData.str)).depth < 8 := by
  simp only [PyData.depth, depth_strs]
  omega
theorem perm_strs {ys : List V} {ws : List PySem.Str} (p : ys.Perm (ws.map V.str)) : ∃ vs : List PySem.Str, ys = vs.map V.str ∧ vs.Perm ws := by
  have hall : ∀ y ∈ ys, ∃ z, y = V.str z := fun y hy => by
    obtain ⟨z, _, e⟩ := List.mem_map.mp (p.mem_iff.mp hy)
    exact ⟨z, e.symm⟩
  let g : V → PySem.Str := fun v => match v with | .str z => z | _ => ""
  refine ⟨ys.map g, ?_, ?_⟩
  · rw [List.map_map]
    have h : ys.map id = ys.map (V.str ∘ g) := List.map_congr_left fun y hy => by
      obtain ⟨z, rfl⟩ := hall y hy
      rfl
    rw [List.map_id] at h
    exact h
  · have := p.map g
    rw [List.map_map] at this
    have e : (g ∘ V.str) = id := rfl
    rw [e, List.map_id] at this
    exact this
theorem late_plain : plainS "LATE" = false := by decide +kernel
theorem noLate_strs {ws : List PySem.Str} (h : ∀ z ∈ ws, plainS z = true) : noLates (ws.map PyData.str) = true := by
  induction ws with
  | nil => rfl
  | cons w ws ih =>
    have e : w ≠ "LATE" := fun z => by have := h w (List.mem_cons_self ..); rw [z, late_plain] at this; cases this
    simp [noLates, noLate, e, ih fun z hz => h z (List.mem_cons_of_mem _ hz)]
theorem spoils_strs : ∀ (ws : List PySem.Str), spoils (ws.map PyData.str) = ws.map PyData.str
  | [] => rfl
  | w :: ws => by simp [spoils, spoil, spoils_strs ws]
theorem okCs_strs : ∀ (ws : List PySem.Str) (e : List PyData), okCs e → okCs (ws.map PyData.str ++ e)
  | [], e, h => h
  | w :: ws, e, h => by
    simp only [List.map_cons, List.cons_append, okCs]
    exact ⟨trivial, okCs_strs ws e h⟩
theorem apart_ok {ws : List PySem.Str} (h : ∀ z ∈ ws, plainS z = true) (hl : ws.length ≤ 1000) : fit (spoil (.list [.list (ws.map PyData.str)])) = true ∧ fit (.list [.list (ws.map PyData.str)]) = true ∧ okCr (spoil (.list [.list (ws.map PyData.str)])) ∧ noLate (.list [.list (ws.map PyData.str)]) = true ∧
    (PyData.list [.list (ws.map PyData.str)]).depth < 8 ∧ (spoil (.list [.list (ws.map PyData.str)])).depth < 8 := by
  have hf : ∀ d ∈ ws.map PyData.str ++ [.str "LATE"], flatOk d := fun d hd => by
    rcases List.mem_append.mp hd with hd | hd
    · obtain ⟨z, hz, rfl⟩ := List.mem_map.mp hd
      exact (plainS_ok (h z hz)).2
    · rw [List.mem_singleton.mp hd]
      exact (by decide +kernel : PyData.strOk "LATE" = true)
  obtain ⟨l1, l2, l3, l4⟩ := flat_lay hf
  have e : spoil (.list [.list (ws.map PyData.str)]) = .list [.list (ws.map PyData.str ++ [.str "LATE"]), .str "LATE"] := by
    simp [spoil, spoils, spoils_strs]
  have hfits : fits (ws.map PyData.str ++ [.str "LATE"]) = true := by
    clear hf l1 l2 l3 l4 e hl
    induction ws with
    | nil => rfl
    | cons w ws ih => simp [fits, fit, ih fun z hz => h z (List.mem_cons_of_mem _ hz)]
  rw [e]
  refine ⟨?_, ?_, ?_, ?_, ?_, ?_⟩
  · simp [fit, fits, hfits]
    omega
  · simp [fit, fits, fits_strs]
    omega
  · simp only [okCr, okCs, okC]
    refine ⟨⟨?_, ?_⟩, ⟨⟨flat_shaped hf, l4⟩, okCs_strs ws _ ⟨trivial, trivial⟩⟩, trivial, trivial⟩
    · show (PyData.canLay0 _ && decide (PyData.depth _ ≤ 64)) = true
      rw [Bool.and_eq_true]
      refine ⟨?_, decide_eq_true ?_⟩
      · simp only [PyData.canLay0, PyData.canLayAll0, l1, Bool.true_and, Bool.and_true]
        decide +kernel
      · simp only [PyData.depth, PyData.depthAll]
        omega
    · simp only [PyData.plainAll, PyData.plain, l4, Bool.true_and, Bool.and_true]
  · simp [noLate, noLates, noLate_strs h]
  · simp only [PyData.depth, PyData.depthAll, depth_strs]
    omega
  · simp only [PyData.depth, PyData.depthAll]
    omega
theorem Tps.strs {H : Hp} : ∀ (ws : List PySem.Str), Tps H (ws.map V.str) (ws.map PyData.str) (fun b => NoA b)
  | [] => .nil
  | w :: ws => by
    have h := Tps.cons (.str w) (Tps.strs (H := H) ws) fun _ z _ => z
    have e : (fun b => NoA b ∨ NoA b) = (fun b => NoA b) := funext fun b => by simp
    rw [e] at h
    exact h
theorem brE_cl {K : PySem.W.Frag} {Q : VK} {C : Addr} {lab fld : PySem.Str} {dx : Addr} {H : Hp} {v : V} {cl pre post : List Cls3} (e : cl = pre ++ (C, lab, fld) :: post) (hpre : ∀ r : Cls3, r ∈ pre → PySem.W.exmOne K (.ref C) (.ref r.1) = some false) (hc : PySem.W.exmOne K (.ref C) (.ref C) = some true)
    (hx : H dx = some (.xd [(fld, v)])) (q : ∀ p, H p = none → Q (.ref p) (upd H p (.tup [.str lab, v]))) : brE K cl Q (.ref C) (some dx) H := by
  rw [e]
  exact brE_hit hc hx q pre post hpre
def oddDs2 : List PyData := [.none, .int 5, .str "A", .list [.str "a"], .str aa201, .str "a\n"]
theorem odd_bad2 : ∀ d ∈ oddDs2, plainD d = false ∧ okS d ∧ fit d = true ∧ d.depth ≤ 1 := by
  intro d hd
  simp only [oddDs2, List.mem_cons, List.not_mem_nil, or_false] at hd
  rcases hd with rfl | rfl | rfl | rfl | rfl | rfl
  · exact ⟨rfl, trivial, rfl, by simp [PyData.depth]⟩
  · exact ⟨rfl, trivial, rfl, by simp [PyData.depth]⟩
  · exact ⟨by decide +kernel, ⟨by decide, by decide +kernel⟩, rfl, by simp [PyData.depth]⟩
  · exact ⟨rfl, trivial, rfl, by simp [PyData.depth, PyData.depthAll]⟩
  · exact ⟨by show plainS aa201 = false; unfold plainS; rw [aa_len]; rfl, ⟨by rw [aa_len]; decide, aa_ok⟩, rfl, by simp [PyData.depth]⟩
  · exact ⟨by decide +kernel, ⟨by decide, by decide +kernel⟩, rfl, by simp [PyData.depth]⟩
end Lo
set_option Elab.async false
set_option linter.all false
set_option maxRecDepth 100000
set_option maxHeartbeats 4000000
namespace Lo
open PySem PySem.Spec PyProof.Rows L2
open LamX (Tabs TabS ExtN CodeO)
local macro_rules | `(tactic| walk_at "wp") => `(tactic| simp only [tDNewK, tLc_eq, tFor_eq, tDc_eq, iList, iTup, iStr, iRng1, iEnum, iEnumU, RZ.iZipA, iKeys, tLk, tSortLw, Er_thing.tRaise, Er_thing.tMk, Er_index.tRaise, Er_index.tMk, rEq_int, rNe_int, rEq_str, rNe_str, rEq_bl, rNe_bl, sl0, sl1, sl2, sl3, sl4, sl5, sl6, sl8, tAsg, gName, tVar, tC, tOp, tCons, tNil, tRet, tDrop, tIfS, tTest, tB, tNot, tAnd, tOr, tAndV, tOrV, tNotV, tIf, tNext, tCall, tCB, tBM, tBM0, tPar, tAug, ipI, rI0, rI, rInt1, gSub, tSl, tNoPart, tPart, tTup, tLst, tM1, rIsN, rNotN, wipe, tRetN, tBreak, tCont, List.getElem?_cons_zero, List.getElem?_cons_succ, List.getElem_cons_zero, List.getElem_cons_succ, List.set_cons_zero, List.set_cons_succ, Option.some.injEq, V.int.injEq, V.ref.injEq, V.str.injEq, V.bl.injEq, List.cons.injEq, exists_eq_left', exists_eq_left, exists_eq_right, exists_eq_right', exists_and_left, exists_and_right, exists_eq, exists_eq', exists_false, exists_prop, true_and, and_true, false_and, and_false, or_false, false_or, and_assoc, reduceCtorEq, List.nil_append, List.cons_append, List.append_nil, List.length_cons, List.length_nil, if_true, if_false, Bool.false_eq_true, Bool.not_true, Bool.not_false, decide_eq_true_eq, Bool.not_eq_true', decide_eq_false_iff_not, ite_true, ite_false, L2.start, N_is_plain, N_need_plain, N_places_in, N_is_in, N_need_words, N_in_order, N_least_plain, N_least_words, N_is_above, N_law_start, N_law_below, N_law_chance, N_law_pick, N_law_mixed, N_law_copied, N_law_same, N_law_loose, N_law_spoilt, N_law_is_once, N_law_apart, N_law_bletters, N_law_blies, N_law_border, N_law_bleast, N_law_bword, N_law_bbad, N_law, List.map_cons, List.map_nil, List.replicate_succ, List.replicate_zero])
local macro_rules | `(tactic| walk_at "isb") => `(tactic| simp only [ib_non_str, ib_non_dict, ib_non_list, ib_non_tuple, ib_non_int, ib_non_bool, ib_bl_str, ib_bl_dict, ib_bl_list, ib_bl_tuple, ib_bl_int, ib_bl_bool, ib_int_str, ib_int_dict, ib_int_list, ib_int_tuple, ib_int_int, ib_int_bool, ib_str_str, ib_str_dict, ib_str_list, ib_str_tuple, ib_str_int, ib_str_bool, ib_lst_str, ib_lst_dict, ib_lst_list, ib_lst_tuple, ib_lst_int, ib_lst_bool, ib_tup_str, ib_tup_dict, ib_tup_list, ib_tup_tuple, ib_tup_int, ib_tup_bool, ib_dic_str, ib_dic_dict, ib_dic_list, ib_dic_tuple, ib_dic_int, ib_dic_bool, Bool.true_or, Bool.or_true, Bool.or_false, Bool.false_or, Bool.or_self, if_true, if_false, ite_true, ite_false, Bool.not_true, Bool.not_false, Bool.false_eq_true, decide_true, decide_false, reduceCtorEq, exists_eq_left', exists_eq_left, V.bl.injEq, rNe_bl, rEq_bl, eq_self, if_true, if_false, List.length_replicate])
def sp_law (T : List (Addr × PySem.Str)) (K : PySem.W.Frag) : Sp := fun vs H Q _ => ∃ (s : Addr) (ns : List Int), vs = [.ref s] ∧ SqL K H s (ns.map V.int) ∧ Tabs T H ∧ ∀ H', Q (.bl true) H'
def Pv_word (T : List (Addr × PySem.Str)) (HL : Hp) (a b c : List (Option V)) : Nat → L2.St → Hp → Prop := fun _ σ H => ∃ x4 x9, σ = a ++ x4 :: (b ++ x9 :: c) ∧ Fr T NoA HL H
def Pv_law (T : List (Addr × PySem.Str)) (v0 : V) : Nat → L2.St → Hp → Prop := fun i σ H => ∃ (st sc : Addr) (k : Nat) (x2 x3 x4 x5 x6 x7 x8 x9 x10 x11 x12 x13 x14 x15 x16 x17 : Option V),
  σ = [some v0, some (.ref st), x2, x3, x4, x5, x6, x7, x8, x9, x10, x11, x12, x13, x14, x15, x16, x17] ∧ Strm st sc k H ∧ k ≤ i * 10000 ∧ Tabs T H
/-- which exceptions which clause takes -/
structure ClX (K : PySem.W.Frag) (cl : List Cls3) (C1 C2 : Addr) : Prop where
  words : ∃ pre post : List Cls3, cl = pre ++ (C1, ("words" : PySem.Str), ("index" : PySem.Str)) :: post ∧ ∀ r : Cls3, r ∈ pre → PySem.W.exmOne K (.ref C1) (.ref r.1) = some false
  word : ∃ pre post : List Cls3, cl = pre ++ (C2, ("word" : PySem.Str), ("thing" : PySem.Str)) :: post ∧ ∀ r : Cls3, r ∈ pre → PySem.W.exmOne K (.ref C2) (.ref r.1) = some false
  h1 : PySem.W.exmOne K (.ref C1) (.ref C1) = some true
  h2 : PySem.W.exmOne K (.ref C2) (.ref C2) = some true
theorem long_size : long.length ≤ sizeLine := by decide +kernel
theorem last_nw' : nw (.list (([long, cutS long (some 1) none, "", "b"] : List PySem.Str).map PyData.str)) = .inl [long, cutS long (some 1) none, "", "b"] := last_nw
theorem last_okW : okW (.list (([long, cutS long (some 1) none, "", "b"] : List PySem.Str).map PyData.str)) := by
  have h := (nw_ok last_nw').2
  intro d hd
  obtain ⟨z, hz, rfl⟩ := List.mem_map.mp hd
  exact h z hz
theorem nil_nw : nw (.list (([] : List PySem.Str).map PyData.str)) = .inl [] := rfl
theorem nil_least : leastW [] = [] := by
  unfold leastW ordW dd
  simp
theorem one_nw : nw (.list (([""] : List PySem.Str).map PyData.str)) = .inl [""] := by decide +kernel
theorem one_okW : okW (.list (([""] : List PySem.Str).map PyData.str)) := by
  have h := (nw_ok one_nw).2
  intro d hd
  obtain ⟨z, hz, rfl⟩ := List.mem_map.mp hd
  exact h z hz
theorem pl0 : plainS "" = true := by decide +kernel
theorem plz : plainS "z" = true := by decide +kernel
theorem one_any : (([""] : List PySem.Str).any fun o => lies o "z") = true := by decide +kernel
theorem hp_law {T : List (Addr × PySem.Str)} {K : PySem.W.Frag} {cl : List Cls3} {C1 C2 : Addr} (cx : ClX K cl C1 C2) : ∀ vs H Q E, sp_law T K vs H Q E →
    t_law K cl (sp_start T K) (sp_bletters T) (sp_below T) (sp_bword T) (sp_chance T) (sp_bleast T) (sp_loose T) (sp_copied T 8) (sp_least_words T C1) (sp_same T 8) (sp_apart T) (sp_mixed T) (sp_blies T) (sp_is_above T C1 C2) (sp_bbad T) (sp_pick T) T { nx := fun _ H1 => Q .non H1, rt := Q } (start N_law vs) H := by
  rintro vs H Q E ⟨s, ns, rfl, hs, tb, q⟩
  unfold t_law
  refine sq_ ?_
  walk_at "wp"
  refine ⟨s, ns, rfl, hs, fun st sc H1 f1 s1 => ?_⟩
  refine sq_ ?_
  walk_at "wp"
  refine ⟨by decide, by decide, ?_⟩
  refine ForGo.mk walk_range (Pv_law T (.ref s)) ⟨st, sc, 0, none, none, none, none, none, none, none, none, none, none, none, none, none, none, none, none, rfl, s1, Nat.zero_le _, f1.tabs tb⟩ (fun _ _ _ _ _ => trivial) ?_ ?_
  · clear hs tb f1 s1 st sc H1
    rintro i x σ H1 H2 hi ⟨st, sc, k, x2, x3, x4, x5, x6, x7, x8, x9, x10, x11, x12, x13, x14, x15, x16, x17, rfl, sm, hk, tb⟩ ⟨rfl, rfl⟩
    have hi7 : i < 7 := hi
    have hkk : k ≤ 70000 := Nat.le_trans hk (by omega)
    walk_at "wp"
    -- letters
    refine sq_ ?_
    walk_at "wp"
    refine ⟨st, sc, k, 4, rfl, sm, by omega, by decide, by decide, fun H3 d f3 s3 d0 d1 => ?_⟩
    refine ⟨d, rfl, st, sc, k + 1, _, rfl, s3, by omega, by omega, by omega, fun lp zs H4 f4 nl hl z0 z1 hzs s4 => ?_⟩
    have ol : Ot2 st sc lp := s3.ot nl
    have f04 := f3.trans f4
    clear f3 s3 f4 d0 d1 nl sm
    -- words
    refine sq_ ?_
    walk_at "wp"
    refine ⟨st, sc, k + 1 + 26, 12, rfl, s4, by omega, by decide, by decide, fun H5 d f5 s5 d0 d1 => ?_⟩
    obtain ⟨n, rfl⟩ := Int.eq_ofNat_of_zero_le d0
    have hn : n < 12 := by omega
    refine ⟨_, rfl, by omega, by omega, ?_⟩
    rw [Int.toNat_natCast]
    have hl5 := f5.keep _ _ (ot_st ol) hl ntL
    have f05 := f04.trans f5
    refine lc_words (m := 7) s5 (by omega) hl5 ol z0 z1 hzs (by decide) (by omega) (fun _ => rfl) (fun _ => rfl) (fun _ => rfl) fun wp0 ws0 H6 f6 nw0 hw0 hwn hws0 s6 => ?_
    have ow0 : Ot2 st sc wp0 := s5.ot nw0
    have f06 := f05.trans f6
    have hl6 := f6.keep _ _ (ot_st ol) hl5 ntL
    clear f5 f6 s5 s4 hl hl5 f04 f05 nw0
    -- more words
    refine sq_ ?_
    walk_at "wp"
    refine ⟨⟨_, SqL.of hw0⟩, ?_⟩
    refine lc_chance s6 (by rw [hwn]; omega) hw0 ow0 (by omega) (fun _ => rfl) (fun _ => rfl) (fun _ => rfl) fun up us H7 f7 nu hu hul hus s7 => ?_
    have hw7 := f7.keep _ _ (ot_st ow0) hw0 ntL
    refine ⟨wp0, up, _, _, rfl, rfl, hw7, hu, big_ (by simp; omega), fun wp hwp => ?_⟩
    have f8 : Fr T NoA H7 (upd H7 wp (.lst (ws0.map V.str ++ us.map V.str))) := Fr.new hwp
    have hw8 : upd H7 wp (.lst (ws0.map V.str ++ us.map V.str)) wp = some (.lst ((ws0 ++ us).map V.str)) := by rw [upd_same, List.map_append]
    have ow : Ot2 st sc wp := s7.ot (Nw.of hwp)
    have hl8 := f8.keep _ _ (fun z => z) (f7.keep _ _ (ot_st ol) hl6 ntL) ntL
    have s8 := s7.fr f8 (fun z => z) (fun z => z)
    have f08 : Fr T (St2 st sc) H2 _ := (f06.trans f7).trans f8.any
    have hwl : (ws0 ++ us).length ≤ 22 := by simp; omega
    have hwp1 : ∀ z ∈ ws0 ++ us, z.length ≤ 7 ∧ plainS z = true := fun z hz => by
      rcases List.mem_append.mp hz with h | h
      · exact hws0 z h
      · exact hws0 z (hus z h)
    generalize ws0 ++ us = ws at hw8 hwl hwp1
    rw [hwn] at s8
    generalize upd H7 wp (.lst (ws0.map V.str ++ us.map V.str)) = H8 at f8 hw8 hl8 s8 f08 ⊢
    clear f7 s7 hw7 hu nu hul hus s6 hw0 hws0 ow0 hl6 f06 f8 hwp
    have okw : okL ws := ⟨by omega, fun z hz => plainS_ok (hwp1 z hz).2⟩
    generalize hk8 : k + 1 + 26 + 1 + n * (7 + 1) + n = k8 at s8
    have hk8b : k8 ≤ k + 200 := by omega
    -- due, passed
    refine sq_ ?_
    walk_at "wp"
    refine ⟨wp, ws, rfl, hw8, okw, fun dp H9 f9 nd hd => ?_⟩
    have s9 := s8.fr f9 (fun z => z) (fun z => z)
    have od : Ot2 st sc dp := s8.ot nd
    have hw9 := f9.keep _ _ (fun z => z) hw8 ntL
    refine ⟨st, sc, k8, wp, ws, rfl, s9, by omega, hw9, ow, okw.1, fun pp H10 f10 np hpp s10 => ?_⟩
    have op : Ot2 st sc pp := s9.ot np
    have hw10 := f10.keep _ _ (ot_st ow) hw9 ntL
    have hd10 := f10.keep _ _ (ot_st od) hd ntL
    have hl10 := f10.keep _ _ (ot_st ol) (f9.keep _ _ (fun z => z) hl8 ntL) ntL
    have f010 : Fr T (St2 st sc) H2 H10 := (f08.trans f9.any).trans f10
    have tb10 := f010.tabs tb
    obtain ⟨pd, hpd, hnw, hfp, hokp, hdp⟩ : ∃ pd, Rp (Ot2 st sc) H10 (.ref pp) pd ∧ nw pd = .inl ws ∧ fit pd = true ∧ okW pd ∧ pd.depth < 8 := by
      have hn := nw_strs (fun z hz => (hwp1 z hz).2) (by omega : ws.length ≤ 200)
      have ho : ∀ d ∈ ws.map PyData.str, okS d := fun d hd => by
        obtain ⟨z, hz, rfl⟩ := List.mem_map.mp hd
        exact okw.2 z hz
      rcases hpp with hpp | hpp
      · exact ⟨_, rpL hpp op, hn, fit_strs (by omega), ho, dep_strs ws⟩
      · exact ⟨_, rpT hpp op, hn, fitT_strs (by omega), ho, depT_strs ws⟩
    clear hpp hw9 hd s8 s9 f9 f10 f08 hw8 hl8 np nd
    have hL : ∀ z ∈ leastW ws, plainS z = true := fun z hz => by
      rcases least_sub _ _ z hz with h1 | h1
      · cases h1
      · exact (hwp1 z ((ord_mem ws z).mp h1)).2
    have okL' := okw.least
    -- kept
    show tSeq _ _ _ _ _
    refine sq_ ?_
    walk_at "wp"
    refine ⟨_, _, pd, rfl, hpd, hfp, hdp, fun u H11 f11 hu => ?_⟩
    have s11 := s10.fr f11 (fun z => z) (fun z => z)
    have hu' : Rp (Ot2 st sc) H11 u pd := hu.mono fun b nb => s10.ot nb
    have hpd11 := hpd.fr f11 fun _ _ z => z
    have hw11 := f11.keep _ _ (fun z => z) hw10 ntL
    have hd11 := f11.keep _ _ (fun z => z) hd10 ntL
    have hl11 := f11.keep _ _ (fun z => z) hl10 ntL
    have f011 : Fr T (St2 st sc) H2 H11 := f010.trans f11.any
    have tb11 := f011.tabs tb
    clear hu hpd hw10 hd10 hl10 f11 f010 s10 tb10
    -- told
    refine sq_ ?_
    walk_at "wp"
    refine ⟨_, _, pd, rfl, hpd11, hokp, tb11, fun ws' hw' tp H12 f12 nt ht => ?_, fun i hi => by rw [hnw] at hi; cases hi⟩
    rw [hnw] at hw'
    cases hw'
    refine sq_ ?_
    walk_at "wp"
    have hd12 := f12.keep _ _ (fun z => z) hd11 ntL
    refine ⟨fun _ => True, fun _ => True, _, _, _, rfl, rpL ht trivial, rpL hd12 trivial, fit_strs (by have := okL'.1; omega), dep_strs _, fun H13 f13 => ?_⟩
    refine ⟨_, rfl, ?_⟩
    walk_at "isb"
    intro tq htq
    have ht13 := f13.keep _ _ (fun z => z) ht ntL
    have ntq : tp ≠ tq := fun z => by rw [z, htq] at ht13; cases ht13
    obtain ⟨a1, a2, a3, a4, a5, a6⟩ := apart_ok hL okL'.1
    have ht14 : upd H13 tq (.lst [.ref tp]) tp = _ := (upd_ne ntq).trans ht13
    refine ⟨.ref tq, .list [.list ((leastW ws).map PyData.str)], _, rfl, .lst upd_same (.cons (.lst ht14 (Tps.strs _) (fun z => z)) .nil fun _ _ z => z) ?_, a1, a2, a3, a4, a5, a6, fun H15 f15 => ?_⟩
    · rintro ((z | z) | z)
      · exact ntq z.symm
      · exact z
      · exact z
    have g15 : Fr T NoA H11 H15 := ((f12.trans f13).trans (Fr.new htq)).thru f15 fun c hc => by
      rcases hc with z | ((z | z) | z)
      · exact .inr (by rw [z]; exact Nw.back (f12.trans f13) (Nw.of htq))
      · exact .inr (by rw [z]; exact nt)
      · exact z.elim
      · exact z.elim
    clear ht13 ntq ht14 a1 a2 a3 a4 a5 a6 f15 htq f13 f12 ht hd12 nt
    refine ⟨_, rfl, ?_⟩
    walk_at "isb"
    have s15 := s11.fr g15 (fun z => z) (fun z => z)
    have hw15 := g15.keep _ _ (fun z => z) hw11 ntL
    refine ⟨st, sc, k8 + 1, wp, _, rfl, s15, by omega, hw15, by rw [List.length_map]; omega, fun mp ys H16 f16 nm hm pm s16 => ?_⟩
    obtain ⟨vs, rfl, pv⟩ := perm_strs pm
    rw [List.length_map] at s16
    have hvl : vs.length = ws.length := pv.length_eq
    refine ⟨fun _ => True, _, _, rfl, rpL hm trivial, fit_strs (by omega), dep_strs _, fun v17 H17 f17 h17 => ?_⟩
    have g17 : Fr T (St2 st sc) H11 H17 := g15.any.trans (f16.trans f17.any)
    have hnv : nw (.list (vs.map PyData.str)) = .inl vs := nw_strs (fun z hz => (hwp1 z (pv.mem_iff.mp hz)).2) (by omega)
    refine ⟨_, _, _, rfl, h17, fun d hd => ?_, g17.tabs tb11, fun ws' hw' tp2 H18 f18 nt ht => ?_, fun i hi => by rw [hnv] at hi; cases hi⟩
    · obtain ⟨z, hz, rfl⟩ := List.mem_map.mp hd
      exact okw.2 z (pv.mem_iff.mp hz)
    rw [hnv] at hw'
    cases hw'
    rw [least_perm pv] at ht
    have hd18 := f18.keep _ _ (fun z => z) (g17.keep _ _ (ot_st od) hd11 ntL) ntL
    refine ⟨fun _ => True, fun _ => True, _, _, _, rfl, rpL ht trivial, rpL hd18 trivial, fit_strs (by have := okL'.1; omega), dep_strs _, fun H19 f19 => ?_⟩
    refine ⟨_, rfl, ?_⟩
    walk_at "isb"
    have g19 : Fr T (St2 st sc) H11 H19 := g17.trans (f18.any.trans f19.any)
    have s19 : Strm st sc (k8 + 1 + ws.length) H19 := ((s16.fr f17 (fun z => z) (fun z => z)).fr f18 (fun z => z) (fun z => z)).fr f19 (fun z => z) (fun z => z)
    clear f16 f17 f18 f19 ht hd18 h17 hm pm nm g15 hw15 s15 g17 s16 nt
    have hw19 := g19.keep _ _ (ot_st ow) hw11 ntL
    have hd19 := g19.keep _ _ (ot_st od) hd11 ntL
    have hl19 := g19.keep _ _ (ot_st ol) hl11 ntL
    have hpd19 := hpd11.fr g19 fun _ => ot_st
    have hu19 := hu'.fr g19 fun _ => ot_st
    have f019 := f011.trans g19
    clear hw11 hd11 hl11 hpd11 hu' f011 g19 tb11 s11
    generalize hk19 : k8 + 1 + ws.length = k19 at s19
    have hk19b : k19 ≤ k + 300 := by omega
    -- the words asked about
    refine sq_ ?_
    walk_at "wp"
    refine ⟨by decide, by decide, ?_⟩
    refine lc_words (n := 5) (m := 12) s19 (by omega) hl19 ol z0 z1 hzs (by decide) (by decide) (fun _ => rfl) (fun _ => rfl) (fun _ => rfl) fun qp qs H20 f20 nq hq hql hqs s20 => ?_
    have hw20 := f20.keep _ _ (ot_st ow) hw19 ntL
    refine ⟨_, _, rfl, SqL.of hw20, fun c hc => ?_⟩
    have ecut : cutV (ws.map V.str) none (some 2) = (ws.take 2).map V.str := by
      unfold cutV
      rw [HT.sIx_none, show (2 : Int) = ((2 : Nat) : Int) from rfl, HT.sIx_nat, List.length_map, List.drop_zero, Nat.sub_zero, ← List.map_take]
      congr 1
      rcases Nat.le_total 2 ws.length with h | h
      · rw [Nat.min_eq_left h]
      · rw [Nat.min_eq_right h, List.take_length, List.take_of_length_le h]
    rw [ecut]
    have f21 : Fr T NoA H20 (upd H20 c (.lst ((ws.take 2).map V.str))) := Fr.new hc
    refine ⟨qp, c, _, _, rfl, rfl, f21.keep _ _ (fun z => z) hq ntL, upd_same, big_ (by simp; omega), fun tl htl => ?_⟩
    have f22 : Fr T NoA (upd H20 c (.lst ((ws.take 2).map V.str))) (upd (upd H20 c (.lst ((ws.take 2).map V.str))) tl (.lst (qs.map V.str ++ (ws.take 2).map V.str))) := Fr.new htl
    have ht22 : upd (upd H20 c (.lst ((ws.take 2).map V.str))) tl (.lst (qs.map V.str ++ (ws.take 2).map V.str)) tl = some (.lst ((qs ++ ws.take 2).map V.str)) := by rw [upd_same, List.map_append]
    have hts : ∀ z ∈ qs ++ ws.take 2, okZ z ∧ plainS z = true := fun z hz => by
      rcases List.mem_append.mp hz with h | h
      · exact ⟨plainS_ok (hqs z h).2, (hqs z h).2⟩
      · exact ⟨plainS_ok (hwp1 z (List.mem_of_mem_take h)).2, (hwp1 z (List.mem_of_mem_take h)).2⟩
    have htl2 : (qs ++ ws.take 2).length ≤ 7 := by simp; omega
    generalize qs ++ ws.take 2 = ts at ht22 hts htl2
    have g22 := f20.trans (f21.trans f22).any
    have s22 := s20.fr (f21.trans f22) (fun z => z) (fun z => z)
    generalize upd (upd H20 c (.lst ((ws.take 2).map V.str))) tl (.lst (qs.map V.str ++ (ws.take 2).map V.str)) = H22 at ht22 g22 s22 ⊢
    have hw22 := g22.keep _ _ (ot_st ow) hw19 ntL
    have hd22 := g22.keep _ _ (ot_st od) hd19 ntL
    have hpd22 := hpd19.fr g22 fun _ => ot_st
    have hu22 := hu19.fr g22 fun _ => ot_st
    have f022 := f019.trans g22
    have tb22 := f022.tabs tb
    clear f20 f21 f22 hc htl nq hq hql hqs s20 hw20 ecut hw19 hd19 hl19 hpd19 hu19 f019 s19 g22
    refine ⟨tl, rfl, ⟨_, SqL.of ht22⟩, ?_⟩
    refine ForGo.mk (walk_list (xs := ts.map V.str)) (Pv_word T H22 [some (.ref s), some (.ref st), some (.int (0 + (i : Int))), some (.ref lp)] [some (.ref dp), some (.ref pp), some u, some (.ref tp)] [x10, x11, x12, x13, x14, some (.ref wp), x16, x17]) ⟨_, _, rfl, Fr.refl⟩ ?_ ?_ ?_
    · rintro j σ H23 hj ⟨y4, y9, rfl, f23⟩
      exact SqL.of (f23.keep _ _ (fun z => z) ht22 ntL)
    · rintro j x σ H23 H24 hj ⟨y4, y9, rfl, f23⟩ ⟨rfl, hx⟩
      obtain ⟨z, hz, rfl⟩ := str_at hx
      have hzp := hts z (List.mem_of_getElem? hz)
      walk_at "wp"
      refine sq_ ?_
      walk_at "wp"
      have hw23 := f23.keep _ _ (fun z => z) hw22 ntL
      refine ⟨⟨_, SqL.of hw23⟩, ?_⟩
      refine lc_lies blies_ok hw23 okw hzp.1.1 (fun _ => rfl) (fun _ => rfl) (fun _ => rfl) fun D H25 f25 nD hD => ?_
      intro b hb
      have nDb : D ≠ b := fun e => by rw [e, hb] at hD; cases hD
      refine neD_nil (A := NoA) ((upd_ne nDb).trans hD) (.strs _) (flat_strs fun y hy => (okw.2 y (List.mem_filter.mp hy).1).2) upd_same ?_
      have e1 : (!((ws.filter fun o => lies o z).map PyData.str).isEmpty) = ws.any (fun o => lies o z) := by
        rw [List.isEmpty_map, any_filter, Bool.not_not]
      rw [e1]
      have f26 : Fr T NoA H22 (upd H25 b (.lst [])) := f23.trans (f25.trans (Fr.new hb))
      generalize upd H25 b (.lst []) = H26 at f26 ⊢
      clear hD nD f25 nDb hb hw23 f23
      have hzD : Rp (fun _ => True) H26 (.str z) (.str z) := .str z
      refine ⟨_, fun _ => True, _, _, pd, .str z, rfl, hpd22.fr f26 (fun _ _ z => z), hokp, hzD, hzp.1, fun i hi => by rw [hnw] at hi; (cases hi), fun ws' _ hp => by rw [show plainD (.str z) = true from hzp.2] at hp; (cases hp), fun ws' z' hw he hp H27 f27 => ?_⟩
      rw [hnw] at hw
      cases hw
      cases he
      have f227 := f26.trans f27
      refine ⟨fun _ => True, _, _, rfl, rpL (f227.keep _ _ (fun z => z) hd22 ntL) trivial, fit_strs (by have := okL'.1; omega), dep_strs _, fun v28 H28 f28 h28 => ?_⟩
      have hnl : nw (.list ((leastW ws).map PyData.str)) = .inl (leastW ws) := nw_strs hL (by have := least_len (ordW ws) []; have := ord_len ws; unfold leastW; simp at *; omega)
      refine ⟨_, fun _ => True, _, _, _, .str z, rfl, h28, fun d hd => ?_, .str z, hzp.1, fun i hi => by rw [hnl] at hi; (cases hi), fun ws' _ hp => by rw [show plainD (.str z) = true from hzp.2] at hp; (cases hp), fun ws' z' hw he hp H29 f29 => ?_⟩
      · obtain ⟨y, hy, rfl⟩ := List.mem_map.mp hd
        exact okL'.2 y hy
      rw [hnl] at hw
      cases hw
      cases he
      rw [least_any]
      intro p1 hp1 p2 hp2
      have f229 : Fr T NoA H22 H29 := (f227.trans f28).trans f29
      have g1 : Fr T NoA H29 (upd H29 p1 (.lst [.bl (ws.any fun o => lies o z), .bl (ws.any fun o => lies o z)])) := Fr.new hp1
      have g2 : Fr T NoA (upd H29 p1 (.lst [.bl (ws.any fun o => lies o z), .bl (ws.any fun o => lies o z)])) (upd (upd H29 p1 (.lst [.bl (ws.any fun o => lies o z), .bl (ws.any fun o => lies o z)])) p2 (.lst [.bl (ws.any fun o => lies o z), .bl (ws.any fun o => lies o z)])) := Fr.new hp2
      refine ⟨fun _ => True, fun _ => True, _, _, .list [.bool (ws.any fun o => lies o z), .bool (ws.any fun o => lies o z)], rfl, .lst trivial (g2.keep _ _ (fun z => z) upd_same ntL) (.cons (.bl _) (.cons (.bl _) .nil)), .lst trivial upd_same (.cons (.bl _) (.cons (.bl _) .nil)), by simp [fit, fits], by simp [PyData.depth, PyData.depthAll], fun H30 f30 => ⟨_, rfl, ?_⟩⟩
      walk_at "isb"
      exact ⟨_, _, rfl, ((f229.trans g1).trans g2).trans f30⟩
    · rintro σ H23 ⟨y4, y9, rfl, f23⟩
      have hw23 := f23.keep _ _ (fun z => z) hw22 ntL
      have hpd23 := hpd22.fr f23 fun _ _ z => z
      have hu23 := hu22.fr f23 fun _ _ z => z
      have f023 := f022.trans f23.any
      have s23 := s22.fr f23 (fun z => z) (fun z => z)
      clear hw22 hd22 hpd22 hu22 f022 tb22 s22 ht22 f23 hts htl2
      walk_at "wp"
      refine sq_ ?_
      walk_at "wp"
      refine ⟨_, _, _, _, pd, rfl, hpd23, hu23, hfp, hdp, fun H24 f24 => ⟨_, rfl, ?_⟩⟩
      walk_at "isb"
      have hw24 := f24.keep _ _ (fun z => z) hw23 ntL
      have f024 := f023.trans f24.any
      have s24 := s23.fr f24 (fun z => z) (fun z => z)
      clear hw23 hpd23 hu23 f023 s23 f24
      -- a thing that is none
      refine sq_ ?_
      walk_at "wp"
      refine ⟨st, sc, _, wp, ws, rfl, s24, by omega, hw24, ow, by omega, fun z hz => (hwp1 z hz).2, fun xb db ib H25 f25 hxb hokb hnb s25 => ?_⟩
      obtain ⟨tb0, bv, rfl, hxt, hbv⟩ : ∃ (t : Addr) (bv : V), xb = .ref t ∧ H25 t = some (.tup [bv, .int ib]) ∧ Rp (Nw H24) H25 bv db := by
        cases hxb with
        | tup _ hx hr =>
          cases hr with
          | cons h1 h2 =>
            cases h2 with
            | cons h3 h4 =>
              cases h3
              cases h4
              exact ⟨_, _, rfl, hx, h1⟩
      have hbv' : Rp (Ot2 st sc) H25 bv db := hbv.mono fun b nb => s24.ot nb
      have hw25 := f25.keep _ _ (ot_st ow) hw24 ntL
      have f025 := f024.trans f25
      clear hxb hbv s24 hw24 f024 f25
      refine gTup2_ hxt ?_
      walk_at "wp"
      clear hxt
      refine sq_ ?_
      walk_at "wp"
      intro l1 hl1
      refine ⟨"a", 201, rfl, rfl, aa_mul, ?_⟩
      have f26 : Fr T NoA H25 (upd H25 l1 (.lst [.str "a"])) := Fr.new hl1
      have g1 : upd H25 l1 (.lst [.str "a"]) l1 = some (.lst [.str "a"]) := upd_same
      generalize upd H25 l1 (.lst [.str "a"]) = H26 at f26 g1 ⊢
      intro l2 hl2
      have f27 : Fr T NoA H26 (upd H26 l2 (.lst [.non, .int 5, .str "A", .ref l1, .str aa201, .str "a\n"])) := Fr.new hl2
      have hR : Rps (Nw H25) (upd H26 l2 (.lst [.non, .int 5, .str "A", .ref l1, .str aa201, .str "a\n"])) [.non, .int 5, .str "A", .ref l1, .str aa201, .str "a\n"] oddDs2 :=
        .cons .non (.cons (.int 5) (.cons (.str _) (.cons (.lst (Nw.of hl1) (f27.keep _ _ (fun z => z) g1 ntL) (.cons (.str _) .nil)) (.cons (.str _) (.cons (.str _) .nil)))))
      refine ⟨st, sc, _, l2, [.non, .int 5, .str "A", .ref l1, .str aa201, .str "a\n"], rfl, s25.fr (f26.trans f27) (fun z => z) (fun z => z), by omega, upd_same, s25.ot (Nw.back f26 (Nw.of hl2)), by show 0 < 6; decide, by show 6 ≤ 1000; decide, fun H28 io ov hov f28 s28 => ?_⟩
      obtain ⟨od, hod, hrd⟩ := Rps.get hR hov
      obtain ⟨ob1, ob2, ob3, ob4⟩ := odd_bad2 od (List.mem_of_getElem? hod)
      have hov' : Rp (fun _ => True) H28 ov od := (hrd.fr f28 fun b nb => ot_st (s25.ot nb)).mono fun _ _ => trivial
      have g28 : Fr T (St2 st sc) H25 H28 := (f26.trans f27).any.trans f28
      have hbv28 := hbv'.fr g28 fun _ => ot_st
      have hw28 := g28.keep _ _ (ot_st ow) hw25 ntL
      have tb28 := (f025.trans g28).tabs tb
      clear hR hrd hod hov f28 f27 f26 g28 hbv' hw25 f025 hl1 hl2 g1 s25 tb
      intro fp hfp t3 ht3
      refine gTup2_ upd_same ?_
      walk_at "wp"
      have f29 : Fr T NoA H28 (upd H28 fp (.lst [])) := Fr.new hfp
      have f30 : Fr T NoA (upd H28 fp (.lst [])) (upd (upd H28 fp (.lst [])) t3 (.tup [ov, .ref fp])) := Fr.new ht3
      have hf30 := f30.keep fp (.lst []) (fun z => z) upd_same ntL
      have g30 := f29.trans f30
      have nfp : Nw H28 fp := Nw.of hfp
      show tSeq _ _ _ _ (upd (upd H28 fp (.lst [])) t3 (.tup [ov, .ref fp]))
      generalize upd (upd H28 fp (.lst [])) t3 (.tup [ov, .ref fp]) = K1 at hf30 g30 ⊢
      clear f29 f30 ht3 hfp
      obtain ⟨pre1, post1, ecl1, hpre1⟩ := cx.words
      obtain ⟨pre2, post2, ecl2, hpre2⟩ := cx.word
      -- the first
      refine sq_ ?_
      walk_at "wp"
      refine ⟨tyL_ hf30, g30.tabs tb28, fun H31 e31 t31 => ?_⟩
      have f31 : Fr T NoA K1 H31 := Fr.extN e31 fun _ => t31
      unfold TTbr
      walk_at "wp"
      refine ⟨_, _, db, rfl, hbv28.fr (g30.trans f31) (fun _ _ z => z), hokb, t31, fun ws' hw' => by rw [hnb] at hw'; (cases hw'), fun i2 hi2 H32 dx f32 hdx => ?_⟩
      rw [hnb] at hi2
      cases hi2
      refine brE_cl ecl1 hpre1 cx.h1 hdx fun r1 hr1 => ?_
      have c1 : Fr T NoA K1 H32 := f31.trans f32
      have hf1 := hf30
      clear e31 t31 hdx
      have a11 : Fr T NoA H32 (upd H32 r1 (.tup [.str "words", .int ib])) := Fr.new hr1
      have a12 : upd H32 r1 (.tup [.str "words", .int ib]) r1 = some (.tup [.str "words", .int ib]) := upd_same
      have a13 : r1 ≠ fp := fun e => by
        have := (c1.keep _ _ (fun z => z) hf1 ntL)
        rw [← e, hr1] at this
        cases this
      have a14 := (c1.trans a11).keep _ _ (fun z => z) hf1 ntL
      have a15 := c1.trans a11
      generalize upd H32 r1 (.tup [.str "words", .int ib]) = G1 at a12 a14 a15 ⊢
      refine ⟨fp, [], .ref r1, rfl, rfl, a14, by decide, ?_⟩
      have a16 : Fr T (fun b => b = fp) G1 (upd G1 fp (.lst ([] ++ [.ref r1]))) := Fr.refl.mut (.inl rfl) a14 trivial ntL
      have hf2 : upd G1 fp (.lst ([] ++ [.ref r1])) fp = some (.lst ([] ++ [.ref r1])) := upd_same
      have b1 := a16.keep _ _ a13 a12 ntT
      have d1 : Fr T (fun b => b = fp) K1 (upd G1 fp (.lst ([] ++ [.ref r1]))) := a15.any.trans a16
      show tSeq _ _ _ _ (upd G1 fp (.lst ([] ++ [.ref r1])))
      generalize upd G1 fp (.lst ([] ++ [.ref r1])) = K2 at hf2 b1 d1 ⊢
      clear a11 a12 a14 a15 a16
      have k2 : Fr T NoA H28 K2 := g30.thru d1 fun c e => .inr (by rw [e]; exact nfp)
      -- the second
      refine sq_ ?_
      walk_at "wp"
      refine ⟨tyL_ hf2, k2.tabs tb28, fun H31 e31 t31 => ?_⟩
      have f31 : Fr T NoA K2 H31 := Fr.extN e31 fun _ => t31
      walk_at "wp"
      refine ⟨_, _, _, _, db, od, rfl, hbv28.fr (k2.trans f31) (fun _ _ z => z), hokb, hov'.fr (k2.trans f31) (fun _ _ z => z), ob2, fun i2 hi2 H32 dx f32 hdx => ?_, fun ws' hw' => by rw [hnb] at hw'; (cases hw'), fun ws' z' hw' => by rw [hnb] at hw'; (cases hw')⟩
      rw [hnb] at hi2
      cases hi2
      refine brE_cl ecl1 hpre1 cx.h1 hdx fun r2 hr2 => ?_
      have c2 : Fr T NoA K2 H32 := f31.trans f32
      clear e31 t31 hdx
      have a21 : Fr T NoA H32 (upd H32 r2 (.tup [.str "words", .int ib])) := Fr.new hr2
      have a22 : upd H32 r2 (.tup [.str "words", .int ib]) r2 = some (.tup [.str "words", .int ib]) := upd_same
      have a23 : r2 ≠ fp := fun e => by
        have := (c2.keep _ _ (fun z => z) hf2 ntL)
        rw [← e, hr2] at this
        cases this
      have a24 := (c2.trans a21).keep _ _ (fun z => z) hf2 ntL
      have a25 := c2.trans a21
      generalize upd H32 r2 (.tup [.str "words", .int ib]) = G2 at a22 a24 a25 ⊢
      refine ⟨fp, ([] ++ [V.ref r1]), .ref r2, rfl, rfl, a24, by show 1 < sizeLine; decide, ?_⟩
      have a26 : Fr T (fun b => b = fp) G2 (upd G2 fp (.lst (([] ++ [V.ref r1]) ++ [.ref r2]))) := Fr.refl.mut (.inl rfl) a24 trivial ntL
      have hf3 : upd G2 fp (.lst (([] ++ [V.ref r1]) ++ [.ref r2])) fp = some (.lst (([] ++ [V.ref r1]) ++ [.ref r2])) := upd_same
      have b2 := a26.keep _ _ a23 a22 ntT
      have d2 : Fr T (fun b => b = fp) K2 (upd G2 fp (.lst (([] ++ [V.ref r1]) ++ [.ref r2]))) := a25.any.trans a26
      show tSeq _ _ _ _ (upd G2 fp (.lst (([] ++ [V.ref r1]) ++ [.ref r2])))
      generalize upd G2 fp (.lst (([] ++ [V.ref r1]) ++ [.ref r2])) = K3 at hf3 b2 d2 ⊢
      clear a21 a22 a24 a25 a26
      have k3 : Fr T NoA H28 K3 := k2.thru d2 fun c e => .inr (by rw [e]; exact nfp)
      have b1' := d2.keep _ _ a13 b1 ntT
      -- the third
      refine sq_ ?_
      walk_at "wp"
      refine ⟨tyL_ hf3, k3.tabs tb28, fun H31 e31 t31 => ?_⟩
      have f31 : Fr T NoA K3 H31 := Fr.extN e31 fun _ => t31
      have k31 := k3.trans f31
      walk_at "wp"
      refine ⟨fun _ => True, _, _, rfl, rpL (k31.keep _ _ (fun z => z) hw28 ntL) trivial, fit_strs (by omega), dep_strs _, fun v41 H41 f41 h41 => ?_⟩
      have k41 := k31.trans f41
      have hnw2 : nw (.list (ws.map PyData.str)) = .inl ws := nw_strs (fun z hz => (hwp1 z hz).2) (by omega)
      refine ⟨_, _, _, _, _, od, rfl, h41, fun d hd => ?_, hov'.fr k41 (fun _ _ z => z), ob2, fun i2 hi2 => by rw [hnw2] at hi2; (cases hi2), fun ws' hw' hpl H32 dx f32 hdx => ?_, fun ws' z' hw' he hp => by rw [he] at ob1; rw [show plainD (.str z') = true from hp] at ob1; (cases ob1)⟩
      · obtain ⟨y, hy, rfl⟩ := List.mem_map.mp hd
        exact okw.2 y hy
      refine brE_cl ecl2 hpre2 cx.h2 hdx fun r3 hr3 => ?_
      have c3 : Fr T NoA K3 H32 := (f31.trans f41).trans f32
      clear e31 t31 hdx
      have a31 : Fr T NoA H32 (upd H32 r3 (.tup [.str "word", ov])) := Fr.new hr3
      have a32 : upd H32 r3 (.tup [.str "word", ov]) r3 = some (.tup [.str "word", ov]) := upd_same
      have a33 : r3 ≠ fp := fun e => by
        have := (c3.keep _ _ (fun z => z) hf3 ntL)
        rw [← e, hr3] at this
        cases this
      have a34 := (c3.trans a31).keep _ _ (fun z => z) hf3 ntL
      have a35 := c3.trans a31
      generalize upd H32 r3 (.tup [.str "word", ov]) = G3 at a32 a34 a35 ⊢
      refine ⟨fp, ([] ++ [V.ref r1] ++ [V.ref r2]), .ref r3, rfl, rfl, a34, by show 2 < sizeLine; decide, ?_⟩
      have a36 : Fr T (fun b => b = fp) G3 (upd G3 fp (.lst (([] ++ [V.ref r1] ++ [V.ref r2]) ++ [.ref r3]))) := Fr.refl.mut (.inl rfl) a34 trivial ntL
      have hf4 : upd G3 fp (.lst (([] ++ [V.ref r1] ++ [V.ref r2]) ++ [.ref r3])) fp = some (.lst (([] ++ [V.ref r1] ++ [V.ref r2]) ++ [.ref r3])) := upd_same
      have b3 := a36.keep _ _ a33 a32 ntT
      have d3 : Fr T (fun b => b = fp) K3 (upd G3 fp (.lst (([] ++ [V.ref r1] ++ [V.ref r2]) ++ [.ref r3]))) := a35.any.trans a36
      generalize upd G3 fp (.lst (([] ++ [V.ref r1] ++ [V.ref r2]) ++ [.ref r3])) = K4 at hf4 b3 d3 ⊢
      clear a31 a32 a34 a35 a36
      have k4 : Fr T NoA H28 K4 := k3.thru d3 fun c e => .inr (by rw [e]; exact nfp)
      have b1'' := d3.keep _ _ a13 b1' ntT
      have b2' := d3.keep _ _ a23 b2 ntT
      have hov4 := hov'.fr k4 fun _ _ z => z
      have s4 := s28.fr k4 (fun z => z) (fun z => z)
      have tb4 := k4.tabs tb28
      clear d1 d2 d3 c1 c2 c3 k2 k3 b1 b1' b2 hf1 hf2 hf3 hf30 g30 f31 f32 f41 k31 k41 h41
      -- all three
      intro e1 he1 e2 he2 e3 he3 e4 he4
      have m1 : Fr T NoA K4 (upd K4 e1 (.tup [.str "words", .int ib])) := Fr.new he1
      have n1 : upd K4 e1 (.tup [.str "words", .int ib]) e1 = some (.tup [.str "words", .int ib]) := upd_same
      generalize upd K4 e1 (.tup [.str "words", .int ib]) = M1 at m1 n1 he2 he3 he4 ⊢
      have m2 : Fr T NoA M1 (upd M1 e2 (.tup [.str "words", .int ib])) := Fr.new he2
      have n2 : upd M1 e2 (.tup [.str "words", .int ib]) e2 = some (.tup [.str "words", .int ib]) := upd_same
      generalize upd M1 e2 (.tup [.str "words", .int ib]) = M2 at m2 n2 he3 he4 ⊢
      have m3 : Fr T NoA M2 (upd M2 e3 (.tup [.str "word", ov])) := Fr.new he3
      have n3 : upd M2 e3 (.tup [.str "word", ov]) e3 = some (.tup [.str "word", ov]) := upd_same
      generalize upd M2 e3 (.tup [.str "word", ov]) = M3 at m3 n3 he4 ⊢
      have m4 : Fr T NoA M3 (upd M3 e4 (.lst [.ref e1, .ref e2, .ref e3])) := Fr.new he4
      have n4 : upd M3 e4 (.lst [.ref e1, .ref e2, .ref e3]) e4 = some (.lst [.ref e1, .ref e2, .ref e3]) := upd_same
      generalize upd M3 e4 (.lst [.ref e1, .ref e2, .ref e3]) = M4 at m4 n4 ⊢
      have z4 := ((m1.trans m2).trans m3).trans m4
      have kk := fun {a : Addr} {o : HO} (h : K4 a = some o) (t : NT o) => z4.keep a o (fun z => z) h t
      have hov5 := hov4.fr z4 fun _ _ z => z
      have pr : ∀ (r : Addr), M4 r = some (.tup [.str "words", .int ib]) → Rp (fun _ => True) M4 (.ref r) (.tuple [.str "words", .int ib]) := fun r h => .tup trivial h (.cons (.str _) (.cons (.int _) .nil))
      refine ⟨fun _ => True, fun _ => True, _, _, .list [.tuple [.str "words", .int ib], .tuple [.str "words", .int ib], .tuple [.str "word", od]], rfl,
        .lst trivial (kk hf4 ntL) (.cons (pr r1 (kk b1'' ntT)) (.cons (pr r2 (kk b2' ntT)) (.cons (.tup trivial (kk b3 ntT) (.cons (.str _) (.cons hov5 .nil))) .nil))),
        .lst trivial n4 (.cons (pr e1 (((m2.trans m3).trans m4).keep _ _ (fun z => z) n1 ntT)) (.cons (pr e2 ((m3.trans m4).keep _ _ (fun z => z) n2 ntT)) (.cons (.tup trivial (m4.keep _ _ (fun z => z) n3 ntT) (.cons (.str _) (.cons hov5 .nil))) .nil))),
        by simp [fit, fits, ob3], by simp only [PyData.depth, PyData.depthAll]; omega, fun H50 f50 => ⟨_, rfl, ?_⟩⟩
      walk_at "isb"
      exact ⟨st, sc, _, _, _, _, _, _, _, _, _, _, _, _, _, _, _, _, _, rfl, (s4.fr z4 (fun z => z) (fun z => z)).fr f50 (fun z => z) (fun z => z), by omega, f50.tabs (z4.tabs tb4)⟩
  · rintro σ H2 ⟨st, sc, k, x2, x3, x4, x5, x6, x7, x8, x9, x10, x11, x12, x13, x14, x15, x16, x17, rfl, sm, hk, tb⟩
    walk_at "wp"
    refine sq_ ?_
    walk_at "wp"
    refine ⟨"ab", 100, rfl, rfl, long_mul, ?_⟩
    refine ⟨long, rfl, long_size, ?_⟩
    intro p1 h1
    have f1 : Fr T NoA H2 (upd H2 p1 (.lst [.str long, .str (cutS long (some 1) none), .str "", .str "b"])) := Fr.new h1
    have tb1 := f1.tabs tb
    have g1 : upd H2 p1 (.lst [.str long, .str (cutS long (some 1) none), .str "", .str "b"]) p1 = some (.lst (([long, cutS long (some 1) none, "", "b"] : List PySem.Str).map V.str)) := upd_same
    show sp_least_words T C1 [V.ref p1] (upd H2 p1 (.lst [.str long, .str (cutS long (some 1) none), .str "", .str "b"])) _ _
    generalize upd H2 p1 (.lst [.str long, .str (cutS long (some 1) none), .str "", .str "b"]) = H3 at f1 tb1 g1 ⊢
    refine ⟨fun _ => True, _, _, rfl, rpL g1 trivial, last_okW, tb1, fun ws' hw' r1 H4 f4 n4 h4 => ?_, fun i hi => by rw [last_nw'] at hi; (cases hi)⟩
    rw [last_nw'] at hw'
    cases hw'
    rw [last_least] at h4
    have tb4 := f4.tabs tb1
    intro p2 h2
    have f5 : Fr T NoA H4 (upd H4 p2 (.lst [])) := Fr.new h2
    have g5 : upd H4 p2 (.lst []) p2 = some (.lst (([] : List PySem.Str).map V.str)) := upd_same
    generalize upd H4 p2 (.lst []) = H5 at f5 g5 ⊢
    refine ⟨fun _ => True, _, _, rfl, rpL g5 trivial, (fun d hd => nomatch hd), f5.tabs tb4, fun ws' hw' r2 H6 f6 n6 h6 => ?_, fun i hi => by rw [nil_nw] at hi; (cases hi)⟩
    rw [nil_nw] at hw'
    cases hw'
    rw [nil_least] at h6
    have f46 := f5.trans f6
    intro p3 h3
    have f7 : Fr T NoA H6 (upd H6 p3 (.lst [])) := Fr.new h3
    have g7 : upd H6 p3 (.lst []) p3 = some (.lst (([] : List PySem.Str).map V.str)) := upd_same
    generalize upd H6 p3 (.lst []) = H7 at f7 g7 ⊢
    refine ⟨fun _ => True, fun _ => True, _, _, _, .str "", rfl, rpL g7 trivial, (fun d hd => nomatch hd), .str "", ⟨by decide, by decide +kernel⟩, fun i hi => by rw [nil_nw] at hi; (cases hi), fun ws' _ hp => by rw [show plainD (.str "") = true from pl0] at hp; (cases hp), fun ws' z' hw he hp H8 f8 => ?_⟩
    rw [nil_nw] at hw
    cases hw
    rw [List.any_nil]
    intro p4 h4'
    have f9 : Fr T NoA H8 (upd H8 p4 (.lst [.str ""])) := Fr.new h4'
    have g9 : upd H8 p4 (.lst [.str ""]) p4 = some (.lst (([""] : List PySem.Str).map V.str)) := upd_same
    generalize upd H8 p4 (.lst [.str ""]) = H9 at f9 g9 ⊢
    refine ⟨fun _ => True, fun _ => True, _, _, _, .str "z", rfl, rpL g9 trivial, one_okW, .str "z", ⟨by decide, by decide +kernel⟩, fun i hi => by rw [one_nw] at hi; (cases hi), fun ws' _ hp => by rw [show plainD (.str "z") = true from plz] at hp; (cases hp), fun ws' z' hw he hp H10 f10 => ?_⟩
    rw [one_nw] at hw
    cases hw
    cases he
    rw [one_any]
    have f6_10 := ((f7.trans f8).trans f9).trans f10
    have g4 := (f46.trans f6_10).keep _ _ (fun z => z) h4 ntL
    have g6 := f6_10.keep _ _ (fun z => z) h6 ntL
    intro a1 ha1
    have m1 : Fr T NoA H10 (upd H10 a1 (.lst [.ref r1, .ref r2, .bl false, .bl true])) := Fr.new ha1
    have n1 : upd H10 a1 (.lst [.ref r1, .ref r2, .bl false, .bl true]) a1 = some (.lst [.ref r1, .ref r2, .bl false, .bl true]) := upd_same
    generalize upd H10 a1 (.lst [.ref r1, .ref r2, .bl false, .bl true]) = M1 at m1 n1 ⊢
    intro a2 ha2
    have m2 : Fr T NoA M1 (upd M1 a2 (.lst [.str ""])) := Fr.new ha2
    have n2 : upd M1 a2 (.lst [.str ""]) a2 = some (.lst [.str ""]) := upd_same
    generalize upd M1 a2 (.lst [.str ""]) = M2 at m2 n2 ⊢
    intro a3 ha3
    have m3 : Fr T NoA M2 (upd M2 a3 (.lst [])) := Fr.new ha3
    have n3 : upd M2 a3 (.lst []) a3 = some (.lst []) := upd_same
    generalize upd M2 a3 (.lst []) = M3 at m3 n3 ⊢
    intro a4 ha4
    have m4 : Fr T NoA M3 (upd M3 a4 (.lst [.ref a2, .ref a3, .bl false, .bl true])) := Fr.new ha4
    have n4' : upd M3 a4 (.lst [.ref a2, .ref a3, .bl false, .bl true]) a4 = some (.lst [.ref a2, .ref a3, .bl false, .bl true]) := upd_same
    generalize upd M3 a4 (.lst [.ref a2, .ref a3, .bl false, .bl true]) = M4 at m4 n4' ⊢
    have q1 := ((m2.trans m3).trans m4).keep _ _ (fun z => z) n1 ntL
    have q2 := (m3.trans m4).keep _ _ (fun z => z) n2 ntL
    have q3 := m4.keep _ _ (fun z => z) n3 ntL
    have z4 := ((m1.trans m2).trans m3).trans m4
    have q4 := z4.keep _ _ (fun z => z) g4 ntL
    have q6 := z4.keep _ _ (fun z => z) g6 ntL
    refine ⟨fun _ => True, fun _ => True, _, _, .list [.list [.str ""], .list [], .bool false, .bool true], rfl,
      .lst trivial q1 (.cons (.lst trivial q4 (.cons (.str _) .nil)) (.cons (.lst trivial q6 .nil) (.cons (.bl _) (.cons (.bl _) .nil)))),
      .lst trivial n4' (.cons (.lst trivial q2 (.cons (.str _) .nil)) (.cons (.lst trivial q3 .nil) (.cons (.bl _) (.cons (.bl _) .nil)))),
      by simp [fit, fits], by simp [PyData.depth, PyData.depthAll], fun H50 f50 => q H50⟩
end Lo
set_option Elab.async false
set_option linter.all false
set_option maxRecDepth 100000
set_option maxHeartbeats 40000000
namespace Lo
open PySem PySem.Spec PyProof.Rows L2
def top (i : Nat) : Stmt := PySem.Challenge.pw_lostletters_k43_least_words.main.body.getD i (.Pass ⟨0, 0, 0, 0⟩)
abbrev s_is_plain : Stmt := top 15
abbrev s_need_plain : Stmt := top 16
abbrev s_places_in : Stmt := top 17
abbrev s_is_in : Stmt := top 18
abbrev s_need_words : Stmt := top 21
abbrev s_in_order : Stmt := top 22
abbrev s_least_plain : Stmt := top 23
abbrev s_least_words : Stmt := top 24
abbrev s_is_above : Stmt := top 25
abbrev s_law_start : Stmt := top 27
abbrev s_law_below : Stmt := top 28
abbrev s_law_chance : Stmt := top 29
abbrev s_law_pick : Stmt := top 30
abbrev s_law_mixed : Stmt := top 31
abbrev s_law_copied : Stmt := top 32
abbrev s_law_same : Stmt := top 33
abbrev s_law_loose : Stmt := top 34
abbrev s_law_spoilt : Stmt := top 35
abbrev s_law_is_once : Stmt := top 36
abbrev s_law_apart : Stmt := top 37
abbrev s_law_bletters : Stmt := top 38
abbrev s_law_blies : Stmt := top 39
abbrev s_law_border : Stmt := top 40
abbrev s_law_bleast : Stmt := top 41
abbrev s_law_bword : Stmt := top 42
abbrev s_law_braised : Stmt := top 43
abbrev s_law_bbad : Stmt := top 44
abbrev s_law : Stmt := top 45
/-- what the top leaves -/
structure Tx (K : PySem.W.Frag) (mg : PySem.Str → Option Value) where
  is_plain : DefAt K mg "is_plain" s_is_plain
  need_plain : DefAt K mg "need_plain" s_need_plain
  places_in : DefAt K mg "places_in" s_places_in
  is_in : DefAt K mg "is_in" s_is_in
  need_words : DefAt K mg "need_words" s_need_words
  in_order : DefAt K mg "in_order" s_in_order
  least_plain : DefAt K mg "least_plain" s_least_plain
  least_words : DefAt K mg "least_words" s_least_words
  is_above : DefAt K mg "is_above" s_is_above
  law_start : DefAt K mg "_law_start" s_law_start
  law_below : DefAt K mg "_law_below" s_law_below
  law_chance : DefAt K mg "_law_chance" s_law_chance
  law_pick : DefAt K mg "_law_pick" s_law_pick
  law_mixed : DefAt K mg "_law_mixed" s_law_mixed
  law_copied : DefAt K mg "_law_copied" s_law_copied
  law_same : DefAt K mg "_law_same" s_law_same
  law_loose : DefAt K mg "_law_loose" s_law_loose
  law_spoilt : DefAt K mg "_law_spoilt" s_law_spoilt
  law_is_once : DefAt K mg "_law_is_once" s_law_is_once
  law_apart : DefAt K mg "_law_apart" s_law_apart
  law_bletters : DefAt K mg "_law_bletters" s_law_bletters
  law_blies : DefAt K mg "_law_blies" s_law_blies
  law_border : DefAt K mg "_law_border" s_law_border
  law_bleast : DefAt K mg "_law_bleast" s_law_bleast
  law_bword : DefAt K mg "_law_bword" s_law_bword
  law_braised : DefAt K mg "_law_braised" s_law_braised
  law_bbad : DefAt K mg "_law_bbad" s_law_bbad
  law : DefAt K mg "law" s_law
  c_SMALL : ∃ t, mg "SMALL" = some (.str "abcdefghijklmnopqrstuvwxyz" t)
  c_LONGEST : ∃ t, mg "LONGEST" = some (.int 200 t)
  c_WORDS : ∃ t, mg "WORDS" = some (.int 200 t)
  n_isinstance : mg "isinstance" = none
  n_list : mg "list" = none
  n_tuple : mg "tuple" = none
  n_dict : mg "dict" = none
  n_int : mg "int" = none
  n_str : mg "str" = none
  n_bool : mg "bool" = none
  n_len : mg "len" = none
  n_sorted : mg "sorted" = none
  n_all : mg "all" = none
  n_range : mg "range" = none
  n_zip : mg "zip" = none
  n_enumerate : mg "enumerate" = none
  e_BadMachine : Er_thing.ErrAt K mg "BadMachine"
  e_BadOther : Er_thing.ErrAt K mg "BadOther"
  e_BadWord : Er_thing.ErrAt K mg "BadWord"
  e_BadWords : Er_index.ErrAt K mg "BadWords"
  e_BadRows : Er_index.ErrAt K mg "BadRows"
  e_BadLetters : Er_thing.ErrAt K mg "BadLetters"
  e_BadLength : Er_thing.ErrAt K mg "BadLength"
  e_BadNumber : Er_thing.ErrAt K mg "BadNumber"
  e_BadMany : Er_thing.ErrAt K mg "BadMany"
  e_TooMany : Er_many.ErrAt K mg "TooMany"
section
variable {P : Program} {w : World} {K : PySem.W.Frag} {mg : PySem.Str → Option Value} {base : Heap}
/-! ### is_plain -/
theorem sc_is_plain : FnScope N_is_plain ["thing"] (defScope s_is_plain) := ⟨rfl, rfl, rfl, by decide +kernel, rfl, by decide +kernel, by decide +kernel⟩
theorem ok_is_plain (T : Tx K mg) {k : Nat} {sp : Sp} (hl : ∀ vs H Q E, sp vs H Q E → vs.length = 1)
    (hp : ∀ vs H Q E, sp vs H Q E → t_is_plain K { nx := fun _ H1 => Q .non H1, rt := Q } (start N_is_plain vs) H) : FnOk P w K mg base CX0 (k + 1) T.is_plain.f T.is_plain.fd ["thing"] sp := by
  refine T.is_plain.F.ok sc_is_plain hl (fun cdv A outer s H vs Q E hr h => ⟨t_is_plain K, PSs.nox ?_, hp vs H Q E h⟩)
  have hu64 := Room.hu64 hr
  exact pss_one (ps_ret (pe_and (pe_callB call_isi (by rfl) T.n_isinstance bt_isinstance (pa_cons (pv 0) (pa_cons (pe_bltn rfl T.n_str bt_str rfl) (pa_nil)))) (pe_and (pe_cmpR op_le (pe_callB call_len (by rfl) T.n_len bt_len (pa_cons (pv 0) (pa_nil))) (pe_glob rfl T.c_LONGEST.choose_spec ⟨_, rfl⟩) (nomark _)) (pe_one (pe_cmpR (op_eqD hu64) (pe_lc (own := [("sign", 1)]) (g := gName 1) (tt := tTest (tOp rNotInS (tVar 1) (tC (.str "abcdefghijklmnopqrstuvwxyz")))) rfl sc_is_plain.nd (pi_str (pv 0)) (blkOk_by (N := N_is_plain) (sc := defScope s_is_plain) (by decide +kernel)) (fun _ _ _ _ _ => pg_name (i := 1) sc_is_plain.nd rfl (Or.inl rfl)) (fun _ _ _ _ _ => pts_one (pt_cmpR op_notInS (pv 1) (pe_glob rfl T.c_SMALL.choose_spec ⟨_, rfl⟩) rfl)) (fun _ _ _ _ _ => pv 1)) (pe_lst (pa_nil)) (nomark _))))))
def a_is_plain (T : Tx K mg) {k : Nat} {sp : Sp} (ok : FnOk P w K mg base CX0 k T.is_plain.f T.is_plain.fd ["thing"] sp) : FnA P w K mg base CX0 k "is_plain" ["thing"] sp :=
  T.is_plain.a ok fun _ _ _ _ _ _ us hl => match us, hl with | [_], _ => rfl

/-! ### need_plain -/
theorem sc_need_plain : FnScope N_need_plain ["word"] (defScope s_need_plain) := ⟨rfl, rfl, rfl, by decide +kernel, rfl, by decide +kernel, by decide +kernel⟩
theorem ok_need_plain (T : Tx K mg) {k : Nat}
    {k_is_plain : Nat} {sp_is_plain : Sp} (G_is_plain : FnA P w K mg base CX0 k_is_plain "is_plain" ["thing"] sp_is_plain) (h_is_plain : k_is_plain ≤ k) {sp : Sp} (hl : ∀ vs H Q E, sp vs H Q E → vs.length = 1)
    (hp : ∀ vs H Q E, sp vs H Q E → t_need_plain K sp_is_plain T.e_BadWord.C E { nx := fun _ H1 => Q .non H1, rt := Q } (start N_need_plain vs) H) : FnOk P w K mg base (L2.CX P w) (k + 1) T.need_plain.f T.need_plain.fd ["word"] sp := by
  refine T.need_plain.F.ok sc_need_plain hl (fun cdv A outer s H vs Q E hr h => ⟨t_need_plain K sp_is_plain T.e_BadWord.C E, ?_, hp vs H Q E h⟩)
  exact pss_cons (ps_if (pt_not (pt_val (pe_fn G_is_plain (hr.mono (by omega)) (pa_cons (pv 0) (pa_nil))))) (pss_one (Er_thing.ps_raiseE rfl (by rfl) T.e_BadWord.T hr (takes_of rfl rfl rfl rfl) (pa_cons (pv 0) (pa_nil)))) (pss_nil))
      (pss_one (ps_ret (pv 0)))
def a_need_plain (T : Tx K mg) {k : Nat} {sp : Sp} (ok : FnOk P w K mg base (L2.CX P w) k T.need_plain.f T.need_plain.fd ["word"] sp) : FnA P w K mg base (L2.CX P w) k "need_plain" ["word"] sp :=
  T.need_plain.a ok fun _ _ _ _ _ _ us hl => match us, hl with | [_], _ => rfl

/-! ### places_in -/
theorem sc_places_in : FnScope N_places_in ["word", "other"] (defScope s_places_in) := ⟨rfl, rfl, rfl, by decide +kernel, rfl, by decide +kernel, by decide +kernel⟩
theorem ok_places_in (T : Tx K mg) {k : Nat} {sp : Sp} (hl : ∀ vs H Q E, sp vs H Q E → vs.length = 2)
    (hp : ∀ vs H Q E, sp vs H Q E → t_places_in K { nx := fun _ H1 => Q .non H1, rt := Q } (start N_places_in vs) H) : FnOk P w K mg base CX0 (k + 1) T.places_in.f T.places_in.fd ["word", "other"] sp := by
  refine T.places_in.F.ok sc_places_in hl (fun cdv A outer s H vs Q E hr h => ⟨t_places_in K, PSs.nox ?_, hp vs H Q E h⟩)
  exact pss_cons (ps_par (i := 2) (j := 3) rfl sc_places_in.nd rfl rfl (by decide) rfl rfl (pa_cons (pe_lst (pa_nil)) (pa_cons (pe_int) (pa_nil))) (by rfl))
      (pss_cons (ps_for PassesOwn.never rfl (pi_str (pv 0)) (pg_name (i := 4) sc_places_in.nd rfl (Or.inl rfl)) (pss_cons (ps_while PassesOwn.never (PW.pt (pw_and (pt_cmpR op_lt (pv 3) (pe_callB call_len (by rfl) T.n_len bt_len (pa_cons (pv 1) (pa_nil))) (nomark _)) (pw_and1 (pt_cmpR op_ne (pe_ix ix_str (pv 1) (pv 3) (fun _ _ => rfl)) (pv 4) (nomark _))))) (pss_one (ps_aug (i := 3) sc_places_in.nd rfl (Or.inl rfl) (pe_int) ip_add)))
      (pss_cons (ps_if (pt_cmpR op_eq (pv 3) (pe_callB call_len (by rfl) T.n_len bt_len (pa_cons (pv 1) (pa_nil))) (nomark _)) (pss_one (ps_ret (pe_non))) (pss_nil))
      (pss_cons (ps_expr (pe_bm PySem.F.plainAttrs_list PySem.F.slot_list_append PySem.F.type_list_append mt_append (pv 2) (pa_cons (pv 3) (pa_nil))))
      (pss_one (ps_aug (i := 3) sc_places_in.nd rfl (Or.inl rfl) (pe_int) ip_add))))))
      (pss_one (ps_ret (pv 2))))
def a_places_in (T : Tx K mg) {k : Nat} {sp : Sp} (ok : FnOk P w K mg base CX0 k T.places_in.f T.places_in.fd ["word", "other"] sp) : FnA P w K mg base CX0 k "places_in" ["word", "other"] sp :=
  T.places_in.a ok fun _ _ _ _ _ _ us hl => match us, hl with | [_, _], _ => rfl

/-! ### is_in -/
theorem sc_is_in : FnScope N_is_in ["word", "other"] (defScope s_is_in) := ⟨rfl, rfl, rfl, by decide +kernel, rfl, by decide +kernel, by decide +kernel⟩
theorem ok_is_in (T : Tx K mg) {k : Nat}
    {k_places_in : Nat} {sp_places_in : Sp} (G_places_in : FnA P w K mg base CX0 k_places_in "places_in" ["word", "other"] sp_places_in) (h_places_in : k_places_in ≤ k) {sp : Sp} (hl : ∀ vs H Q E, sp vs H Q E → vs.length = 2)
    (hp : ∀ vs H Q E, sp vs H Q E → t_is_in K sp_places_in { nx := fun _ H1 => Q .non H1, rt := Q } (start N_is_in vs) H) : FnOk P w K mg base CX0 (k + 1) T.is_in.f T.is_in.fd ["word", "other"] sp := by
  refine T.is_in.F.ok sc_is_in hl (fun cdv A outer s H vs Q E hr h => ⟨t_is_in K sp_places_in, PSs.nox ?_, hp vs H Q E h⟩)
  exact pss_one (ps_ret (pe_cmpR op_notN1 (pe_fn G_places_in (hr.mono (by omega)) (pa_cons (pv 0) (pa_cons (pv 1) (pa_nil)))) (pe_non) (nomark _)))
def a_is_in (T : Tx K mg) {k : Nat} {sp : Sp} (ok : FnOk P w K mg base CX0 k T.is_in.f T.is_in.fd ["word", "other"] sp) : FnA P w K mg base CX0 k "is_in" ["word", "other"] sp :=
  T.is_in.a ok fun _ _ _ _ _ _ us hl => match us, hl with | [_, _], _ => rfl

/-! ### need_words -/
theorem sc_need_words : FnScope N_need_words ["words"] (defScope s_need_words) := ⟨rfl, rfl, rfl, by decide +kernel, rfl, by decide +kernel, by decide +kernel⟩
theorem ok_need_words (T : Tx K mg) {k : Nat}
    {k_is_plain : Nat} {sp_is_plain : Sp} (G_is_plain : FnA P w K mg base CX0 k_is_plain "is_plain" ["thing"] sp_is_plain) (h_is_plain : k_is_plain ≤ k) {sp : Sp} (hl : ∀ vs H Q E, sp vs H Q E → vs.length = 1)
    (hp : ∀ vs H Q E, sp vs H Q E → t_need_words K sp_is_plain T.e_BadWords.C E { nx := fun _ H1 => Q .non H1, rt := Q } (start N_need_words vs) H) : FnOk P w K mg base (L2.CX P w) (k + 1) T.need_words.f T.need_words.fd ["words"] sp := by
  refine T.need_words.F.ok sc_need_words hl (fun cdv A outer s H vs Q E hr h => ⟨t_need_words K sp_is_plain T.e_BadWords.C E, ?_, hp vs H Q E h⟩)
  exact pss_cons (ps_if (PW.pt (pw_or (pt_not (pt_val (pe_callB call_isiT (by rfl) T.n_isinstance bt_isinstance (pa_cons (pv 0) (pa_cons (pe_tup (pa_cons (pe_bltn rfl T.n_list bt_list rfl) (pa_cons (pe_bltn rfl T.n_tuple bt_tuple rfl) (pa_nil)))) (pa_nil)))))) (pw_or1 (pt_cmpR op_gt (pe_callB call_len (by rfl) T.n_len bt_len (pa_cons (pv 0) (pa_nil))) (pe_glob rfl T.c_WORDS.choose_spec ⟨_, rfl⟩) (nomark _))))) (pss_one (Er_index.ps_raiseE rfl (by rfl) T.e_BadWords.T hr (takes_of rfl rfl rfl rfl) (pa_cons (pe_int) (pa_nil)))) (pss_nil))
      (pss_cons (ps_for (passes_of rfl) rfl (PI.or (pi_enum (by rfl) T.n_enumerate (pa_cons (pv 0) (pa_nil))) (pi_enumU (by rfl) T.n_enumerate (pa_cons (pv 0) (pa_nil)))) (pg_tup rfl (pgs_cons (pg_name (i := 1) sc_need_words.nd rfl (Or.inl rfl)) (pgs_cons (pg_name (i := 2) sc_need_words.nd rfl (Or.inl rfl)) (pgs_nil)))) (pss_one (ps_if (pt_not (pt_val (pe_fn G_is_plain (hr.mono (by omega)) (pa_cons (pv 2) (pa_nil))))) (pss_one (Er_index.ps_raiseE rfl (by rfl) T.e_BadWords.T hr (takes_of rfl rfl rfl rfl) (pa_cons (pv 1) (pa_nil)))) (pss_nil))))
      (pss_one (ps_ret (pe_callTy call_list_of (by rfl) T.n_list bt_list (pa_cons (pv 0) (pa_nil))))))
def a_need_words (T : Tx K mg) {k : Nat} {sp : Sp} (ok : FnOk P w K mg base (L2.CX P w) k T.need_words.f T.need_words.fd ["words"] sp) : FnA P w K mg base (L2.CX P w) k "need_words" ["words"] sp :=
  T.need_words.a ok fun _ _ _ _ _ _ us hl => match us, hl with | [_], _ => rfl

/-! ### in_order -/
theorem sc_in_order : FnScope N_in_order ["words"] (defScope s_in_order) := ⟨rfl, rfl, rfl, by decide +kernel, rfl, by decide +kernel, by decide +kernel⟩
theorem ok_in_order (T : Tx K mg) {k : Nat} {Ts : List (Addr × PySem.Str)} {cc Pt : Addr} (TB : LamX.TabB base mg cc Pt) (hcc : T.in_order.fd.code = .ref cc) (hmT : (Pt, (("in_order" : PySem.Str) ++ (".<locals>." : PySem.Str)) ++ ("<lambda>" : PySem.Str)) ∈ Ts) (hu : ∀ q ∈ Ts, q.1 = Pt → q.2 = (("in_order" : PySem.Str) ++ (".<locals>." : PySem.Str)) ++ ("<lambda>" : PySem.Str)) {sp : Sp} (hl : ∀ vs H Q E, sp vs H Q E → vs.length = 1)
    (hp : ∀ vs H Q E, sp vs H Q E → t_in_order K Ts { nx := fun _ H1 => Q .non H1, rt := Q } (start N_in_order vs) H) : FnOk P w K mg base CX0 (k + 1) T.in_order.f T.in_order.fd ["words"] sp := by
  refine FunD.okC T.in_order.F hcc sc_in_order hl (fun cdv hcode A outer s H vs Q E hr h => ⟨t_in_order K Ts, PSs.nox ?_, hp vs H Q E h⟩)
  exact pss_one (ps_ret (pe_sortLw (pe_dc (own := [("word", 1)]) (g := gName 1) (tt := (fun _ H Q => Q true H)) rfl sc_in_order.nd (pi_list (pv 0)) (blkOk_by (N := N_in_order) (sc := defScope s_in_order) (by decide +kernel)) (fun _ _ _ _ _ => pg_name (i := 1) sc_in_order.nd rfl (Or.inl rfl)) (fun _ _ _ _ _ => pts_nil) (fun _ _ _ _ _ => pv 1) (fun _ _ _ _ _ => pe_bl)) rfl T.n_sorted T.n_len rfl hr TB hcode hmT hu))
def a_in_order (T : Tx K mg) {k : Nat} {sp : Sp} (ok : FnOk P w K mg base CX0 k T.in_order.f T.in_order.fd ["words"] sp) : FnA P w K mg base CX0 k "in_order" ["words"] sp :=
  T.in_order.a ok fun _ _ _ _ _ _ us hl => match us, hl with | [_], _ => rfl

/-! ### least_plain -/
theorem sc_least_plain : FnScope N_least_plain ["words"] (defScope s_least_plain) := ⟨rfl, rfl, rfl, by decide +kernel, rfl, by decide +kernel, by decide +kernel⟩
theorem ok_least_plain (T : Tx K mg) {k : Nat}
    {k_in_order : Nat} {sp_in_order : Sp} (G_in_order : FnA P w K mg base CX0 k_in_order "in_order" ["words"] sp_in_order) (h_in_order : k_in_order ≤ k)
    {k_is_in : Nat} {sp_is_in : Sp} (G_is_in : FnA P w K mg base CX0 k_is_in "is_in" ["word", "other"] sp_is_in) (h_is_in : k_is_in ≤ k) {sp : Sp} (hl : ∀ vs H Q E, sp vs H Q E → vs.length = 1)
    (hp : ∀ vs H Q E, sp vs H Q E → t_least_plain K sp_in_order sp_is_in { nx := fun _ H1 => Q .non H1, rt := Q } (start N_least_plain vs) H) : FnOk P w K mg base CX0 (k + 1) T.least_plain.f T.least_plain.fd ["words"] sp := by
  refine T.least_plain.F.ok sc_least_plain hl (fun cdv A outer s H vs Q E hr h => ⟨t_least_plain K sp_in_order sp_is_in, PSs.nox ?_, hp vs H Q E h⟩)
  have hu64 := Room.hu64 hr
  exact pss_cons (ps_set (i := 1) sc_least_plain.nd rfl (Or.inl rfl) (pe_lst (pa_nil)))
      (pss_cons (ps_for PassesOwn.never rfl (pi_list (pe_fn G_in_order (hr.mono (by omega)) (pa_cons (pv 0) (pa_nil)))) (pg_name (i := 2) sc_least_plain.nd rfl (Or.inr rfl)) (pss_one (ps_if (pt_cmpR (op_eqD hu64) (pe_lc (own := [("other", 3)]) (g := gName 3) (tt := tB (tCall sp_is_in [] E0 (tCons (tVar 3) (tCons (tVar 2) (tNil))))) rfl sc_least_plain.nd (pi_list (pv 1)) (blkOk_by (N := N_least_plain) (sc := defScope s_least_plain) (by decide +kernel)) (fun _ _ _ _ _ => pg_name (i := 3) sc_least_plain.nd rfl (Or.inl rfl)) (fun _ _ _ _ _ => pts_one (pt_val (pe_fn G_is_in (hr.mono (by omega)) (pa_cons (pv 3) (pa_cons (pv 2) (pa_nil)))))) (fun _ _ _ _ _ => pv 3)) (pe_lst (pa_nil)) (nomark _)) (pss_one (ps_expr (pe_bm PySem.F.plainAttrs_list PySem.F.slot_list_append PySem.F.type_list_append mt_append (pv 1) (pa_cons (pv 2) (pa_nil))))) (pss_nil))))
      (pss_one (ps_ret (pv 1))))
def a_least_plain (T : Tx K mg) {k : Nat} {sp : Sp} (ok : FnOk P w K mg base CX0 k T.least_plain.f T.least_plain.fd ["words"] sp) : FnA P w K mg base CX0 k "least_plain" ["words"] sp :=
  T.least_plain.a ok fun _ _ _ _ _ _ us hl => match us, hl with | [_], _ => rfl

/-! ### least_words -/
theorem sc_least_words : FnScope N_least_words ["words"] (defScope s_least_words) := ⟨rfl, rfl, rfl, by decide +kernel, rfl, by decide +kernel, by decide +kernel⟩
theorem ok_least_words (T : Tx K mg) {k : Nat}
    {k_least_plain : Nat} {sp_least_plain : Sp} (G_least_plain : FnA P w K mg base CX0 k_least_plain "least_plain" ["words"] sp_least_plain) (h_least_plain : k_least_plain ≤ k)
    {k_need_words : Nat} {sp_need_words : Sp} (G_need_words : FnA P w K mg base (L2.CX P w) k_need_words "need_words" ["words"] sp_need_words) (h_need_words : k_need_words ≤ k) {sp : Sp} (hl : ∀ vs H Q E, sp vs H Q E → vs.length = 1)
    (hp : ∀ vs H Q E, sp vs H Q E → t_least_words K sp_least_plain sp_need_words E { nx := fun _ H1 => Q .non H1, rt := Q } (start N_least_words vs) H) : FnOk P w K mg base (L2.CX P w) (k + 1) T.least_words.f T.least_words.fd ["words"] sp := by
  refine T.least_words.F.ok sc_least_words hl (fun cdv A outer s H vs Q E hr h => ⟨t_least_words K sp_least_plain sp_need_words E, ?_, hp vs H Q E h⟩)
  exact pss_one (ps_ret (pe_fn G_least_plain (hr.mono (by omega)) (pa_cons (pe_fnX G_need_words (hr.mono (by omega)) (passes_call (takes_of rfl rfl rfl rfl) (fun _ _ _ _ h => h)) (pa_cons (pv 0) (pa_nil))) (pa_nil))))
def a_least_words (T : Tx K mg) {k : Nat} {sp : Sp} (ok : FnOk P w K mg base (L2.CX P w) k T.least_words.f T.least_words.fd ["words"] sp) : FnA P w K mg base (L2.CX P w) k "least_words" ["words"] sp :=
  T.least_words.a ok fun _ _ _ _ _ _ us hl => match us, hl with | [_], _ => rfl

/-! ### is_above -/
theorem sc_is_above : FnScope N_is_above ["words", "word"] (defScope s_is_above) := ⟨rfl, rfl, rfl, by decide +kernel, rfl, by decide +kernel, by decide +kernel⟩
theorem ok_is_above (T : Tx K mg) {k : Nat}
    {k_need_words : Nat} {sp_need_words : Sp} (G_need_words : FnA P w K mg base (L2.CX P w) k_need_words "need_words" ["words"] sp_need_words) (h_need_words : k_need_words ≤ k)
    {k_need_plain : Nat} {sp_need_plain : Sp} (G_need_plain : FnA P w K mg base (L2.CX P w) k_need_plain "need_plain" ["word"] sp_need_plain) (h_need_plain : k_need_plain ≤ k)
    {k_is_in : Nat} {sp_is_in : Sp} (G_is_in : FnA P w K mg base CX0 k_is_in "is_in" ["word", "other"] sp_is_in) (h_is_in : k_is_in ≤ k) {sp : Sp} (hl : ∀ vs H Q E, sp vs H Q E → vs.length = 2)
    (hp : ∀ vs H Q E, sp vs H Q E → t_is_above K sp_need_words sp_need_plain sp_is_in E { nx := fun _ H1 => Q .non H1, rt := Q } (start N_is_above vs) H) : FnOk P w K mg base (L2.CX P w) (k + 1) T.is_above.f T.is_above.fd ["words", "word"] sp := by
  refine T.is_above.F.ok sc_is_above hl (fun cdv A outer s H vs Q E hr h => ⟨t_is_above K sp_need_words sp_need_plain sp_is_in E, ?_, hp vs H Q E h⟩)
  have hu64 := Room.hu64 hr
  exact pss_cons (ps_set (i := 2) sc_is_above.nd rfl (Or.inl rfl) (pe_fnX G_need_words (hr.mono (by omega)) (passes_call (takes_of rfl rfl rfl rfl) (fun _ _ _ _ h => h)) (pa_cons (pv 0) (pa_nil))))
      (pss_cons (ps_expr (pe_fnX G_need_plain (hr.mono (by omega)) (passes_call (takes_of rfl rfl rfl rfl) (fun _ _ _ _ h => h)) (pa_cons (pv 1) (pa_nil))))
      (pss_one (ps_ret (pe_cmpR (op_neD hu64) (pe_lc (own := [("one", 3)]) (g := gName 3) (tt := tB (tCall sp_is_in [] E0 (tCons (tVar 3) (tCons (tVar 1) (tNil))))) rfl sc_is_above.nd (pi_list (pv 2)) (blkOk_by (N := N_is_above) (sc := defScope s_is_above) (by decide +kernel)) (fun _ _ _ _ _ => pg_name (i := 3) sc_is_above.nd rfl (Or.inl rfl)) (fun _ _ _ _ _ => pts_one (pt_val (pe_fn G_is_in (hr.mono (by omega)) (pa_cons (pv 3) (pa_cons (pv 1) (pa_nil)))))) (fun _ _ _ _ _ => pv 3)) (pe_lst (pa_nil)) (nomark _)))))
def a_is_above (T : Tx K mg) {k : Nat} {sp : Sp} (ok : FnOk P w K mg base (L2.CX P w) k T.is_above.f T.is_above.fd ["words", "word"] sp) : FnA P w K mg base (L2.CX P w) k "is_above" ["words", "word"] sp :=
  T.is_above.a ok fun _ _ _ _ _ _ us hl => match us, hl with | [_, _], _ => rfl

/-! ### law_start -/
theorem sc_law_start : FnScope N_law_start ["script"] (defScope s_law_start) := ⟨rfl, rfl, rfl, by decide +kernel, rfl, by decide +kernel, by decide +kernel⟩
theorem ok_law_start (T : Tx K mg) {k : Nat} {sp : Sp} (hl : ∀ vs H Q E, sp vs H Q E → vs.length = 1)
    (hp : ∀ vs H Q E, sp vs H Q E → t_law_start K { nx := fun _ H1 => Q .non H1, rt := Q } (start N_law_start vs) H) : FnOk P w K mg base CX0 (k + 1) T.law_start.f T.law_start.fd ["script"] sp := by
  refine T.law_start.F.ok sc_law_start hl (fun cdv A outer s H vs Q E hr h => ⟨t_law_start K, PSs.nox ?_, hp vs H Q E h⟩)
  exact pss_one (ps_ret (pe_lst (pa_cons (pe_callTy call_list_of (by rfl) T.n_list bt_list (pa_cons (pv 0) (pa_nil))) (pa_cons (pe_int) (pa_cons (pe_int) (pa_cons (pe_int) (pa_nil)))))))
def a_law_start (T : Tx K mg) {k : Nat} {sp : Sp} (ok : FnOk P w K mg base CX0 k T.law_start.f T.law_start.fd ["script"] sp) : FnA P w K mg base CX0 k "_law_start" ["script"] sp :=
  T.law_start.a ok fun _ _ _ _ _ _ us hl => match us, hl with | [_], _ => rfl

/-! ### law_below -/
theorem sc_law_below : FnScope N_law_below ["stream", "many"] (defScope s_law_below) := ⟨rfl, rfl, rfl, by decide +kernel, rfl, by decide +kernel, by decide +kernel⟩
theorem ok_law_below (T : Tx K mg) {k : Nat} {sp : Sp} (hl : ∀ vs H Q E, sp vs H Q E → vs.length = 2)
    (hp : ∀ vs H Q E, sp vs H Q E → t_law_below K { nx := fun _ H1 => Q .non H1, rt := Q } (start N_law_below vs) H) : FnOk P w K mg base CX0 (k + 1) T.law_below.f T.law_below.fd ["stream", "many"] sp := by
  refine T.law_below.F.ok sc_law_below hl (fun cdv A outer s H vs Q E hr h => ⟨t_law_below K, PSs.nox ?_, hp vs H Q E h⟩)
  have hu64 := Room.hu64 hr
  exact pss_cons (ps_asg (pe_op op_add (pe_ix ix_list (pv 0) (pe_int) (fun _ _ => rfl)) (pe_int)) (pg_sub (pv 0) (pe_int) set_list))
      (pss_cons (ps_while PassesOwn.never (PW.pt (pw_and (pt_cmpR op_eq (pe_ix ix_list (pv 0) (pe_int) (fun _ _ => rfl)) (pe_int) (nomark _)) (pw_and1 (pt_cmpR (op_neD hu64) (pe_ix ix_list (pv 0) (pe_int) (fun _ _ => rfl)) (pe_lst (pa_nil)) (nomark _))))) (pss_cons (ps_set (i := 2) sc_law_below.nd rfl (Or.inl rfl) (pe_bm PySem.F.plainAttrs_list PySem.F.slot_list_pop PySem.F.type_list_pop mt_popAt (pe_ix ix_list (pv 0) (pe_int) (fun _ _ => rfl)) (pa_cons (pe_int) (pa_nil))))
      (pss_cons (ps_asg (pe_op op_mod (pe_callTy call_int1 (by rfl) T.n_int bt_int (pa_cons (pe_op op_add (pe_op op_add (pe_op op_mul (pe_ix ix_list (pv 0) (pe_int) (fun _ _ => rfl)) (pe_int)) (pv 2)) (pe_int)) (pa_nil))) (pe_int)) (pg_sub (pv 0) (pe_int) set_list))
      (pss_one (ps_asg (pe_ifExp (pt_cmpR op_ge (pv 2) (pe_op op_pow (pe_int) (pe_int)) (nomark _)) (pv 2) (pe_int)) (pg_sub (pv 0) (pe_int) set_list))))))
      (pss_cons (ps_if (pt_cmpR op_gt (pe_ix ix_list (pv 0) (pe_int) (fun _ _ => rfl)) (pe_int) (nomark _)) (pss_cons (ps_set (i := 3) sc_law_below.nd rfl (Or.inl rfl) (pe_op op_mod (pe_callTy call_int1 (by rfl) T.n_int bt_int (pa_cons (pe_ix ix_list (pv 0) (pe_int) (fun _ _ => rfl)) (pa_nil))) (pv 1)))
      (pss_cons (ps_asg (pe_op op_fdiv (pe_ix ix_list (pv 0) (pe_int) (fun _ _ => rfl)) (pv 1)) (pg_sub (pv 0) (pe_int) set_list))
      (pss_one (ps_ret (pv 3))))) (pss_nil))
      (pss_cons (ps_set (i := 4) sc_law_below.nd rfl (Or.inl rfl) (pe_op op_mod (pe_callTy call_int1 (by rfl) T.n_int bt_int (pa_cons (pe_op op_pow (pe_op op_add (pe_op op_add (pe_ix ix_list (pv 0) (pe_int) (fun _ _ => rfl)) (pe_op op_mul (pe_int) (pe_ix ix_list (pv 0) (pe_int) (fun _ _ => rfl)))) (pe_int)) (pe_int)) (pa_nil))) (pe_int)))
      (pss_one (ps_ret (pe_op op_mod (pe_op op_mod (pe_callTy call_int1 (by rfl) T.n_int bt_int (pa_cons (pe_op op_pow (pe_op op_add (pe_op op_add (pe_op op_mul (pv 4) (pe_int)) (pe_op op_mul (pe_int) (pe_ix ix_list (pv 0) (pe_int) (fun _ _ => rfl)))) (pe_int)) (pe_int)) (pa_nil))) (pe_int)) (pv 1)))))))
def a_law_below (T : Tx K mg) {k : Nat} {sp : Sp} (ok : FnOk P w K mg base CX0 k T.law_below.f T.law_below.fd ["stream", "many"] sp) : FnA P w K mg base CX0 k "_law_below" ["stream", "many"] sp :=
  T.law_below.a ok fun _ _ _ _ _ _ us hl => match us, hl with | [_, _], _ => rfl

/-! ### law_chance -/
theorem sc_law_chance : FnScope N_law_chance ["stream", "many"] (defScope s_law_chance) := ⟨rfl, rfl, rfl, by decide +kernel, rfl, by decide +kernel, by decide +kernel⟩
theorem ok_law_chance (T : Tx K mg) {k : Nat}
    {k_law_below : Nat} {sp_law_below : Sp} (G_law_below : FnA P w K mg base CX0 k_law_below "_law_below" ["stream", "many"] sp_law_below) (h_law_below : k_law_below ≤ k) {sp : Sp} (hl : ∀ vs H Q E, sp vs H Q E → vs.length = 2)
    (hp : ∀ vs H Q E, sp vs H Q E → t_law_chance K sp_law_below { nx := fun _ H1 => Q .non H1, rt := Q } (start N_law_chance vs) H) : FnOk P w K mg base CX0 (k + 1) T.law_chance.f T.law_chance.fd ["stream", "many"] sp := by
  refine T.law_chance.F.ok sc_law_chance hl (fun cdv A outer s H vs Q E hr h => ⟨t_law_chance K sp_law_below, PSs.nox ?_, hp vs H Q E h⟩)
  exact pss_one (ps_ret (pe_cmpR op_eq (pe_fn G_law_below (hr.mono (by omega)) (pa_cons (pv 0) (pa_cons (pv 1) (pa_nil)))) (pe_int) (nomark _)))
def a_law_chance (T : Tx K mg) {k : Nat} {sp : Sp} (ok : FnOk P w K mg base CX0 k T.law_chance.f T.law_chance.fd ["stream", "many"] sp) : FnA P w K mg base CX0 k "_law_chance" ["stream", "many"] sp :=
  T.law_chance.a ok fun _ _ _ _ _ _ us hl => match us, hl with | [_, _], _ => rfl

/-! ### law_pick -/
theorem sc_law_pick : FnScope N_law_pick ["stream", "some"] (defScope s_law_pick) := ⟨rfl, rfl, rfl, by decide +kernel, rfl, by decide +kernel, by decide +kernel⟩
theorem ok_law_pick (T : Tx K mg) {k : Nat}
    {k_law_below : Nat} {sp_law_below : Sp} (G_law_below : FnA P w K mg base CX0 k_law_below "_law_below" ["stream", "many"] sp_law_below) (h_law_below : k_law_below ≤ k) {sp : Sp} (hl : ∀ vs H Q E, sp vs H Q E → vs.length = 2)
    (hp : ∀ vs H Q E, sp vs H Q E → t_law_pick K sp_law_below { nx := fun _ H1 => Q .non H1, rt := Q } (start N_law_pick vs) H) : FnOk P w K mg base CX0 (k + 1) T.law_pick.f T.law_pick.fd ["stream", "some"] sp := by
  refine T.law_pick.F.ok sc_law_pick hl (fun cdv A outer s H vs Q E hr h => ⟨t_law_pick K sp_law_below, PSs.nox ?_, hp vs H Q E h⟩)
  exact pss_one (ps_ret (pe_ix ix_list (pv 1) (pe_fn G_law_below (hr.mono (by omega)) (pa_cons (pv 0) (pa_cons (pe_callB call_len (by rfl) T.n_len bt_len (pa_cons (pv 1) (pa_nil))) (pa_nil)))) (fun _ _ => rfl)))
def a_law_pick (T : Tx K mg) {k : Nat} {sp : Sp} (ok : FnOk P w K mg base CX0 k T.law_pick.f T.law_pick.fd ["stream", "some"] sp) : FnA P w K mg base CX0 k "_law_pick" ["stream", "some"] sp :=
  T.law_pick.a ok fun _ _ _ _ _ _ us hl => match us, hl with | [_, _], _ => rfl

/-! ### law_mixed -/
theorem sc_law_mixed : FnScope N_law_mixed ["stream", "some"] (defScope s_law_mixed) := ⟨rfl, rfl, rfl, by decide +kernel, rfl, by decide +kernel, by decide +kernel⟩
theorem ok_law_mixed (T : Tx K mg) {k : Nat}
    {k_law_below : Nat} {sp_law_below : Sp} (G_law_below : FnA P w K mg base CX0 k_law_below "_law_below" ["stream", "many"] sp_law_below) (h_law_below : k_law_below ≤ k) {sp : Sp} (hl : ∀ vs H Q E, sp vs H Q E → vs.length = 2)
    (hp : ∀ vs H Q E, sp vs H Q E → t_law_mixed K sp_law_below { nx := fun _ H1 => Q .non H1, rt := Q } (start N_law_mixed vs) H) : FnOk P w K mg base CX0 (k + 1) T.law_mixed.f T.law_mixed.fd ["stream", "some"] sp := by
  refine T.law_mixed.F.ok sc_law_mixed hl (fun cdv A outer s H vs Q E hr h => ⟨t_law_mixed K sp_law_below, PSs.nox ?_, hp vs H Q E h⟩)
  exact pss_cons (ps_set (i := 2) sc_law_mixed.nd rfl (Or.inr rfl) (pe_callTy call_list_of (by rfl) T.n_list bt_list (pa_cons (pv 1) (pa_nil))))
      (pss_one (ps_ret (pe_lc (own := [("k", 3)]) (g := gName 3) (tt := (fun _ H Q => Q true H)) rfl sc_law_mixed.nd (pi_range1 rfl T.n_range (pa_cons (pe_callB call_len (by rfl) T.n_len bt_len (pa_cons (pv 2) (pa_nil))) (pa_nil))) (blkOk_by (N := N_law_mixed) (sc := defScope s_law_mixed) (by decide +kernel)) (fun _ _ _ _ _ => pg_name (i := 3) sc_law_mixed.nd rfl (Or.inl rfl)) (fun _ _ _ _ _ => pts_nil) (fun _ _ _ _ _ => pe_bm PySem.F.plainAttrs_list PySem.F.slot_list_pop PySem.F.type_list_pop mt_popAt (pv 2) (pa_cons (pe_fn G_law_below (hr.mono (by omega)) (pa_cons (pv 0) (pa_cons (pe_callB call_len (by rfl) T.n_len bt_len (pa_cons (pv 2) (pa_nil))) (pa_nil)))) (pa_nil))))))
def a_law_mixed (T : Tx K mg) {k : Nat} {sp : Sp} (ok : FnOk P w K mg base CX0 k T.law_mixed.f T.law_mixed.fd ["stream", "some"] sp) : FnA P w K mg base CX0 k "_law_mixed" ["stream", "some"] sp :=
  T.law_mixed.a ok fun _ _ _ _ _ _ us hl => match us, hl with | [_, _], _ => rfl

/-! ### law_copied -/
theorem sc_law_copied : FnScope N_law_copied ["thing"] (defScope s_law_copied) := ⟨rfl, rfl, rfl, by decide +kernel, rfl, by decide +kernel, by decide +kernel⟩
theorem ok_law_copied (T : Tx K mg) {k : Nat}
    {k_law_copied : Nat} {sp_law_copied : Sp} (G_law_copied : FnA P w K mg base CX0 k_law_copied "_law_copied" ["thing"] sp_law_copied) (h_law_copied : k_law_copied ≤ k) {sp : Sp} (hl : ∀ vs H Q E, sp vs H Q E → vs.length = 1)
    (hp : ∀ vs H Q E, sp vs H Q E → t_law_copied K sp_law_copied { nx := fun _ H1 => Q .non H1, rt := Q } (start N_law_copied vs) H) : FnOk P w K mg base CX0 (k + 1) T.law_copied.f T.law_copied.fd ["thing"] sp := by
  refine T.law_copied.F.ok sc_law_copied hl (fun cdv A outer s H vs Q E hr h => ⟨t_law_copied K sp_law_copied, PSs.nox ?_, hp vs H Q E h⟩)
  exact pss_cons (ps_if (pt_val (pe_callB call_isi (by rfl) T.n_isinstance bt_isinstance (pa_cons (pv 0) (pa_cons (pe_bltn rfl T.n_dict bt_dict rfl) (pa_nil))))) (pss_never) (pss_nil))
      (pss_cons (ps_if (pt_not (pt_val (pe_callB call_isiT (by rfl) T.n_isinstance bt_isinstance (pa_cons (pv 0) (pa_cons (pe_tup (pa_cons (pe_bltn rfl T.n_list bt_list rfl) (pa_cons (pe_bltn rfl T.n_tuple bt_tuple rfl) (pa_nil)))) (pa_nil)))))) (pss_one (ps_ret (pv 0))) (pss_nil))
      (pss_cons (ps_setLc (i := 1) (own := [("part", 3)]) (g := gName 3) (tt := (fun _ H Q => Q true H)) rfl sc_law_copied.nd rfl rfl (sw_true rfl rfl rfl (by decide +kernel)) (PI.or (pi_list (pv 0)) (pi_tup (pv 0))) (blkOk_by (N := N_law_copied) (sc := defScope s_law_copied) (by decide +kernel)) (fun _ _ _ _ _ => pg_name (i := 3) sc_law_copied.nd rfl (Or.inl rfl)) (fun _ _ _ _ _ => pts_nil) (fun _ _ _ _ _ => pe_fn G_law_copied (hr.mono (by omega)) (pa_cons (pv 3) (pa_nil))))
      (pss_one (ps_ret (pe_ifExp (pt_val (pe_callB call_isi (by rfl) T.n_isinstance bt_isinstance (pa_cons (pv 0) (pa_cons (pe_bltn rfl T.n_list bt_list rfl) (pa_nil))))) (pv 1) (pe_callTy call_tuple_of (by rfl) T.n_tuple bt_tuple (pa_cons (pv 1) (pa_nil))))))))
def a_law_copied (T : Tx K mg) {k : Nat} {sp : Sp} (ok : FnOk P w K mg base CX0 k T.law_copied.f T.law_copied.fd ["thing"] sp) : FnA P w K mg base CX0 k "_law_copied" ["thing"] sp :=
  T.law_copied.a ok fun _ _ _ _ _ _ us hl => match us, hl with | [_], _ => rfl

/-! ### law_same -/
theorem sc_law_same : FnScope N_law_same ["found", "due"] (defScope s_law_same) := ⟨rfl, rfl, rfl, by decide +kernel, rfl, by decide +kernel, by decide +kernel⟩
theorem ok_law_same (T : Tx K mg) {k : Nat}
    {k_law_same : Nat} {sp_law_same : Sp} (G_law_same : FnA P w K mg base CX0 k_law_same "_law_same" ["found", "due"] sp_law_same) (h_law_same : k_law_same ≤ k) {sp : Sp} (hl : ∀ vs H Q E, sp vs H Q E → vs.length = 2)
    (hp : ∀ vs H Q E, sp vs H Q E → t_law_same K sp_law_same { nx := fun _ H1 => Q .non H1, rt := Q } (start N_law_same vs) H) : FnOk P w K mg base CX0 (k + 1) T.law_same.f T.law_same.fd ["found", "due"] sp := by
  refine T.law_same.F.ok sc_law_same hl (fun cdv A outer s H vs Q E hr h => ⟨t_law_same K sp_law_same, PSs.nox ?_, hp vs H Q E h⟩)
  exact pss_cons (ps_if (pt_val (pe_callB call_isiT (by rfl) T.n_isinstance bt_isinstance (pa_cons (pv 1) (pa_cons (pe_tup (pa_cons (pe_bltn rfl T.n_list bt_list rfl) (pa_cons (pe_bltn rfl T.n_tuple bt_tuple rfl) (pa_nil)))) (pa_nil))))) (pss_cons (ps_if (PW.pt (pw_or (pt_cmpR op_ne (pe_callB call_isi (by rfl) T.n_isinstance bt_isinstance (pa_cons (pv 0) (pa_cons (pe_bltn rfl T.n_list bt_list rfl) (pa_nil)))) (pe_callB call_isi (by rfl) T.n_isinstance bt_isinstance (pa_cons (pv 1) (pa_cons (pe_bltn rfl T.n_list bt_list rfl) (pa_nil)))) (nomark _)) (pw_or1 (pt_cmpR op_ne (pe_callB call_isi (by rfl) T.n_isinstance bt_isinstance (pa_cons (pv 0) (pa_cons (pe_bltn rfl T.n_tuple bt_tuple rfl) (pa_nil)))) (pe_callB call_isi (by rfl) T.n_isinstance bt_isinstance (pa_cons (pv 1) (pa_cons (pe_bltn rfl T.n_tuple bt_tuple rfl) (pa_nil)))) (nomark _))))) (pss_one (ps_ret (pe_bl))) (pss_nil))
      (pss_one (ps_ret (pe_and (pe_cmpR op_eq (pe_callB call_len (by rfl) T.n_len bt_len (pa_cons (pv 0) (pa_nil))) (pe_callB call_len (by rfl) T.n_len bt_len (pa_cons (pv 1) (pa_nil))) (nomark _)) (pe_one (pe_callB (cr_all rfl) (by rfl) T.n_all bt_all (pa_cons (pe_lc (own := [("x", 2), ("y", 3)]) (g := gTup K 2 (gCons (gName 2) (gCons (gName 3) (gNil)))) (tt := (fun _ H Q => Q true H)) rfl sc_law_same.nd (RZ.pi_zipA (by rfl) T.n_zip (pa_cons (pv 0) (pa_cons (pv 1) (pa_nil)))) (blkOk_by (N := N_law_same) (sc := defScope s_law_same) (by decide +kernel)) (fun _ _ _ _ _ => pg_tup rfl (pgs_cons (pg_name (i := 2) sc_law_same.nd rfl (Or.inl rfl)) (pgs_cons (pg_name (i := 3) sc_law_same.nd rfl (Or.inl rfl)) (pgs_nil)))) (fun _ _ _ _ _ => pts_nil) (fun _ _ _ _ _ => pe_fn G_law_same (hr.mono (by omega)) (pa_cons (pv 2) (pa_cons (pv 3) (pa_nil))))) (pa_nil)))))))) (pss_nil))
      (pss_cons (ps_if (pt_val (pe_callB call_isi (by rfl) T.n_isinstance bt_isinstance (pa_cons (pv 1) (pa_cons (pe_bltn rfl T.n_dict bt_dict rfl) (pa_nil))))) (pss_never) (pss_nil))
      (pss_cons (ps_if (pt_val (pe_callB call_isi (by rfl) T.n_isinstance bt_isinstance (pa_cons (pv 1) (pa_cons (pe_bltn rfl T.n_int bt_int rfl) (pa_nil))))) (pss_one (ps_ret (pe_and (pe_callB call_isi (by rfl) T.n_isinstance bt_isinstance (pa_cons (pv 0) (pa_cons (pe_bltn rfl T.n_int bt_int rfl) (pa_nil)))) (pe_and (pe_cmpR op_eq (pe_callB call_isi (by rfl) T.n_isinstance bt_isinstance (pa_cons (pv 0) (pa_cons (pe_bltn rfl T.n_bool bt_bool rfl) (pa_nil)))) (pe_callB call_isi (by rfl) T.n_isinstance bt_isinstance (pa_cons (pv 1) (pa_cons (pe_bltn rfl T.n_bool bt_bool rfl) (pa_nil)))) (nomark _)) (pe_one (pe_cmpR op_eq (pv 0) (pv 1) (nomark _))))))) (pss_nil))
      (pss_cons (ps_if (pt_cmpR op_isN1 (pv 1) (pe_non) (nomark _)) (pss_one (ps_ret (pe_cmpR op_isN1 (pv 0) (pe_non) (nomark _)))) (pss_nil))
      (pss_cons (ps_if (pt_val (pe_callB call_isi (by rfl) T.n_isinstance bt_isinstance (pa_cons (pv 1) (pa_cons (pe_bltn rfl T.n_str bt_str rfl) (pa_nil))))) (pss_one (ps_ret (pe_and (pe_callB call_isi (by rfl) T.n_isinstance bt_isinstance (pa_cons (pv 0) (pa_cons (pe_bltn rfl T.n_str bt_str rfl) (pa_nil)))) (pe_one (pe_cmpR op_eq (pv 0) (pv 1) (nomark _)))))) (pss_nil))
      (pss_one (ps_never))))))
def a_law_same (T : Tx K mg) {k : Nat} {sp : Sp} (ok : FnOk P w K mg base CX0 k T.law_same.f T.law_same.fd ["found", "due"] sp) : FnA P w K mg base CX0 k "_law_same" ["found", "due"] sp :=
  T.law_same.a ok fun _ _ _ _ _ _ us hl => match us, hl with | [_, _], _ => rfl

/-! ### law_loose -/
theorem sc_law_loose : FnScope N_law_loose ["stream", "thing"] (defScope s_law_loose) := ⟨rfl, rfl, rfl, by decide +kernel, rfl, by decide +kernel, by decide +kernel⟩
theorem ok_law_loose (T : Tx K mg) {k : Nat}
    {k_law_loose : Nat} {sp_law_loose : Sp} (G_law_loose : FnA P w K mg base CX0 k_law_loose "_law_loose" ["stream", "thing"] sp_law_loose) (h_law_loose : k_law_loose ≤ k)
    {k_law_mixed : Nat} {sp_law_mixed : Sp} (G_law_mixed : FnA P w K mg base CX0 k_law_mixed "_law_mixed" ["stream", "some"] sp_law_mixed) (h_law_mixed : k_law_mixed ≤ k)
    {k_law_below : Nat} {sp_law_below : Sp} (G_law_below : FnA P w K mg base CX0 k_law_below "_law_below" ["stream", "many"] sp_law_below) (h_law_below : k_law_below ≤ k) {sp : Sp} (hl : ∀ vs H Q E, sp vs H Q E → vs.length = 2)
    (hp : ∀ vs H Q E, sp vs H Q E → t_law_loose K sp_law_loose sp_law_mixed sp_law_below { nx := fun _ H1 => Q .non H1, rt := Q } (start N_law_loose vs) H) : FnOk P w K mg base CX0 (k + 1) T.law_loose.f T.law_loose.fd ["stream", "thing"] sp := by
  refine T.law_loose.F.ok sc_law_loose hl (fun cdv A outer s H vs Q E hr h => ⟨t_law_loose K sp_law_loose sp_law_mixed sp_law_below, PSs.nox ?_, hp vs H Q E h⟩)
  exact pss_cons (ps_if (pt_val (pe_callB call_isi (by rfl) T.n_isinstance bt_isinstance (pa_cons (pv 1) (pa_cons (pe_bltn rfl T.n_dict bt_dict rfl) (pa_nil))))) (pss_never) (pss_nil))
      (pss_cons (ps_if (pt_not (pt_val (pe_callB call_isiT (by rfl) T.n_isinstance bt_isinstance (pa_cons (pv 1) (pa_cons (pe_tup (pa_cons (pe_bltn rfl T.n_list bt_list rfl) (pa_cons (pe_bltn rfl T.n_tuple bt_tuple rfl) (pa_nil)))) (pa_nil)))))) (pss_one (ps_ret (pv 1))) (pss_nil))
      (pss_cons (ps_setLc (i := 2) (own := [("part", 4)]) (g := gName 4) (tt := (fun _ H Q => Q true H)) rfl sc_law_loose.nd rfl rfl (sw_true rfl rfl rfl (by decide +kernel)) (PI.or (pi_list (pv 1)) (pi_tup (pv 1))) (blkOk_by (N := N_law_loose) (sc := defScope s_law_loose) (by decide +kernel)) (fun _ _ _ _ _ => pg_name (i := 4) sc_law_loose.nd rfl (Or.inl rfl)) (fun _ _ _ _ _ => pts_nil) (fun _ _ _ _ _ => pe_fn G_law_loose (hr.mono (by omega)) (pa_cons (pv 0) (pa_cons (pv 4) (pa_nil)))))
      (pss_one (ps_ret (pe_ifExp (pt_cmpR op_eq (pe_fn G_law_below (hr.mono (by omega)) (pa_cons (pv 0) (pa_cons (pe_int) (pa_nil)))) (pe_int) (nomark _)) (pv 2) (pe_callTy call_tuple_of (by rfl) T.n_tuple bt_tuple (pa_cons (pv 2) (pa_nil))))))))
def a_law_loose (T : Tx K mg) {k : Nat} {sp : Sp} (ok : FnOk P w K mg base CX0 k T.law_loose.f T.law_loose.fd ["stream", "thing"] sp) : FnA P w K mg base CX0 k "_law_loose" ["stream", "thing"] sp :=
  T.law_loose.a ok fun _ _ _ _ _ _ us hl => match us, hl with | [_, _], _ => rfl

/-! ### law_spoilt -/
theorem sc_law_spoilt : FnScope N_law_spoilt ["thing"] (defScope s_law_spoilt) := ⟨rfl, rfl, rfl, by decide +kernel, rfl, by decide +kernel, by decide +kernel⟩
theorem ok_law_spoilt (T : Tx K mg) {k : Nat}
    {k_law_spoilt : Nat} {sp_law_spoilt : Sp} (G_law_spoilt : FnA P w K mg base CX0 k_law_spoilt "_law_spoilt" ["thing"] sp_law_spoilt) (h_law_spoilt : k_law_spoilt ≤ k) {sp : Sp} (hl : ∀ vs H Q E, sp vs H Q E → vs.length = 1)
    (hp : ∀ vs H Q E, sp vs H Q E → t_law_spoilt K sp_law_spoilt { nx := fun _ H1 => Q .non H1, rt := Q } (start N_law_spoilt vs) H) : FnOk P w K mg base CX0 (k + 1) T.law_spoilt.f T.law_spoilt.fd ["thing"] sp := by
  refine T.law_spoilt.F.ok sc_law_spoilt hl (fun cdv A outer s H vs Q E hr h => ⟨t_law_spoilt K sp_law_spoilt, PSs.nox ?_, hp vs H Q E h⟩)
  exact pss_cons (ps_if (pt_val (pe_callB call_isi (by rfl) T.n_isinstance bt_isinstance (pa_cons (pv 0) (pa_cons (pe_bltn rfl T.n_dict bt_dict rfl) (pa_nil))))) (pss_never) (pss_nil))
      (pss_cons (ps_if (pt_val (pe_callB call_isiT (by rfl) T.n_isinstance bt_isinstance (pa_cons (pv 0) (pa_cons (pe_tup (pa_cons (pe_bltn rfl T.n_list bt_list rfl) (pa_cons (pe_bltn rfl T.n_tuple bt_tuple rfl) (pa_nil)))) (pa_nil))))) (pss_one (ps_for PassesOwn.never rfl (PI.or (pi_list (pv 0)) (pi_tup (pv 0))) (pg_name (i := 2) sc_law_spoilt.nd rfl (Or.inl rfl)) (pss_one (ps_expr (pe_fn G_law_spoilt (hr.mono (by omega)) (pa_cons (pv 2) (pa_nil))))))) (pss_nil))
      (pss_one (ps_if (pt_val (pe_callB call_isi (by rfl) T.n_isinstance bt_isinstance (pa_cons (pv 0) (pa_cons (pe_bltn rfl T.n_list bt_list rfl) (pa_nil))))) (pss_one (ps_expr (pe_bm PySem.F.plainAttrs_list PySem.F.slot_list_append PySem.F.type_list_append mt_append (pv 0) (pa_cons (pe_str) (pa_nil))))) (pss_nil))))
def a_law_spoilt (T : Tx K mg) {k : Nat} {sp : Sp} (ok : FnOk P w K mg base CX0 k T.law_spoilt.f T.law_spoilt.fd ["thing"] sp) : FnA P w K mg base CX0 k "_law_spoilt" ["thing"] sp :=
  T.law_spoilt.a ok fun _ _ _ _ _ _ us hl => match us, hl with | [_], _ => rfl

/-! ### law_is_once -/
theorem sc_law_is_once : FnScope N_law_is_once ["thing"] (defScope s_law_is_once) := ⟨rfl, rfl, rfl, by decide +kernel, rfl, by decide +kernel, by decide +kernel⟩
theorem ok_law_is_once (T : Tx K mg) {k : Nat}
    {k_law_is_once : Nat} {sp_law_is_once : Sp} (G_law_is_once : FnA P w K mg base CX0 k_law_is_once "_law_is_once" ["thing"] sp_law_is_once) (h_law_is_once : k_law_is_once ≤ k) {sp : Sp} (hl : ∀ vs H Q E, sp vs H Q E → vs.length = 1)
    (hp : ∀ vs H Q E, sp vs H Q E → t_law_is_once K sp_law_is_once { nx := fun _ H1 => Q .non H1, rt := Q } (start N_law_is_once vs) H) : FnOk P w K mg base CX0 (k + 1) T.law_is_once.f T.law_is_once.fd ["thing"] sp := by
  refine T.law_is_once.F.ok sc_law_is_once hl (fun cdv A outer s H vs Q E hr h => ⟨t_law_is_once K sp_law_is_once, PSs.nox ?_, hp vs H Q E h⟩)
  have hu65 := Room.hu65 hr
  exact pss_cons (ps_if (pt_val (pe_callB call_isi (by rfl) T.n_isinstance bt_isinstance (pa_cons (pv 0) (pa_cons (pe_bltn rfl T.n_dict bt_dict rfl) (pa_nil))))) (pss_never) (pss_nil))
      (pss_cons (ps_if (pt_val (pe_callB call_isiT (by rfl) T.n_isinstance bt_isinstance (pa_cons (pv 0) (pa_cons (pe_tup (pa_cons (pe_bltn rfl T.n_list bt_list rfl) (pa_cons (pe_bltn rfl T.n_tuple bt_tuple rfl) (pa_nil)))) (pa_nil))))) (pss_cons (ps_set (i := 1) sc_law_is_once.nd rfl (Or.inl rfl) (pe_callTy call_int1 (by rfl) T.n_int bt_int (pa_cons (pe_callB call_isi (by rfl) T.n_isinstance bt_isinstance (pa_cons (pv 0) (pa_cons (pe_bltn rfl T.n_list bt_list rfl) (pa_nil)))) (pa_nil))))
      (pss_one (ps_ret (pe_and (pe_cmpR op_eq (pe_bm PySem.F.plainAttrs_list PySem.F.slot_list_count PySem.F.type_list_count (mt_countD hu65) (pe_callTy call_list_of (by rfl) T.n_list bt_list (pa_cons (pv 0) (pa_nil))) (pa_cons (pe_str) (pa_nil))) (pv 1) (nomark _)) (pe_one (pe_callB (cr_all rfl) (by rfl) T.n_all bt_all (pa_cons (pe_lc (own := [("part", 3)]) (g := gName 3) (tt := (fun _ H Q => Q true H)) rfl sc_law_is_once.nd (PI.or (pi_list (pv 0)) (pi_tup (pv 0))) (blkOk_by (N := N_law_is_once) (sc := defScope s_law_is_once) (by decide +kernel)) (fun _ _ _ _ _ => pg_name (i := 3) sc_law_is_once.nd rfl (Or.inl rfl)) (fun _ _ _ _ _ => pts_nil) (fun _ _ _ _ _ => pe_fn G_law_is_once (hr.mono (by omega)) (pa_cons (pv 3) (pa_nil)))) (pa_nil)))))))) (pss_nil))
      (pss_one (ps_ret (pe_bl))))
def a_law_is_once (T : Tx K mg) {k : Nat} {sp : Sp} (ok : FnOk P w K mg base CX0 k T.law_is_once.f T.law_is_once.fd ["thing"] sp) : FnA P w K mg base CX0 k "_law_is_once" ["thing"] sp :=
  T.law_is_once.a ok fun _ _ _ _ _ _ us hl => match us, hl with | [_], _ => rfl

/-! ### law_apart -/
theorem sc_law_apart : FnScope N_law_apart ["thing"] (defScope s_law_apart) := ⟨rfl, rfl, rfl, by decide +kernel, rfl, by decide +kernel, by decide +kernel⟩
theorem ok_law_apart (T : Tx K mg) {k : Nat}
    {k_law_spoilt : Nat} {sp_law_spoilt : Sp} (G_law_spoilt : FnA P w K mg base CX0 k_law_spoilt "_law_spoilt" ["thing"] sp_law_spoilt) (h_law_spoilt : k_law_spoilt ≤ k)
    {k_law_is_once : Nat} {sp_law_is_once : Sp} (G_law_is_once : FnA P w K mg base CX0 k_law_is_once "_law_is_once" ["thing"] sp_law_is_once) (h_law_is_once : k_law_is_once ≤ k) {sp : Sp} (hl : ∀ vs H Q E, sp vs H Q E → vs.length = 1)
    (hp : ∀ vs H Q E, sp vs H Q E → t_law_apart K sp_law_spoilt sp_law_is_once { nx := fun _ H1 => Q .non H1, rt := Q } (start N_law_apart vs) H) : FnOk P w K mg base CX0 (k + 1) T.law_apart.f T.law_apart.fd ["thing"] sp := by
  refine T.law_apart.F.ok sc_law_apart hl (fun cdv A outer s H vs Q E hr h => ⟨t_law_apart K sp_law_spoilt sp_law_is_once, PSs.nox ?_, hp vs H Q E h⟩)
  exact pss_cons (ps_expr (pe_fn G_law_spoilt (hr.mono (by omega)) (pa_cons (pv 0) (pa_nil))))
      (pss_one (ps_ret (pe_fn G_law_is_once (hr.mono (by omega)) (pa_cons (pv 0) (pa_nil)))))
def a_law_apart (T : Tx K mg) {k : Nat} {sp : Sp} (ok : FnOk P w K mg base CX0 k T.law_apart.f T.law_apart.fd ["thing"] sp) : FnA P w K mg base CX0 k "_law_apart" ["thing"] sp :=
  T.law_apart.a ok fun _ _ _ _ _ _ us hl => match us, hl with | [_], _ => rfl

/-! ### law_bletters -/
theorem sc_law_bletters : FnScope N_law_bletters ["stream", "many"] (defScope s_law_bletters) := ⟨rfl, rfl, rfl, by decide +kernel, rfl, by decide +kernel, by decide +kernel⟩
theorem ok_law_bletters (T : Tx K mg) {k : Nat}
    {k_law_mixed : Nat} {sp_law_mixed : Sp} (G_law_mixed : FnA P w K mg base CX0 k_law_mixed "_law_mixed" ["stream", "some"] sp_law_mixed) (h_law_mixed : k_law_mixed ≤ k) {sp : Sp} (hl : ∀ vs H Q E, sp vs H Q E → vs.length = 2)
    (hp : ∀ vs H Q E, sp vs H Q E → t_law_bletters K sp_law_mixed { nx := fun _ H1 => Q .non H1, rt := Q } (start N_law_bletters vs) H) : FnOk P w K mg base CX0 (k + 1) T.law_bletters.f T.law_bletters.fd ["stream", "many"] sp := by
  refine T.law_bletters.F.ok sc_law_bletters hl (fun cdv A outer s H vs Q E hr h => ⟨t_law_bletters K sp_law_mixed, PSs.nox ?_, hp vs H Q E h⟩)
  exact pss_one (ps_ret (pe_callB cr_sortedS (by rfl) T.n_sorted bt_sorted (pa_cons (pe_slice sl_list (pe_fn G_law_mixed (hr.mono (by omega)) (pa_cons (pv 0) (pa_cons (pe_callTy (call_listStr rfl) (by rfl) T.n_list bt_list (pa_cons (pe_str) (pa_nil))) (pa_nil)))) (po_none) (po_some (pv 1))) (pa_nil))))
def a_law_bletters (T : Tx K mg) {k : Nat} {sp : Sp} (ok : FnOk P w K mg base CX0 k T.law_bletters.f T.law_bletters.fd ["stream", "many"] sp) : FnA P w K mg base CX0 k "_law_bletters" ["stream", "many"] sp :=
  T.law_bletters.a ok fun _ _ _ _ _ _ us hl => match us, hl with | [_, _], _ => rfl

/-! ### law_blies -/
theorem sc_law_blies : FnScope N_law_blies ["word", "other"] (defScope s_law_blies) := ⟨rfl, rfl, rfl, by decide +kernel, rfl, by decide +kernel, by decide +kernel⟩
theorem ok_law_blies (T : Tx K mg) {k : Nat} {sp : Sp} (hl : ∀ vs H Q E, sp vs H Q E → vs.length = 2)
    (hp : ∀ vs H Q E, sp vs H Q E → t_law_blies K { nx := fun _ H1 => Q .non H1, rt := Q } (start N_law_blies vs) H) : FnOk P w K mg base CX0 (k + 1) T.law_blies.f T.law_blies.fd ["word", "other"] sp := by
  refine T.law_blies.F.ok sc_law_blies hl (fun cdv A outer s H vs Q E hr h => ⟨t_law_blies K, PSs.nox ?_, hp vs H Q E h⟩)
  exact pss_cons (ps_set (i := 2) sc_law_blies.nd rfl (Or.inl rfl) (pe_int))
      (pss_cons (ps_for PassesOwn.never rfl (pi_str (pv 1)) (pg_name (i := 3) sc_law_blies.nd rfl (Or.inl rfl)) (pss_one (ps_set (i := 2) sc_law_blies.nd rfl (Or.inl rfl) (pe_op op_add (pv 2) (pe_ifExp (PW.pt (pw_and (pt_cmpR op_lt (pv 2) (pe_callB call_len (by rfl) T.n_len bt_len (pa_cons (pv 0) (pa_nil))) (nomark _)) (pw_and1 (pt_cmpR op_eq (pe_ix ix_str (pv 0) (pv 2) (fun _ _ => rfl)) (pv 3) (nomark _))))) (pe_int) (pe_int))))))
      (pss_one (ps_ret (pe_cmpR op_eq (pv 2) (pe_callB call_len (by rfl) T.n_len bt_len (pa_cons (pv 0) (pa_nil))) (nomark _)))))
def a_law_blies (T : Tx K mg) {k : Nat} {sp : Sp} (ok : FnOk P w K mg base CX0 k T.law_blies.f T.law_blies.fd ["word", "other"] sp) : FnA P w K mg base CX0 k "_law_blies" ["word", "other"] sp :=
  T.law_blies.a ok fun _ _ _ _ _ _ us hl => match us, hl with | [_, _], _ => rfl

/-! ### law_border -/
theorem sc_law_border : FnScope N_law_border ["words"] (defScope s_law_border) := ⟨rfl, rfl, rfl, by decide +kernel, rfl, by decide +kernel, by decide +kernel⟩
theorem ok_law_border (T : Tx K mg) {k : Nat} {sp : Sp} (hl : ∀ vs H Q E, sp vs H Q E → vs.length = 1)
    (hp : ∀ vs H Q E, sp vs H Q E → t_law_border K { nx := fun _ H1 => Q .non H1, rt := Q } (start N_law_border vs) H) : FnOk P w K mg base CX0 (k + 1) T.law_border.f T.law_border.fd ["words"] sp := by
  refine T.law_border.F.ok sc_law_border hl (fun cdv A outer s H vs Q E hr h => ⟨t_law_border K, PSs.nox ?_, hp vs H Q E h⟩)
  have hu64 := Room.hu64 hr
  exact pss_one (ps_ret (pe_lc (own := [("length", 1), ("word", 2)]) (g := gTup K 2 (gCons (gName 1) (gCons (gName 2) (gNil)))) (tt := (fun _ H Q => Q true H)) rfl sc_law_border.nd (pi_list (pe_callB (cr_sortedP hu64) (by rfl) T.n_sorted bt_sorted (pa_cons (pe_lc (own := [("word", 2)]) (g := gName 2) (tt := (fun _ H Q => Q true H)) rfl sc_law_border.nd (pi_keys (pe_lk (pe_callTy (call_dictP rfl) (by rfl) T.n_dict bt_dict (pa_cons (pe_lc (own := [("word", 2)]) (g := gName 2) (tt := (fun _ H Q => Q true H)) rfl sc_law_border.nd (pi_list (pv 0)) (blkOk_by (N := N_law_border) (sc := defScope s_law_border) (by decide +kernel)) (fun _ _ _ _ _ => pg_name (i := 2) sc_law_border.nd rfl (Or.inl rfl)) (fun _ _ _ _ _ => pts_nil) (fun _ _ _ _ _ => pe_tup (pa_cons (pv 2) (pa_cons (pe_int) (pa_nil))))) (pa_nil))))) (blkOk_by (N := N_law_border) (sc := defScope s_law_border) (by decide +kernel)) (fun _ _ _ _ _ => pg_name (i := 2) sc_law_border.nd rfl (Or.inl rfl)) (fun _ _ _ _ _ => pts_nil) (fun _ _ _ _ _ => pe_tup (pa_cons (pe_callB call_len (by rfl) T.n_len bt_len (pa_cons (pv 2) (pa_nil))) (pa_cons (pv 2) (pa_nil))))) (pa_nil)))) (blkOk_by (N := N_law_border) (sc := defScope s_law_border) (by decide +kernel)) (fun _ _ _ _ _ => pg_tup rfl (pgs_cons (pg_name (i := 1) sc_law_border.nd rfl (Or.inl rfl)) (pgs_cons (pg_name (i := 2) sc_law_border.nd rfl (Or.inl rfl)) (pgs_nil)))) (fun _ _ _ _ _ => pts_nil) (fun _ _ _ _ _ => pv 2)))
def a_law_border (T : Tx K mg) {k : Nat} {sp : Sp} (ok : FnOk P w K mg base CX0 k T.law_border.f T.law_border.fd ["words"] sp) : FnA P w K mg base CX0 k "_law_border" ["words"] sp :=
  T.law_border.a ok fun _ _ _ _ _ _ us hl => match us, hl with | [_], _ => rfl

/-! ### law_bleast -/
theorem sc_law_bleast : FnScope N_law_bleast ["words"] (defScope s_law_bleast) := ⟨rfl, rfl, rfl, by decide +kernel, rfl, by decide +kernel, by decide +kernel⟩
theorem ok_law_bleast (T : Tx K mg) {k : Nat}
    {k_law_border : Nat} {sp_law_border : Sp} (G_law_border : FnA P w K mg base CX0 k_law_border "_law_border" ["words"] sp_law_border) (h_law_border : k_law_border ≤ k)
    {k_law_blies : Nat} {sp_law_blies : Sp} (G_law_blies : FnA P w K mg base CX0 k_law_blies "_law_blies" ["word", "other"] sp_law_blies) (h_law_blies : k_law_blies ≤ k) {sp : Sp} (hl : ∀ vs H Q E, sp vs H Q E → vs.length = 1)
    (hp : ∀ vs H Q E, sp vs H Q E → t_law_bleast K sp_law_border sp_law_blies { nx := fun _ H1 => Q .non H1, rt := Q } (start N_law_bleast vs) H) : FnOk P w K mg base CX0 (k + 1) T.law_bleast.f T.law_bleast.fd ["words"] sp := by
  refine T.law_bleast.F.ok sc_law_bleast hl (fun cdv A outer s H vs Q E hr h => ⟨t_law_bleast K sp_law_border sp_law_blies, PSs.nox ?_, hp vs H Q E h⟩)
  have hu64 := Room.hu64 hr
  exact pss_cons (ps_set (i := 1) sc_law_bleast.nd rfl (Or.inl rfl) (pe_lst (pa_nil)))
      (pss_cons (ps_for PassesOwn.never rfl (pi_list (pe_fn G_law_border (hr.mono (by omega)) (pa_cons (pv 0) (pa_nil)))) (pg_name (i := 2) sc_law_bleast.nd rfl (Or.inr rfl)) (pss_one (ps_if (pt_cmpR (op_eqD hu64) (pe_lc (own := [("one", 3)]) (g := gName 3) (tt := tB (tCall sp_law_blies [] E0 (tCons (tVar 3) (tCons (tVar 2) (tNil))))) rfl sc_law_bleast.nd (pi_list (pv 1)) (blkOk_by (N := N_law_bleast) (sc := defScope s_law_bleast) (by decide +kernel)) (fun _ _ _ _ _ => pg_name (i := 3) sc_law_bleast.nd rfl (Or.inl rfl)) (fun _ _ _ _ _ => pts_one (pt_val (pe_fn G_law_blies (hr.mono (by omega)) (pa_cons (pv 3) (pa_cons (pv 2) (pa_nil)))))) (fun _ _ _ _ _ => pv 3)) (pe_lst (pa_nil)) (nomark _)) (pss_one (ps_set (i := 1) sc_law_bleast.nd rfl (Or.inl rfl) (pe_op op_cat (pv 1) (pe_lst (pa_cons (pv 2) (pa_nil)))))) (pss_nil))))
      (pss_one (ps_ret (pv 1))))
def a_law_bleast (T : Tx K mg) {k : Nat} {sp : Sp} (ok : FnOk P w K mg base CX0 k T.law_bleast.f T.law_bleast.fd ["words"] sp) : FnA P w K mg base CX0 k "_law_bleast" ["words"] sp :=
  T.law_bleast.a ok fun _ _ _ _ _ _ us hl => match us, hl with | [_], _ => rfl

/-! ### law_bword -/
theorem sc_law_bword : FnScope N_law_bword ["stream", "letters", "many"] (defScope s_law_bword) := ⟨rfl, rfl, rfl, by decide +kernel, rfl, by decide +kernel, by decide +kernel⟩
theorem ok_law_bword (T : Tx K mg) {k : Nat}
    {k_law_pick : Nat} {sp_law_pick : Sp} (G_law_pick : FnA P w K mg base CX0 k_law_pick "_law_pick" ["stream", "some"] sp_law_pick) (h_law_pick : k_law_pick ≤ k)
    {k_law_below : Nat} {sp_law_below : Sp} (G_law_below : FnA P w K mg base CX0 k_law_below "_law_below" ["stream", "many"] sp_law_below) (h_law_below : k_law_below ≤ k) {sp : Sp} (hl : ∀ vs H Q E, sp vs H Q E → vs.length = 3)
    (hp : ∀ vs H Q E, sp vs H Q E → t_law_bword K sp_law_pick sp_law_below { nx := fun _ H1 => Q .non H1, rt := Q } (start N_law_bword vs) H) : FnOk P w K mg base CX0 (k + 1) T.law_bword.f T.law_bword.fd ["stream", "letters", "many"] sp := by
  refine T.law_bword.F.ok sc_law_bword hl (fun cdv A outer s H vs Q E hr h => ⟨t_law_bword K sp_law_pick sp_law_below, PSs.nox ?_, hp vs H Q E h⟩)
  exact pss_one (ps_ret (pe_join (pe_str) (pe_lc (own := [("k", 3)]) (g := gName 3) (tt := (fun _ H Q => Q true H)) rfl sc_law_bword.nd (pi_range1 rfl T.n_range (pa_cons (pe_fn G_law_below (hr.mono (by omega)) (pa_cons (pv 0) (pa_cons (pe_op op_add (pv 2) (pe_int)) (pa_nil)))) (pa_nil))) (blkOk_by (N := N_law_bword) (sc := defScope s_law_bword) (by decide +kernel)) (fun _ _ _ _ _ => pg_name (i := 3) sc_law_bword.nd rfl (Or.inl rfl)) (fun _ _ _ _ _ => pts_nil) (fun _ _ _ _ _ => pe_fn G_law_pick (hr.mono (by omega)) (pa_cons (pv 0) (pa_cons (pv 1) (pa_nil)))))))
def a_law_bword (T : Tx K mg) {k : Nat} {sp : Sp} (ok : FnOk P w K mg base CX0 k T.law_bword.f T.law_bword.fd ["stream", "letters", "many"] sp) : FnA P w K mg base CX0 k "_law_bword" ["stream", "letters", "many"] sp :=
  T.law_bword.a ok fun _ _ _ _ _ _ us hl => match us, hl with | [_, _, _], _ => rfl

/-! ### law_braised -/
def Tx.brCl (T : Tx K mg) : List Cls3 := [(T.e_BadMachine.C, "machine", "thing"), (T.e_BadOther.C, "other", "thing"), (T.e_BadWord.C, "word", "thing"), (T.e_BadWords.C, "words", "index"), (T.e_BadRows.C, "rows", "index"), (T.e_BadLetters.C, "letters", "thing"), (T.e_BadLength.C, "length", "thing"), (T.e_BadNumber.C, "number", "thing"), (T.e_BadMany.C, "many", "thing"), (T.e_TooMany.C, "too many", "many")]
theorem sc_law_braised : FnScope ["run", "found", "e"] ["run"] (defScope s_law_braised) := ⟨rfl, rfl, rfl, by decide +kernel, rfl, by decide +kernel, by decide +kernel⟩
theorem pe_braised {X : Cx} (T : Tx X.K X.mg) {cl : List Cls3} (hcl : T.brCl = cl) {Ts : List (Addr × PySem.Str)} {c P : Addr} {k : Nat} {params : Arguments} {body : Expr} {scope : Scope} {t : XK → TE} {p lpos pos : Pos} (hg : Gl X "_law_braised") (TB : LamX.TabB X.base X.mg c P) (hcode : X.env.code = .ref c)
    (hmT : (P, X.env.qual ++ "<lambda>") ∈ Ts) (hu : ∀ q ∈ Ts, q.1 = P → q.2 = X.env.qual ++ "<lambda>") (hr : Room (k + 2) X.A) (L : LamX.LamS X.env.scope scope) (hdef : defaultsOf params X.env = ([], []))
    (hbind : ∀ (q : PySem.Str) (cl : List (PySem.Str × Addr)) (pm cv ctv : Value), bindArgs (PySem.W.kla_fn "<lambda>" q params body scope cl pm cv ctv) ⟨[], []⟩ = pure [])
    (hbody : ∀ (A : Around) (outer : List Env) (s : Shared) (H : Hp) (E : XK) (f c' : Addr), Room k (A.deeper (LamX.lamEnv X scope s.heap.objs.size f c')) → PE (LamX.lamCx X A outer s H E scope f c') body (t E)) :
    PE X (.Call (.Name "_law_braised" p) [.Lambda params body scope lpos] [] pos) (LamX.tLam Ts (TTbr X.K cl) t) := by
  subst hcl
  obtain ⟨oc, od, dV, kV, doc, pm, an, cdb, ct, osl, efd, lk, hcd, _, _⟩ := T.law_braised.F.ex
  have b := T.law_braised.F.bindsN (ps := ["run"]) fun _ _ _ _ _ _ us hl => match us, hl with | [_], _ => rfl
  rw [efd] at lk b
  refine LamX.pe_lamcall hg T.law_braised.g T.law_braised.F.kp lk hcd b sc_law_braised rfl (.inl rfl) ?_ TB hcode hmT hu hr L hdef hbind hbody
  refine br_gives rfl rfl rfl (fun s H => ?_)
  refine .cons ⟨by rfl, by decide, .inl T.e_BadMachine.T.gC⟩ (fun a oe cls d pn hz hf => pss_one (ps_set (i := 1) sc_law_braised.nd rfl (Or.inl rfl) (pe_tup (pa_cons pe_str (pa_cons (Er_thing.pe_byE T.e_BadMachine.T hz hf (pv 2)) pa_nil))))) ?_
  refine .cons ⟨by rfl, by decide, .inl T.e_BadOther.T.gC⟩ (fun a oe cls d pn hz hf => pss_one (ps_set (i := 1) sc_law_braised.nd rfl (Or.inl rfl) (pe_tup (pa_cons pe_str (pa_cons (Er_thing.pe_byE T.e_BadOther.T hz hf (pv 2)) pa_nil))))) ?_
  refine .cons ⟨by rfl, by decide, .inl T.e_BadWord.T.gC⟩ (fun a oe cls d pn hz hf => pss_one (ps_set (i := 1) sc_law_braised.nd rfl (Or.inl rfl) (pe_tup (pa_cons pe_str (pa_cons (Er_thing.pe_byE T.e_BadWord.T hz hf (pv 2)) pa_nil))))) ?_
  refine .cons ⟨by rfl, by decide, .inl T.e_BadWords.T.gC⟩ (fun a oe cls d pn hz hf => pss_one (ps_set (i := 1) sc_law_braised.nd rfl (Or.inl rfl) (pe_tup (pa_cons pe_str (pa_cons (Er_index.pe_byE T.e_BadWords.T hz hf (pv 2)) pa_nil))))) ?_
  refine .cons ⟨by rfl, by decide, .inl T.e_BadRows.T.gC⟩ (fun a oe cls d pn hz hf => pss_one (ps_set (i := 1) sc_law_braised.nd rfl (Or.inl rfl) (pe_tup (pa_cons pe_str (pa_cons (Er_index.pe_byE T.e_BadRows.T hz hf (pv 2)) pa_nil))))) ?_
  refine .cons ⟨by rfl, by decide, .inl T.e_BadLetters.T.gC⟩ (fun a oe cls d pn hz hf => pss_one (ps_set (i := 1) sc_law_braised.nd rfl (Or.inl rfl) (pe_tup (pa_cons pe_str (pa_cons (Er_thing.pe_byE T.e_BadLetters.T hz hf (pv 2)) pa_nil))))) ?_
  refine .cons ⟨by rfl, by decide, .inl T.e_BadLength.T.gC⟩ (fun a oe cls d pn hz hf => pss_one (ps_set (i := 1) sc_law_braised.nd rfl (Or.inl rfl) (pe_tup (pa_cons pe_str (pa_cons (Er_thing.pe_byE T.e_BadLength.T hz hf (pv 2)) pa_nil))))) ?_
  refine .cons ⟨by rfl, by decide, .inl T.e_BadNumber.T.gC⟩ (fun a oe cls d pn hz hf => pss_one (ps_set (i := 1) sc_law_braised.nd rfl (Or.inl rfl) (pe_tup (pa_cons pe_str (pa_cons (Er_thing.pe_byE T.e_BadNumber.T hz hf (pv 2)) pa_nil))))) ?_
  refine .cons ⟨by rfl, by decide, .inl T.e_BadMany.T.gC⟩ (fun a oe cls d pn hz hf => pss_one (ps_set (i := 1) sc_law_braised.nd rfl (Or.inl rfl) (pe_tup (pa_cons pe_str (pa_cons (Er_thing.pe_byE T.e_BadMany.T hz hf (pv 2)) pa_nil))))) ?_
  refine .cons ⟨by rfl, by decide, .inl T.e_TooMany.T.gC⟩ (fun a oe cls d pn hz hf => pss_one (ps_set (i := 1) sc_law_braised.nd rfl (Or.inl rfl) (pe_tup (pa_cons pe_str (pa_cons (Er_many.pe_byE T.e_TooMany.T hz hf (pv 2)) pa_nil))))) ?_
  exact .nil

/-! ### law_bbad -/
theorem sc_law_bbad : FnScope N_law_bbad ["stream", "words"] (defScope s_law_bbad) := ⟨rfl, rfl, rfl, by decide +kernel, rfl, by decide +kernel, by decide +kernel⟩
theorem ok_law_bbad (T : Tx K mg) {k : Nat}
    {k_law_pick : Nat} {sp_law_pick : Sp} (G_law_pick : FnA P w K mg base CX0 k_law_pick "_law_pick" ["stream", "some"] sp_law_pick) (h_law_pick : k_law_pick ≤ k)
    {k_law_chance : Nat} {sp_law_chance : Sp} (G_law_chance : FnA P w K mg base CX0 k_law_chance "_law_chance" ["stream", "many"] sp_law_chance) (h_law_chance : k_law_chance ≤ k)
    {k_law_below : Nat} {sp_law_below : Sp} (G_law_below : FnA P w K mg base CX0 k_law_below "_law_below" ["stream", "many"] sp_law_below) (h_law_below : k_law_below ≤ k) {sp : Sp} (hl : ∀ vs H Q E, sp vs H Q E → vs.length = 2)
    (hp : ∀ vs H Q E, sp vs H Q E → t_law_bbad K sp_law_pick sp_law_chance sp_law_below { nx := fun _ H1 => Q .non H1, rt := Q } (start N_law_bbad vs) H) : FnOk P w K mg base CX0 (k + 1) T.law_bbad.f T.law_bbad.fd ["stream", "words"] sp := by
  refine T.law_bbad.F.ok sc_law_bbad hl (fun cdv A outer s H vs Q E hr h => ⟨t_law_bbad K sp_law_pick sp_law_chance sp_law_below, PSs.nox ?_, hp vs H Q E h⟩)
  exact pss_cons (ps_set (i := 2) sc_law_bbad.nd rfl (Or.inl rfl) (pe_fn G_law_pick (hr.mono (by omega)) (pa_cons (pv 0) (pa_cons (pe_lst (pa_cons (pe_non) (pa_cons (pe_int) (pa_cons (pe_str) (pa_cons (pe_str) (pa_cons (pe_lst (pa_cons (pe_str) (pa_nil))) (pa_cons (pe_op op_repS (pe_str) (pe_int)) (pa_cons (pe_str) (pa_cons (pe_bl) (pa_nil)))))))))) (pa_nil)))))
      (pss_cons (ps_if (pt_val (pe_fn G_law_chance (hr.mono (by omega)) (pa_cons (pv 0) (pa_cons (pe_int) (pa_nil))))) (pss_one (ps_ret (pe_fn G_law_pick (hr.mono (by omega)) (pa_cons (pv 0) (pa_cons (pe_lst (pa_cons (pe_tup (pa_cons (pe_non) (pa_cons (pe_int) (pa_nil)))) (pa_cons (pe_tup (pa_cons (pe_int) (pa_cons (pe_int) (pa_nil)))) (pa_cons (pe_tup (pa_cons (pe_str) (pa_cons (pe_int) (pa_nil)))) (pa_cons (pe_tup (pa_cons (pe_dnewK) (pa_cons (pe_int) (pa_nil)))) (pa_cons (pe_tup (pa_cons (pe_op op_rep (pe_lst (pa_cons (pe_str) (pa_nil))) (pe_int)) (pa_cons (pe_int) (pa_nil)))) (pa_nil))))))) (pa_nil)))))) (pss_nil))
      (pss_cons (ps_set (i := 3) sc_law_bbad.nd rfl (Or.inl rfl) (pe_fn G_law_below (hr.mono (by omega)) (pa_cons (pv 0) (pa_cons (pe_op op_add (pe_callB call_len (by rfl) T.n_len bt_len (pa_cons (pv 1) (pa_nil))) (pe_int)) (pa_nil)))))
      (pss_one (ps_ret (pe_tup (pa_cons (pe_op op_cat (pe_op op_cat (pe_slice sl_list (pv 1) (po_none) (po_some (pv 3))) (pe_lst (pa_cons (pv 2) (pa_nil)))) (pe_slice sl_list (pv 1) (po_some (pv 3)) (po_none))) (pa_cons (pv 3) (pa_nil))))))))
def a_law_bbad (T : Tx K mg) {k : Nat} {sp : Sp} (ok : FnOk P w K mg base CX0 k T.law_bbad.f T.law_bbad.fd ["stream", "words"] sp) : FnA P w K mg base CX0 k "_law_bbad" ["stream", "words"] sp :=
  T.law_bbad.a ok fun _ _ _ _ _ _ us hl => match us, hl with | [_, _], _ => rfl

end
end Lo
set_option Elab.async false
set_option linter.all false
set_option maxRecDepth 100000
set_option maxHeartbeats 40000000
namespace Lo
open PySem PySem.Spec PyProof.Rows L2
section
variable {P : Program} {w : World} {K : PySem.W.Frag} {mg : PySem.Str → Option Value} {base : Heap}
/-! ### law -/
theorem sc_law : FnScope N_law ["script"] (defScope s_law) := ⟨rfl, rfl, rfl, by decide +kernel, rfl, by decide +kernel, by decide +kernel⟩
theorem ok_law (T : Tx K mg) {k : Nat} {Ts : List (Addr × PySem.Str)} {cc Pt : Addr} (TB : LamX.TabB base mg cc Pt) (hcc : T.law.fd.code = .ref cc) (hmT : (Pt, (("law" : PySem.Str) ++ (".<locals>." : PySem.Str)) ++ ("<lambda>" : PySem.Str)) ∈ Ts) (hu : ∀ q ∈ Ts, q.1 = Pt → q.2 = (("law" : PySem.Str) ++ (".<locals>." : PySem.Str)) ++ ("<lambda>" : PySem.Str)) {kl : Nat} (hkl : kl + 2 ≤ k)
    {k_law_start : Nat} {sp_law_start : Sp} (G_law_start : FnA P w K mg base CX0 k_law_start "_law_start" ["script"] sp_law_start) (h_law_start : k_law_start ≤ kl)
    {k_law_bletters : Nat} {sp_law_bletters : Sp} (G_law_bletters : FnA P w K mg base CX0 k_law_bletters "_law_bletters" ["stream", "many"] sp_law_bletters) (h_law_bletters : k_law_bletters ≤ kl)
    {k_law_below : Nat} {sp_law_below : Sp} (G_law_below : FnA P w K mg base CX0 k_law_below "_law_below" ["stream", "many"] sp_law_below) (h_law_below : k_law_below ≤ kl)
    {k_law_bword : Nat} {sp_law_bword : Sp} (G_law_bword : FnA P w K mg base CX0 k_law_bword "_law_bword" ["stream", "letters", "many"] sp_law_bword) (h_law_bword : k_law_bword ≤ kl)
    {k_law_chance : Nat} {sp_law_chance : Sp} (G_law_chance : FnA P w K mg base CX0 k_law_chance "_law_chance" ["stream", "many"] sp_law_chance) (h_law_chance : k_law_chance ≤ kl)
    {k_law_bleast : Nat} {sp_law_bleast : Sp} (G_law_bleast : FnA P w K mg base CX0 k_law_bleast "_law_bleast" ["words"] sp_law_bleast) (h_law_bleast : k_law_bleast ≤ kl)
    {k_law_loose : Nat} {sp_law_loose : Sp} (G_law_loose : FnA P w K mg base CX0 k_law_loose "_law_loose" ["stream", "thing"] sp_law_loose) (h_law_loose : k_law_loose ≤ kl)
    {k_law_copied : Nat} {sp_law_copied : Sp} (G_law_copied : FnA P w K mg base CX0 k_law_copied "_law_copied" ["thing"] sp_law_copied) (h_law_copied : k_law_copied ≤ kl)
    {k_least_words : Nat} {sp_least_words : Sp} (G_least_words : FnA P w K mg base (L2.CX P w) k_least_words "least_words" ["words"] sp_least_words) (h_least_words : k_least_words ≤ kl)
    {k_law_same : Nat} {sp_law_same : Sp} (G_law_same : FnA P w K mg base CX0 k_law_same "_law_same" ["found", "due"] sp_law_same) (h_law_same : k_law_same ≤ kl)
    {k_law_apart : Nat} {sp_law_apart : Sp} (G_law_apart : FnA P w K mg base CX0 k_law_apart "_law_apart" ["thing"] sp_law_apart) (h_law_apart : k_law_apart ≤ kl)
    {k_law_mixed : Nat} {sp_law_mixed : Sp} (G_law_mixed : FnA P w K mg base CX0 k_law_mixed "_law_mixed" ["stream", "some"] sp_law_mixed) (h_law_mixed : k_law_mixed ≤ kl)
    {k_law_blies : Nat} {sp_law_blies : Sp} (G_law_blies : FnA P w K mg base CX0 k_law_blies "_law_blies" ["word", "other"] sp_law_blies) (h_law_blies : k_law_blies ≤ kl)
    {k_is_above : Nat} {sp_is_above : Sp} (G_is_above : FnA P w K mg base (L2.CX P w) k_is_above "is_above" ["words", "word"] sp_is_above) (h_is_above : k_is_above ≤ kl)
    {k_law_bbad : Nat} {sp_law_bbad : Sp} (G_law_bbad : FnA P w K mg base CX0 k_law_bbad "_law_bbad" ["stream", "words"] sp_law_bbad) (h_law_bbad : k_law_bbad ≤ kl)
    {k_law_pick : Nat} {sp_law_pick : Sp} (G_law_pick : FnA P w K mg base CX0 k_law_pick "_law_pick" ["stream", "some"] sp_law_pick) (h_law_pick : k_law_pick ≤ kl) {sp : Sp} (hl : ∀ vs H Q E, sp vs H Q E → vs.length = 1)
    (hp : ∀ vs H Q E, sp vs H Q E → t_law K T.brCl sp_law_start sp_law_bletters sp_law_below sp_law_bword sp_law_chance sp_law_bleast sp_law_loose sp_law_copied sp_least_words sp_law_same sp_law_apart sp_law_mixed sp_law_blies sp_is_above sp_law_bbad sp_law_pick Ts { nx := fun _ H1 => Q .non H1, rt := Q } (start N_law vs) H) : FnOk P w K mg base CX0 (k + 1) T.law.f T.law.fd ["script"] sp := by
  refine FunD.okC T.law.F hcc sc_law hl (fun cdv hcode A outer s H vs Q E hr h => ⟨t_law K T.brCl sp_law_start sp_law_bletters sp_law_below sp_law_bword sp_law_chance sp_law_bleast sp_law_loose sp_law_copied sp_least_words sp_law_same sp_law_apart sp_law_mixed sp_law_blies sp_is_above sp_law_bbad sp_law_pick Ts, PSs.nox ?_, hp vs H Q E h⟩)
  have hu64 := Room.hu64 hr
  exact pss_cons (ps_set (i := 1) sc_law.nd rfl (Or.inr rfl) (pe_fn G_law_start (hr.mono (by omega)) (pa_cons (pv 0) (pa_nil))))
      (pss_cons (ps_for PassesOwn.never rfl (pi_range1 rfl T.n_range (pa_cons (pe_int) (pa_nil))) (pg_name (i := 2) sc_law.nd rfl (Or.inl rfl)) (pss_cons (ps_set (i := 3) sc_law.nd rfl (Or.inr rfl) (pe_fn G_law_bletters (hr.mono (by omega)) (pa_cons (pv 1) (pa_cons (pe_op op_add (pe_int) (pe_fn G_law_below (hr.mono (by omega)) (pa_cons (pv 1) (pa_cons (pe_int) (pa_nil))))) (pa_nil)))))
      (pss_cons (ps_set (i := 15) sc_law.nd rfl (Or.inr rfl) (pe_lc (own := [("k", 16)]) (g := gName 16) (tt := (fun _ H Q => Q true H)) rfl sc_law.nd (pi_range1 rfl T.n_range (pa_cons (pe_fn G_law_below (hr.mono (by omega)) (pa_cons (pv 1) (pa_cons (pe_int) (pa_nil)))) (pa_nil))) (blkOk_by (N := N_law) (sc := defScope s_law) (by decide +kernel)) (fun _ _ _ _ _ => pg_name (i := 16) sc_law.nd rfl (Or.inl rfl)) (fun _ _ _ _ _ => pts_nil) (fun _ _ _ _ _ => pe_fn G_law_bword (hr.mono (by omega)) (pa_cons (pv 1) (pa_cons (pv 3) (pa_cons (pe_int) (pa_nil)))))))
      (pss_cons (ps_set (i := 15) sc_law.nd rfl (Or.inr rfl) (pe_op op_cat (pv 15) (pe_lc (own := [("word", 4)]) (g := gName 4) (tt := tB (tCall sp_law_chance [] E0 (tCons (tVar 1) (tCons (tC (.int 4)) (tNil))))) rfl sc_law.nd (pi_list (pv 15)) (blkOk_by (N := N_law) (sc := defScope s_law) (by decide +kernel)) (fun _ _ _ _ _ => pg_name (i := 4) sc_law.nd rfl (Or.inl rfl)) (fun _ _ _ _ _ => pts_one (pt_val (pe_fn G_law_chance (hr.mono (by omega)) (pa_cons (pv 1) (pa_cons (pe_int) (pa_nil)))))) (fun _ _ _ _ _ => pv 4))))
      (pss_cons (ps_par (i := 5) (j := 6) rfl sc_law.nd rfl rfl (by decide) rfl rfl (pa_cons (pe_fn G_law_bleast (hr.mono (by omega)) (pa_cons (pv 15) (pa_nil))) (pa_cons (pe_fn G_law_loose (hr.mono (by omega)) (pa_cons (pv 1) (pa_cons (pv 15) (pa_nil)))) (pa_nil))) (by rfl))
      (pss_cons (ps_set (i := 7) sc_law.nd rfl (Or.inl rfl) (pe_fn G_law_copied (hr.mono (by omega)) (pa_cons (pv 6) (pa_nil))))
      (pss_cons (ps_set (i := 8) sc_law.nd rfl (Or.inl rfl) (pe_fnN G_least_words (hr.mono (by omega)) (pa_cons (pv 6) (pa_nil))))
      (pss_cons (ps_if (PW.pt (pw_or (pt_not (pt_val (pe_fn G_law_same (hr.mono (by omega)) (pa_cons (pv 8) (pa_cons (pv 5) (pa_nil)))))) (pw_or (pt_not (pt_val (pe_fn G_law_apart (hr.mono (by omega)) (pa_cons (pe_lst (pa_cons (pv 8) (pa_nil))) (pa_nil))))) (pw_or1 (pt_not (pt_val (pe_fn G_law_same (hr.mono (by omega)) (pa_cons (pe_fnN G_least_words (hr.mono (by omega)) (pa_cons (pe_fn G_law_copied (hr.mono (by omega)) (pa_cons (pe_fn G_law_mixed (hr.mono (by omega)) (pa_cons (pv 1) (pa_cons (pv 15) (pa_nil)))) (pa_nil))) (pa_nil))) (pa_cons (pv 5) (pa_nil)))))))))) (pss_one (ps_ret (pe_bl))) (pss_nil))
      (pss_cons (ps_for PassesOwn.never rfl (pi_list (pe_op op_cat (pe_lc (own := [("k", 16)]) (g := gName 16) (tt := (fun _ H Q => Q true H)) rfl sc_law.nd (pi_range1 rfl T.n_range (pa_cons (pe_int) (pa_nil))) (blkOk_by (N := N_law) (sc := defScope s_law) (by decide +kernel)) (fun _ _ _ _ _ => pg_name (i := 16) sc_law.nd rfl (Or.inl rfl)) (fun _ _ _ _ _ => pts_nil) (fun _ _ _ _ _ => pe_fn G_law_bword (hr.mono (by omega)) (pa_cons (pv 1) (pa_cons (pv 3) (pa_cons (pe_int) (pa_nil)))))) (pe_slice sl_list (pv 15) (po_none) (po_some (pe_int))))) (pg_name (i := 4) sc_law.nd rfl (Or.inr rfl)) (pss_cons (ps_set (i := 9) sc_law.nd rfl (Or.inl rfl) (pe_cmpR (op_neD hu64) (pe_lc (own := [("one", 17)]) (g := gName 17) (tt := tB (tCall sp_law_blies [] E0 (tCons (tVar 17) (tCons (tVar 4) (tNil))))) rfl sc_law.nd (pi_list (pv 15)) (blkOk_by (N := N_law) (sc := defScope s_law) (by decide +kernel)) (fun _ _ _ _ _ => pg_name (i := 17) sc_law.nd rfl (Or.inl rfl)) (fun _ _ _ _ _ => pts_one (pt_val (pe_fn G_law_blies (hr.mono (by omega)) (pa_cons (pv 17) (pa_cons (pv 4) (pa_nil)))))) (fun _ _ _ _ _ => pv 17)) (pe_lst (pa_nil)) (nomark _)))
      (pss_one (ps_if (pt_not (pt_val (pe_fn G_law_same (hr.mono (by omega)) (pa_cons (pe_lst (pa_cons (pe_fnN G_is_above (hr.mono (by omega)) (pa_cons (pv 6) (pa_cons (pv 4) (pa_nil)))) (pa_cons (pe_fnN G_is_above (hr.mono (by omega)) (pa_cons (pe_fn G_law_copied (hr.mono (by omega)) (pa_cons (pv 5) (pa_nil))) (pa_cons (pv 4) (pa_nil)))) (pa_nil)))) (pa_cons (pe_lst (pa_cons (pv 9) (pa_cons (pv 9) (pa_nil)))) (pa_nil)))))) (pss_one (ps_ret (pe_bl))) (pss_nil)))))
      (pss_cons (ps_if (pt_not (pt_val (pe_fn G_law_same (hr.mono (by omega)) (pa_cons (pv 6) (pa_cons (pv 7) (pa_nil)))))) (pss_one (ps_ret (pe_bl))) (pss_nil))
      (pss_cons (ps_asg (pe_fn G_law_bbad (hr.mono (by omega)) (pa_cons (pv 1) (pa_cons (pv 15) (pa_nil)))) (pg_tup rfl (pgs_cons (pg_name (i := 13) sc_law.nd rfl (Or.inr rfl)) (pgs_cons (pg_name (i := 10) sc_law.nd rfl (Or.inl rfl)) (pgs_nil)))))
      (pss_cons (ps_asg (pe_tup (pa_cons (pe_fn G_law_pick (hr.mono (by omega)) (pa_cons (pv 1) (pa_cons (pe_lst (pa_cons (pe_non) (pa_cons (pe_int) (pa_cons (pe_str) (pa_cons (pe_lst (pa_cons (pe_str) (pa_nil))) (pa_cons (pe_op op_repS (pe_str) (pe_int)) (pa_cons (pe_str) (pa_nil)))))))) (pa_nil)))) (pa_cons (pe_lst (pa_nil)) (pa_nil)))) (pg_tup rfl (pgs_cons (pg_name (i := 14) sc_law.nd rfl (Or.inr rfl)) (pgs_cons (pg_name (i := 11) sc_law.nd rfl (Or.inl rfl)) (pgs_nil)))))
      (pss_cons (ps_expr (pe_bm PySem.F.plainAttrs_list PySem.F.slot_list_append PySem.F.type_list_append mt_append (pv 11) (pa_cons ((by
            refine pe_braised (P := Pt) (c := cc) ?_ ?_ (k := kl) ?_ ?_ ?_ ?_ ?_ ?_ ?_ ?_ ?_ ?_
            · exact T
            · rfl
            · rfl
            · exact TB
            · exact hcode
            · exact hmT
            · exact hu
            · exact hr.mono (by omega)
            · exact LamX.lamS_by (sc := defScope s_law) (by decide +kernel)
            · rfl
            · exact fun _ _ _ _ _ => rfl
            · exact fun A outer s H El f c hr2 => pe_fnX G_least_words (hr2.mono (by omega)) (passes_call (takes_of rfl rfl rfl rfl) (fun _ _ _ _ h => h)) (pa_cons (pv 13) (pa_nil)))) (pa_nil))))
      (pss_cons (ps_expr (pe_bm PySem.F.plainAttrs_list PySem.F.slot_list_append PySem.F.type_list_append mt_append (pv 11) (pa_cons ((by
            refine pe_braised (P := Pt) (c := cc) ?_ ?_ (k := kl) ?_ ?_ ?_ ?_ ?_ ?_ ?_ ?_ ?_ ?_
            · exact T
            · rfl
            · rfl
            · exact TB
            · exact hcode
            · exact hmT
            · exact hu
            · exact hr.mono (by omega)
            · exact LamX.lamS_by (sc := defScope s_law) (by decide +kernel)
            · rfl
            · exact fun _ _ _ _ _ => rfl
            · exact fun A outer s H El f c hr2 => pe_fnX G_is_above (hr2.mono (by omega)) (passes_call (takes_of rfl rfl rfl rfl) (fun _ _ _ _ h => h)) (pa_cons (pv 13) (pa_cons (pv 14) (pa_nil))))) (pa_nil))))
      (pss_cons (ps_expr (pe_bm PySem.F.plainAttrs_list PySem.F.slot_list_append PySem.F.type_list_append mt_append (pv 11) (pa_cons ((by
            refine pe_braised (P := Pt) (c := cc) ?_ ?_ (k := kl) ?_ ?_ ?_ ?_ ?_ ?_ ?_ ?_ ?_ ?_
            · exact T
            · rfl
            · rfl
            · exact TB
            · exact hcode
            · exact hmT
            · exact hu
            · exact hr.mono (by omega)
            · exact LamX.lamS_by (sc := defScope s_law) (by decide +kernel)
            · rfl
            · exact fun _ _ _ _ _ => rfl
            · exact fun A outer s H El f c hr2 => pe_fnX G_is_above (hr2.mono (by omega)) (passes_call (takes_of rfl rfl rfl rfl) (fun _ _ _ _ h => h)) (pa_cons (pe_fn G_law_copied (hr2.mono (by omega)) (pa_cons (pv 15) (pa_nil))) (pa_cons (pv 14) (pa_nil))))) (pa_nil))))
      (pss_one (ps_if (pt_not (pt_val (pe_fn G_law_same (hr.mono (by omega)) (pa_cons (pv 11) (pa_cons (pe_lst (pa_cons (pe_tup (pa_cons (pe_str) (pa_cons (pv 10) (pa_nil)))) (pa_cons (pe_tup (pa_cons (pe_str) (pa_cons (pv 10) (pa_nil)))) (pa_cons (pe_tup (pa_cons (pe_str) (pa_cons (pv 14) (pa_nil)))) (pa_nil))))) (pa_nil)))))) (pss_one (ps_ret (pe_bl))) (pss_nil))))))))))))))))))
      (pss_cons (ps_set (i := 12) sc_law.nd rfl (Or.inl rfl) (pe_op op_repS (pe_str) (pe_int)))
      (pss_one (ps_ret (pe_fn G_law_same (hr.mono (by omega)) (pa_cons (pe_lst (pa_cons (pe_fnN G_least_words (hr.mono (by omega)) (pa_cons (pe_lst (pa_cons (pv 12) (pa_cons (pe_slice sl_str (pv 12) (po_some (pe_int)) (po_none)) (pa_cons (pe_str) (pa_cons (pe_str) (pa_nil)))))) (pa_nil))) (pa_cons (pe_fnN G_least_words (hr.mono (by omega)) (pa_cons (pe_lst (pa_nil)) (pa_nil))) (pa_cons (pe_fnN G_is_above (hr.mono (by omega)) (pa_cons (pe_lst (pa_nil)) (pa_cons (pe_str) (pa_nil)))) (pa_cons (pe_fnN G_is_above (hr.mono (by omega)) (pa_cons (pe_lst (pa_cons (pe_str) (pa_nil))) (pa_cons (pe_str) (pa_nil)))) (pa_nil)))))) (pa_cons (pe_lst (pa_cons (pe_lst (pa_cons (pe_str) (pa_nil))) (pa_cons (pe_lst (pa_nil)) (pa_cons (pe_bl) (pa_cons (pe_bl) (pa_nil)))))) (pa_nil))))))))
def a_law (T : Tx K mg) {k : Nat} {sp : Sp} (ok : FnOk P w K mg base CX0 k T.law.f T.law.fd ["script"] sp) : FnA P w K mg base CX0 k "law" ["script"] sp :=
  T.law.a ok fun _ _ _ _ _ _ us hl => match us, hl with | [_], _ => rfl

end
end Lo
set_option Elab.async false
set_option linter.all false
set_option maxRecDepth 100000
set_option maxHeartbeats 0
namespace Lo
open PySem PySem.Spec PyProof.Rows L2
abbrev s_BadLength_init : Stmt := inClass (top 2) 0
def d_BadLength_init : He.DefD := ⟨("BadLength", some "__init__"), "__init__", "BadLength.__init__", defArgs s_BadLength_init, defBody s_BadLength_init, defScope s_BadLength_init, [], []⟩
abbrev s_BadLetters_init : Stmt := inClass (top 3) 0
def d_BadLetters_init : He.DefD := ⟨("BadLetters", some "__init__"), "__init__", "BadLetters.__init__", defArgs s_BadLetters_init, defBody s_BadLetters_init, defScope s_BadLetters_init, [], []⟩
abbrev s_BadMachine_init : Stmt := inClass (top 4) 0
def d_BadMachine_init : He.DefD := ⟨("BadMachine", some "__init__"), "__init__", "BadMachine.__init__", defArgs s_BadMachine_init, defBody s_BadMachine_init, defScope s_BadMachine_init, [], []⟩
abbrev s_BadMany_init : Stmt := inClass (top 5) 0
def d_BadMany_init : He.DefD := ⟨("BadMany", some "__init__"), "__init__", "BadMany.__init__", defArgs s_BadMany_init, defBody s_BadMany_init, defScope s_BadMany_init, [], []⟩
abbrev s_BadNumber_init : Stmt := inClass (top 6) 0
def d_BadNumber_init : He.DefD := ⟨("BadNumber", some "__init__"), "__init__", "BadNumber.__init__", defArgs s_BadNumber_init, defBody s_BadNumber_init, defScope s_BadNumber_init, [], []⟩
abbrev s_BadOther_init : Stmt := inClass (top 7) 0
def d_BadOther_init : He.DefD := ⟨("BadOther", some "__init__"), "__init__", "BadOther.__init__", defArgs s_BadOther_init, defBody s_BadOther_init, defScope s_BadOther_init, [], []⟩
abbrev s_BadRows_init : Stmt := inClass (top 8) 0
def d_BadRows_init : He.DefD := ⟨("BadRows", some "__init__"), "__init__", "BadRows.__init__", defArgs s_BadRows_init, defBody s_BadRows_init, defScope s_BadRows_init, [], []⟩
abbrev s_BadWord_init : Stmt := inClass (top 9) 0
def d_BadWord_init : He.DefD := ⟨("BadWord", some "__init__"), "__init__", "BadWord.__init__", defArgs s_BadWord_init, defBody s_BadWord_init, defScope s_BadWord_init, [], []⟩
abbrev s_BadWords_init : Stmt := inClass (top 10) 0
def d_BadWords_init : He.DefD := ⟨("BadWords", some "__init__"), "__init__", "BadWords.__init__", defArgs s_BadWords_init, defBody s_BadWords_init, defScope s_BadWords_init, [], []⟩
abbrev s_TooMany_init : Stmt := inClass (top 11) 0
def d_TooMany_init : He.DefD := ⟨("TooMany", some "__init__"), "__init__", "TooMany.__init__", defArgs s_TooMany_init, defBody s_TooMany_init, defScope s_TooMany_init, [], []⟩
def d_is_plain : He.DefD := ⟨("is_plain", none), "is_plain", "is_plain", defArgs s_is_plain, defBody s_is_plain, defScope s_is_plain, [], []⟩
def d_need_plain : He.DefD := ⟨("need_plain", none), "need_plain", "need_plain", defArgs s_need_plain, defBody s_need_plain, defScope s_need_plain, [], []⟩
def d_places_in : He.DefD := ⟨("places_in", none), "places_in", "places_in", defArgs s_places_in, defBody s_places_in, defScope s_places_in, [], []⟩
def d_is_in : He.DefD := ⟨("is_in", none), "is_in", "is_in", defArgs s_is_in, defBody s_is_in, defScope s_is_in, [], []⟩
def d_need_words : He.DefD := ⟨("need_words", none), "need_words", "need_words", defArgs s_need_words, defBody s_need_words, defScope s_need_words, [], []⟩
def d_in_order : He.DefD := ⟨("in_order", none), "in_order", "in_order", defArgs s_in_order, defBody s_in_order, defScope s_in_order, [], []⟩
def d_least_plain : He.DefD := ⟨("least_plain", none), "least_plain", "least_plain", defArgs s_least_plain, defBody s_least_plain, defScope s_least_plain, [], []⟩
def d_least_words : He.DefD := ⟨("least_words", none), "least_words", "least_words", defArgs s_least_words, defBody s_least_words, defScope s_least_words, [], []⟩
def d_is_above : He.DefD := ⟨("is_above", none), "is_above", "is_above", defArgs s_is_above, defBody s_is_above, defScope s_is_above, [], []⟩
def d_law_start : He.DefD := ⟨("_law_start", none), "_law_start", "_law_start", defArgs s_law_start, defBody s_law_start, defScope s_law_start, [], []⟩
def d_law_below : He.DefD := ⟨("_law_below", none), "_law_below", "_law_below", defArgs s_law_below, defBody s_law_below, defScope s_law_below, [], []⟩
def d_law_chance : He.DefD := ⟨("_law_chance", none), "_law_chance", "_law_chance", defArgs s_law_chance, defBody s_law_chance, defScope s_law_chance, [], []⟩
def d_law_pick : He.DefD := ⟨("_law_pick", none), "_law_pick", "_law_pick", defArgs s_law_pick, defBody s_law_pick, defScope s_law_pick, [], []⟩
def d_law_mixed : He.DefD := ⟨("_law_mixed", none), "_law_mixed", "_law_mixed", defArgs s_law_mixed, defBody s_law_mixed, defScope s_law_mixed, [], []⟩
def d_law_copied : He.DefD := ⟨("_law_copied", none), "_law_copied", "_law_copied", defArgs s_law_copied, defBody s_law_copied, defScope s_law_copied, [], []⟩
def d_law_same : He.DefD := ⟨("_law_same", none), "_law_same", "_law_same", defArgs s_law_same, defBody s_law_same, defScope s_law_same, [], []⟩
def d_law_loose : He.DefD := ⟨("_law_loose", none), "_law_loose", "_law_loose", defArgs s_law_loose, defBody s_law_loose, defScope s_law_loose, [], []⟩
def d_law_spoilt : He.DefD := ⟨("_law_spoilt", none), "_law_spoilt", "_law_spoilt", defArgs s_law_spoilt, defBody s_law_spoilt, defScope s_law_spoilt, [], []⟩
def d_law_is_once : He.DefD := ⟨("_law_is_once", none), "_law_is_once", "_law_is_once", defArgs s_law_is_once, defBody s_law_is_once, defScope s_law_is_once, [], []⟩
def d_law_apart : He.DefD := ⟨("_law_apart", none), "_law_apart", "_law_apart", defArgs s_law_apart, defBody s_law_apart, defScope s_law_apart, [], []⟩
def d_law_bletters : He.DefD := ⟨("_law_bletters", none), "_law_bletters", "_law_bletters", defArgs s_law_bletters, defBody s_law_bletters, defScope s_law_bletters, [], []⟩
def d_law_blies : He.DefD := ⟨("_law_blies", none), "_law_blies", "_law_blies", defArgs s_law_blies, defBody s_law_blies, defScope s_law_blies, [], []⟩
def d_law_border : He.DefD := ⟨("_law_border", none), "_law_border", "_law_border", defArgs s_law_border, defBody s_law_border, defScope s_law_border, [], []⟩
def d_law_bleast : He.DefD := ⟨("_law_bleast", none), "_law_bleast", "_law_bleast", defArgs s_law_bleast, defBody s_law_bleast, defScope s_law_bleast, [], []⟩
def d_law_bword : He.DefD := ⟨("_law_bword", none), "_law_bword", "_law_bword", defArgs s_law_bword, defBody s_law_bword, defScope s_law_bword, [], []⟩
def d_law_braised : He.DefD := ⟨("_law_braised", none), "_law_braised", "_law_braised", defArgs s_law_braised, defBody s_law_braised, defScope s_law_braised, [], []⟩
def d_law_bbad : He.DefD := ⟨("_law_bbad", none), "_law_bbad", "_law_bbad", defArgs s_law_bbad, defBody s_law_bbad, defScope s_law_bbad, [], []⟩
def d_law : He.DefD := ⟨("law", none), "law", "law", defArgs s_law, defBody s_law, defScope s_law, [], []⟩
def fn : List He.DefD := [d_BadLength_init, d_BadLetters_init, d_BadMachine_init, d_BadMany_init, d_BadNumber_init, d_BadOther_init, d_BadRows_init, d_BadWord_init, d_BadWords_init, d_TooMany_init, d_is_plain, d_need_plain, d_places_in, d_is_in, d_need_words, d_in_order, d_least_plain, d_least_words, d_is_above, d_law_start, d_law_below, d_law_chance, d_law_pick, d_law_mixed, d_law_copied, d_law_same, d_law_loose, d_law_spoilt, d_law_is_once, d_law_apart, d_law_bletters, d_law_blies, d_law_border, d_law_bleast, d_law_bword, d_law_braised, d_law_bbad, d_law]
def fa : List He.Fa := [.glo "LossError", .glo "BadLength", .glo "BadLetters", .glo "BadMachine", .glo "BadMany", .glo "BadNumber", .glo "BadOther", .glo "BadRows", .glo "BadWord", .glo "BadWords", .glo "TooMany", .glo "is_plain", .glo "need_plain", .glo "places_in", .glo "is_in", .glo "need_words", .glo "in_order", .glo "least_plain", .glo "least_words", .glo "is_above", .glo "_law_start", .glo "_law_below", .glo "_law_chance", .glo "_law_pick", .glo "_law_mixed", .glo "_law_copied", .glo "_law_same", .glo "_law_loose", .glo "_law_spoilt", .glo "_law_is_once", .glo "_law_apart", .glo "_law_bletters", .glo "_law_blies", .glo "_law_border", .glo "_law_bleast", .glo "_law_bword", .glo "_law_braised", .glo "_law_bbad", .glo "law", .free "isinstance", .free "list", .free "tuple", .free "dict", .free "int", .free "str", .free "bool", .free "len", .free "sorted", .free "all", .free "range", .free "zip", .free "enumerate", .str "SMALL" "abcdefghijklmnopqrstuvwxyz", .int "LONGEST" 200, .int "WORDS" 200]
def lo0 : List PySem.Str := ["LossError", "BadLength", "BadLetters", "BadMachine", "BadMany", "BadNumber", "BadOther", "BadRows", "BadWord", "BadWords", "TooMany", "SMALL", "LONGEST", "is_plain", "need_plain", "places_in", "is_in", "WORDS", "need_words", "in_order"]
def lo1 : List PySem.Str := ["least_plain", "least_words", "is_above", "_law_start", "_law_below", "_law_chance", "_law_pick", "_law_mixed", "_law_copied", "_law_same", "_law_loose", "_law_spoilt", "_law_is_once", "_law_apart", "_law_bletters", "_law_blies", "_law_border", "_law_bleast", "_law_bword", "_law_braised"]
def lo2 : List PySem.Str := ["_law_bbad"]
def loose : List PySem.Str := lo0 ++ lo1 ++ lo2
abbrev RL : PySem.W.OpenLaw := PySem.Challenge.rw_lostletters_k43_least_words
abbrev R : PySem.W.OpenRow := PySem.W.OpenLaw.row RL
def tf : List He.Defn := [("law", none), ("in_order", none)]
def exC (K : PySem.W.Frag) (C : PySem.Str) (pre : List PySem.Str) : Bool := (pre.all fun p => decide (PySem.W.exmOne K (.ref (He.ga K C)) (.ref (He.ga K p)) = some false)) && decide (PySem.W.exmOne K (.ref (He.ga K C)) (.ref (He.ga K C)) = some true)
def exL (K : PySem.W.Frag) : List Bool := [Er_thing.errB K "BadMachine",
  Er_thing.errB K "BadOther",
  Er_thing.errB K "BadWord",
  Er_index.errB K "BadWords",
  Er_index.errB K "BadRows",
  Er_thing.errB K "BadLetters",
  Er_thing.errB K "BadLength",
  Er_thing.errB K "BadNumber",
  Er_thing.errB K "BadMany",
  Er_many.errB K "TooMany",
  exC K "BadWords" ["BadMachine", "BadOther", "BadWord"],
  exC K "BadWord" ["BadMachine", "BadOther"],
  decide ((He.cT K ("law", none)).2 ≠ (He.cT K ("in_order", none)).2),
  decide ((He.cT K ("in_order", none)).2 ≠ (He.cT K ("law", none)).2)]
def ex (K : PySem.W.Frag) : Bool := (exL K).all id
abbrev hk : PySem.W.Hook := He.hookX 4 fa fn [] tf ex
def ob (s : PySem.W.SharedT) : He.AlX := He.obsX 4 fa fn [] tf ex (HandSHeadRun.getT s)
theorem ob_eq (s : PySem.W.SharedT) : ob s = hk.obs s.abs := He.obsX_eq (HandSHeadRun.getT_eq s)
theorem run (w : World) : HandSHeadRun.RunEq R (PySem.W.view R.prog [45]) hk ob 4000 loose w := by
  intro os
  kernel_rfl
theorem ex_get {K : PySem.W.Frag} (h : ex K = true) (i : Nat) {b : Bool} (e : (exL K)[i]? = some b := by rfl) : b = true := List.all_eq_true.mp h b (List.mem_of_getElem? e)
/-- the text as the top leaves it -/
structure TxF (K : PySem.W.Frag) (mg : PySem.Str → Option Value) (T : Tx K mg) : Prop where
  code_law : T.law.fd.code = .ref (He.cT K ("law", none)).1
  code_in_order : T.in_order.fd.code = .ref (He.cT K ("in_order", none)).1
  law_f : T.law.f = He.ga K "law"
  C_BadMachine : T.e_BadMachine.C = He.ga K "BadMachine"
  C_BadOther : T.e_BadOther.C = He.ga K "BadOther"
  C_BadWord : T.e_BadWord.C = He.ga K "BadWord"
  C_BadWords : T.e_BadWords.C = He.ga K "BadWords"
  C_BadRows : T.e_BadRows.C = He.ga K "BadRows"
  C_BadLetters : T.e_BadLetters.C = He.ga K "BadLetters"
  C_BadLength : T.e_BadLength.C = He.ga K "BadLength"
  C_BadNumber : T.e_BadNumber.C = He.ga K "BadNumber"
  C_BadMany : T.e_BadMany.C = He.ga K "BadMany"
  C_TooMany : T.e_TooMany.C = He.ga K "TooMany"
theorem code_of {K : PySem.W.Frag} {x q : PySem.Str} {ps : Arguments} {bd : List Stmt} {sc : Scope} {dvs : List V} {kws : List (PySem.Str × V)} {p : He.Defn} {fd : FuncData} (F : FunD K x q ps bd sc dvs kws (He.fAd K p) fd) : fd.code = .ref (He.cT K p).1 := by
  obtain ⟨oc, od, dV, kV, doc, pm, an, cdv, ct, osl, e, lk, hcd, _, _⟩ := F.ex
  obtain ⟨c, rfl⟩ := He.codeIn_ref hcd
  have e2 : fd.code = .ref c := by rw [e] <;> rfl
  have e3 := He.codeOf_eq lk e2
  show fd.code = .ref (He.codeOf K p)
  rw [e3]
  exact e2
theorem facts {w : World} {K : PySem.W.Frag} {h : Heap} {mg : PySem.Str → Option Value} (X : K.In h) (G : h.Ns mainGlobals mg) (c : He.SaysX fa fn [] tf ex w h K) : ∃ T : Tx K mg, TxF K mg T := by
  have cd : He.SaysD fa fn K := c.t.d
  obtain ⟨fd_is_plain, F_is_plain⟩ := cd.def_ 10 (d := d_is_plain) rfl
  obtain ⟨fd_need_plain, F_need_plain⟩ := cd.def_ 11 (d := d_need_plain) rfl
  obtain ⟨fd_places_in, F_places_in⟩ := cd.def_ 12 (d := d_places_in) rfl
  obtain ⟨fd_is_in, F_is_in⟩ := cd.def_ 13 (d := d_is_in) rfl
  obtain ⟨fd_need_words, F_need_words⟩ := cd.def_ 14 (d := d_need_words) rfl
  obtain ⟨fd_in_order, F_in_order⟩ := cd.def_ 15 (d := d_in_order) rfl
  obtain ⟨fd_least_plain, F_least_plain⟩ := cd.def_ 16 (d := d_least_plain) rfl
  obtain ⟨fd_least_words, F_least_words⟩ := cd.def_ 17 (d := d_least_words) rfl
  obtain ⟨fd_is_above, F_is_above⟩ := cd.def_ 18 (d := d_is_above) rfl
  obtain ⟨fd_law_start, F_law_start⟩ := cd.def_ 19 (d := d_law_start) rfl
  obtain ⟨fd_law_below, F_law_below⟩ := cd.def_ 20 (d := d_law_below) rfl
  obtain ⟨fd_law_chance, F_law_chance⟩ := cd.def_ 21 (d := d_law_chance) rfl
  obtain ⟨fd_law_pick, F_law_pick⟩ := cd.def_ 22 (d := d_law_pick) rfl
  obtain ⟨fd_law_mixed, F_law_mixed⟩ := cd.def_ 23 (d := d_law_mixed) rfl
  obtain ⟨fd_law_copied, F_law_copied⟩ := cd.def_ 24 (d := d_law_copied) rfl
  obtain ⟨fd_law_same, F_law_same⟩ := cd.def_ 25 (d := d_law_same) rfl
  obtain ⟨fd_law_loose, F_law_loose⟩ := cd.def_ 26 (d := d_law_loose) rfl
  obtain ⟨fd_law_spoilt, F_law_spoilt⟩ := cd.def_ 27 (d := d_law_spoilt) rfl
  obtain ⟨fd_law_is_once, F_law_is_once⟩ := cd.def_ 28 (d := d_law_is_once) rfl
  obtain ⟨fd_law_apart, F_law_apart⟩ := cd.def_ 29 (d := d_law_apart) rfl
  obtain ⟨fd_law_bletters, F_law_bletters⟩ := cd.def_ 30 (d := d_law_bletters) rfl
  obtain ⟨fd_law_blies, F_law_blies⟩ := cd.def_ 31 (d := d_law_blies) rfl
  obtain ⟨fd_law_border, F_law_border⟩ := cd.def_ 32 (d := d_law_border) rfl
  obtain ⟨fd_law_bleast, F_law_bleast⟩ := cd.def_ 33 (d := d_law_bleast) rfl
  obtain ⟨fd_law_bword, F_law_bword⟩ := cd.def_ 34 (d := d_law_bword) rfl
  obtain ⟨fd_law_braised, F_law_braised⟩ := cd.def_ 35 (d := d_law_braised) rfl
  obtain ⟨fd_law_bbad, F_law_bbad⟩ := cd.def_ 36 (d := d_law_bbad) rfl
  obtain ⟨fd_law, F_law⟩ := cd.def_ 37 (d := d_law) rfl
  obtain ⟨fd_BadMachine, F_BadMachine⟩ := cd.def_ 2 (d := d_BadMachine_init) rfl
  have g_BadMachine := He.glo_ok X G (cd.fact 3 (f := .glo "BadMachine") rfl)
  obtain ⟨fd_BadOther, F_BadOther⟩ := cd.def_ 5 (d := d_BadOther_init) rfl
  have g_BadOther := He.glo_ok X G (cd.fact 6 (f := .glo "BadOther") rfl)
  obtain ⟨fd_BadWord, F_BadWord⟩ := cd.def_ 7 (d := d_BadWord_init) rfl
  have g_BadWord := He.glo_ok X G (cd.fact 8 (f := .glo "BadWord") rfl)
  obtain ⟨fd_BadWords, F_BadWords⟩ := cd.def_ 8 (d := d_BadWords_init) rfl
  have g_BadWords := He.glo_ok X G (cd.fact 9 (f := .glo "BadWords") rfl)
  obtain ⟨fd_BadRows, F_BadRows⟩ := cd.def_ 6 (d := d_BadRows_init) rfl
  have g_BadRows := He.glo_ok X G (cd.fact 7 (f := .glo "BadRows") rfl)
  obtain ⟨fd_BadLetters, F_BadLetters⟩ := cd.def_ 1 (d := d_BadLetters_init) rfl
  have g_BadLetters := He.glo_ok X G (cd.fact 2 (f := .glo "BadLetters") rfl)
  obtain ⟨fd_BadLength, F_BadLength⟩ := cd.def_ 0 (d := d_BadLength_init) rfl
  have g_BadLength := He.glo_ok X G (cd.fact 1 (f := .glo "BadLength") rfl)
  obtain ⟨fd_BadNumber, F_BadNumber⟩ := cd.def_ 4 (d := d_BadNumber_init) rfl
  have g_BadNumber := He.glo_ok X G (cd.fact 5 (f := .glo "BadNumber") rfl)
  obtain ⟨fd_BadMany, F_BadMany⟩ := cd.def_ 3 (d := d_BadMany_init) rfl
  have g_BadMany := He.glo_ok X G (cd.fact 4 (f := .glo "BadMany") rfl)
  obtain ⟨fd_TooMany, F_TooMany⟩ := cd.def_ 9 (d := d_TooMany_init) rfl
  have g_TooMany := He.glo_ok X G (cd.fact 10 (f := .glo "TooMany") rfl)
  exact ⟨{ is_plain := ⟨_, fd_is_plain, F_is_plain, He.glo_ok X G (cd.fact 11 (f := .glo "is_plain") rfl)⟩, need_plain := ⟨_, fd_need_plain, F_need_plain, He.glo_ok X G (cd.fact 12 (f := .glo "need_plain") rfl)⟩, places_in := ⟨_, fd_places_in, F_places_in, He.glo_ok X G (cd.fact 13 (f := .glo "places_in") rfl)⟩, is_in := ⟨_, fd_is_in, F_is_in, He.glo_ok X G (cd.fact 14 (f := .glo "is_in") rfl)⟩, need_words := ⟨_, fd_need_words, F_need_words, He.glo_ok X G (cd.fact 15 (f := .glo "need_words") rfl)⟩, in_order := ⟨_, fd_in_order, F_in_order, He.glo_ok X G (cd.fact 16 (f := .glo "in_order") rfl)⟩, least_plain := ⟨_, fd_least_plain, F_least_plain, He.glo_ok X G (cd.fact 17 (f := .glo "least_plain") rfl)⟩, least_words := ⟨_, fd_least_words, F_least_words, He.glo_ok X G (cd.fact 18 (f := .glo "least_words") rfl)⟩, is_above := ⟨_, fd_is_above, F_is_above, He.glo_ok X G (cd.fact 19 (f := .glo "is_above") rfl)⟩, law_start := ⟨_, fd_law_start, F_law_start, He.glo_ok X G (cd.fact 20 (f := .glo "_law_start") rfl)⟩, law_below := ⟨_, fd_law_below, F_law_below, He.glo_ok X G (cd.fact 21 (f := .glo "_law_below") rfl)⟩, law_chance := ⟨_, fd_law_chance, F_law_chance, He.glo_ok X G (cd.fact 22 (f := .glo "_law_chance") rfl)⟩, law_pick := ⟨_, fd_law_pick, F_law_pick, He.glo_ok X G (cd.fact 23 (f := .glo "_law_pick") rfl)⟩, law_mixed := ⟨_, fd_law_mixed, F_law_mixed, He.glo_ok X G (cd.fact 24 (f := .glo "_law_mixed") rfl)⟩, law_copied := ⟨_, fd_law_copied, F_law_copied, He.glo_ok X G (cd.fact 25 (f := .glo "_law_copied") rfl)⟩, law_same := ⟨_, fd_law_same, F_law_same, He.glo_ok X G (cd.fact 26 (f := .glo "_law_same") rfl)⟩, law_loose := ⟨_, fd_law_loose, F_law_loose, He.glo_ok X G (cd.fact 27 (f := .glo "_law_loose") rfl)⟩, law_spoilt := ⟨_, fd_law_spoilt, F_law_spoilt, He.glo_ok X G (cd.fact 28 (f := .glo "_law_spoilt") rfl)⟩, law_is_once := ⟨_, fd_law_is_once, F_law_is_once, He.glo_ok X G (cd.fact 29 (f := .glo "_law_is_once") rfl)⟩, law_apart := ⟨_, fd_law_apart, F_law_apart, He.glo_ok X G (cd.fact 30 (f := .glo "_law_apart") rfl)⟩, law_bletters := ⟨_, fd_law_bletters, F_law_bletters, He.glo_ok X G (cd.fact 31 (f := .glo "_law_bletters") rfl)⟩, law_blies := ⟨_, fd_law_blies, F_law_blies, He.glo_ok X G (cd.fact 32 (f := .glo "_law_blies") rfl)⟩, law_border := ⟨_, fd_law_border, F_law_border, He.glo_ok X G (cd.fact 33 (f := .glo "_law_border") rfl)⟩, law_bleast := ⟨_, fd_law_bleast, F_law_bleast, He.glo_ok X G (cd.fact 34 (f := .glo "_law_bleast") rfl)⟩, law_bword := ⟨_, fd_law_bword, F_law_bword, He.glo_ok X G (cd.fact 35 (f := .glo "_law_bword") rfl)⟩, law_braised := ⟨_, fd_law_braised, F_law_braised, He.glo_ok X G (cd.fact 36 (f := .glo "_law_braised") rfl)⟩, law_bbad := ⟨_, fd_law_bbad, F_law_bbad, He.glo_ok X G (cd.fact 37 (f := .glo "_law_bbad") rfl)⟩, law := ⟨_, fd_law, F_law, He.glo_ok X G (cd.fact 38 (f := .glo "law") rfl)⟩, c_SMALL := He.str_ok X G (cd.fact 52 (f := .str "SMALL" "abcdefghijklmnopqrstuvwxyz") rfl), c_LONGEST := He.int_ok X G (cd.fact 53 (f := .int "LONGEST" 200) rfl), c_WORDS := He.int_ok X G (cd.fact 54 (f := .int "WORDS" 200) rfl), n_isinstance := He.free_ok X G (cd.fact 39 (f := .free "isinstance") rfl), n_list := He.free_ok X G (cd.fact 40 (f := .free "list") rfl), n_tuple := He.free_ok X G (cd.fact 41 (f := .free "tuple") rfl), n_dict := He.free_ok X G (cd.fact 42 (f := .free "dict") rfl), n_int := He.free_ok X G (cd.fact 43 (f := .free "int") rfl), n_str := He.free_ok X G (cd.fact 44 (f := .free "str") rfl), n_bool := He.free_ok X G (cd.fact 45 (f := .free "bool") rfl), n_len := He.free_ok X G (cd.fact 46 (f := .free "len") rfl), n_sorted := He.free_ok X G (cd.fact 47 (f := .free "sorted") rfl), n_all := He.free_ok X G (cd.fact 48 (f := .free "all") rfl), n_range := He.free_ok X G (cd.fact 49 (f := .free "range") rfl), n_zip := He.free_ok X G (cd.fact 50 (f := .free "zip") rfl), n_enumerate := He.free_ok X G (cd.fact 51 (f := .free "enumerate") rfl), e_BadMachine := ⟨He.ga K "BadMachine", _, Er_thing.errB_ok (ex_get c.more 0) g_BadMachine F_BadMachine⟩, e_BadOther := ⟨He.ga K "BadOther", _, Er_thing.errB_ok (ex_get c.more 1) g_BadOther F_BadOther⟩, e_BadWord := ⟨He.ga K "BadWord", _, Er_thing.errB_ok (ex_get c.more 2) g_BadWord F_BadWord⟩, e_BadWords := ⟨He.ga K "BadWords", _, Er_index.errB_ok (ex_get c.more 3) g_BadWords F_BadWords⟩, e_BadRows := ⟨He.ga K "BadRows", _, Er_index.errB_ok (ex_get c.more 4) g_BadRows F_BadRows⟩, e_BadLetters := ⟨He.ga K "BadLetters", _, Er_thing.errB_ok (ex_get c.more 5) g_BadLetters F_BadLetters⟩, e_BadLength := ⟨He.ga K "BadLength", _, Er_thing.errB_ok (ex_get c.more 6) g_BadLength F_BadLength⟩, e_BadNumber := ⟨He.ga K "BadNumber", _, Er_thing.errB_ok (ex_get c.more 7) g_BadNumber F_BadNumber⟩, e_BadMany := ⟨He.ga K "BadMany", _, Er_thing.errB_ok (ex_get c.more 8) g_BadMany F_BadMany⟩, e_TooMany := ⟨He.ga K "TooMany", _, Er_many.errB_ok (ex_get c.more 9) g_TooMany F_TooMany⟩ },
    ⟨code_of F_law, code_of F_in_order, rfl, rfl, rfl, rfl, rfl, rfl, rfl, rfl, rfl, rfl, rfl⟩⟩
end Lo
set_option Elab.async false
set_option linter.all false
set_option maxRecDepth 100000
set_option maxHeartbeats 0
namespace Lo
open PySem PySem.Spec PyProof.Rows L2
theorem ok_none {P : Program} {w : World} {K : PySem.W.Frag} {mg : PySem.Str → Option Value} {base : Heap} {CX : CXT} {k : Nat} {f : Addr} {fd : FuncData} {ps : List PySem.Str} {sp : Sp} (h : ∀ vs H Q E, ¬ sp vs H Q E) : FnOk P w K mg base CX k f fd ps sp :=
  ⟨fun vs H Q E z => (h vs H Q E z).elim, fun _ _ _ _ _ _ _ _ _ _ _ _ _ z => (h _ _ _ _ z).elim⟩
section
variable {P : Program} {w : World} {K : PySem.W.Frag} {mg : PySem.Str → Option Value} {base : Heap} {Ts : List (Addr × PySem.Str)}
theorem G_law_copied (T : Tx K mg) : ∀ n : Nat, Nonempty (FnA P w K mg base CX0 (n + 1) "_law_copied" ["thing"] (sp_copied Ts n))
  | 0 => ⟨a_law_copied T (ok_none (fun vs H Q E ⟨_, _, _, _, _, _, hd, _⟩ => Nat.not_lt_zero _ hd))⟩
  | n + 1 => (G_law_copied T n).elim fun g => ⟨a_law_copied T (ok_law_copied T (k := n + 1) g (Nat.le_refl _) (fun vs H Q E ⟨_, _, _, e, _⟩ => by rw [e]; rfl) (hp_copied (K := K)))⟩
theorem G_law_same (T : Tx K mg) : ∀ n : Nat, Nonempty (FnA P w K mg base CX0 (n + 1) "_law_same" ["found", "due"] (sp_same Ts n))
  | 0 => ⟨a_law_same T (ok_none (fun vs H Q E ⟨_, _, _, _, _, _, _, _, _, hd, _⟩ => Nat.not_lt_zero _ hd))⟩
  | n + 1 => (G_law_same T n).elim fun g => ⟨a_law_same T (ok_law_same T (k := n + 1) g (Nat.le_refl _) (fun vs H Q E ⟨_, _, _, _, _, e, _⟩ => by rw [e]; rfl) (hp_same (K := K)))⟩
theorem G_law_spoilt (T : Tx K mg) : ∀ n : Nat, Nonempty (FnA P w K mg base CX0 (n + 1) "_law_spoilt" ["thing"] (sp_spoilt Ts n))
  | 0 => ⟨a_law_spoilt T (ok_none (fun vs H Q E ⟨_, _, _, _, _, _, hd, _⟩ => Nat.not_lt_zero _ hd))⟩
  | n + 1 => (G_law_spoilt T n).elim fun g => ⟨a_law_spoilt T (ok_law_spoilt T (k := n + 1) g (Nat.le_refl _) (fun vs H Q E ⟨_, _, _, e, _⟩ => by rw [e]; rfl) (hp_spoilt (K := K)))⟩
theorem G_law_is_once (T : Tx K mg) : ∀ n : Nat, Nonempty (FnA P w K mg base CX0 (n + 1) "_law_is_once" ["thing"] (sp_is_once Ts n))
  | 0 => ⟨a_law_is_once T (ok_none (fun vs H Q E ⟨_, _, _, _, _, _, _, _, hd, _⟩ => Nat.not_lt_zero _ hd))⟩
  | n + 1 => (G_law_is_once T n).elim fun g => ⟨a_law_is_once T (ok_law_is_once T (k := n + 1) g (Nat.le_refl _) (fun vs H Q E ⟨_, _, _, e, _⟩ => by rw [e]; rfl) (hp_is_once (K := K)))⟩
/-- all the promises, one behind the other -/
theorem all_ok (T : Tx K mg) (F : TxF K mg T) (hx : ex K = true) (TB1 : LamX.TabB base mg (He.cT K ("law", none)).1 (He.cT K ("law", none)).2) (TB2 : LamX.TabB base mg (He.cT K ("in_order", none)).1 (He.cT K ("in_order", none)).2)
    (hT : Ts = [((He.cT K ("law", none)).2, (("law" : PySem.Str) ++ (".<locals>." : PySem.Str)) ++ ("<lambda>" : PySem.Str)), ((He.cT K ("in_order", none)).2, (("in_order" : PySem.Str) ++ (".<locals>." : PySem.Str)) ++ ("<lambda>" : PySem.Str))]) :
    FnOk P w K mg base CX0 13 T.law.f T.law.fd ["script"] (sp_law Ts K) := by
  have n1 : (He.cT K ("law", none)).2 ≠ (He.cT K ("in_order", none)).2 := of_decide_eq_true (ex_get hx 12)
  have G_is_plain := a_is_plain (P := P) (w := w) (base := base) T (ok_is_plain T (k := 0)  (sp := sp_is_plain Ts) (fun vs H Q E ⟨_, _, _, e, _⟩ => by rw [e]; rfl) (hp_is_plain (K := K)))
  have G_need_plain := a_need_plain (P := P) (w := w) (base := base) T (ok_need_plain T (k := 1) G_is_plain (by omega) (sp := sp_need_plain Ts T.e_BadWord.C) (fun vs H Q E ⟨_, _, _, e, _⟩ => by rw [e]; rfl) (hp_need_plain (K := K)))
  have G_places_in := a_places_in (P := P) (w := w) (base := base) T (ok_places_in T (k := 0)  (sp := sp_places Ts) (fun vs H Q E ⟨_, _, e, _⟩ => by rw [e]; rfl) (hp_places (K := K)))
  have G_is_in := a_is_in (P := P) (w := w) (base := base) T (ok_is_in T (k := 1) G_places_in (by omega) (sp := sp_is_in Ts) (fun vs H Q E ⟨_, _, e, _⟩ => by rw [e]; rfl) (hp_is_in (K := K)))
  have G_need_words := a_need_words (P := P) (w := w) (base := base) T (ok_need_words T (k := 1) G_is_plain (by omega) (sp := sp_need_words Ts T.e_BadWords.C) (fun vs H Q E ⟨_, _, _, e, _⟩ => by rw [e]; rfl) (hp_need_words (K := K)))
  have m2 : ((He.cT K ("in_order", none)).2, (("in_order" : PySem.Str) ++ (".<locals>." : PySem.Str)) ++ ("<lambda>" : PySem.Str)) ∈ Ts := by rw [hT]; exact List.mem_cons_of_mem _ (List.mem_cons_self ..)
  have m1 : ((He.cT K ("law", none)).2, (("law" : PySem.Str) ++ (".<locals>." : PySem.Str)) ++ ("<lambda>" : PySem.Str)) ∈ Ts := by rw [hT]; exact List.mem_cons_self ..
  have u2 : ∀ q ∈ Ts, q.1 = (He.cT K ("in_order", none)).2 → q.2 = (("in_order" : PySem.Str) ++ (".<locals>." : PySem.Str)) ++ ("<lambda>" : PySem.Str) := fun q hq e => by
    rw [hT] at hq
    rcases List.mem_cons.mp hq with h | h
    · rw [h] at e
      exact (n1 e).elim
    · rw [List.mem_singleton.mp h]
  have u1 : ∀ q ∈ Ts, q.1 = (He.cT K ("law", none)).2 → q.2 = (("law" : PySem.Str) ++ (".<locals>." : PySem.Str)) ++ ("<lambda>" : PySem.Str) := fun q hq e => by
    rw [hT] at hq
    rcases List.mem_cons.mp hq with h | h
    · rw [h]
    · rw [List.mem_singleton.mp h] at e
      exact (n1 e.symm).elim
  have G_in_order := a_in_order (P := P) (w := w) (base := base) T (ok_in_order T (k := 0) TB2 F.code_in_order m2 u2  (sp := sp_in_order Ts) (fun vs H Q E ⟨_, _, e, _⟩ => by rw [e]; rfl) (hp_in_order (K := K)))
  have G_least_plain := a_least_plain (P := P) (w := w) (base := base) T (ok_least_plain T (k := 2) G_in_order (by omega) G_is_in (by omega) (sp := sp_least_plain Ts) (fun vs H Q E ⟨_, _, e, _⟩ => by rw [e]; rfl) (hp_least_plain (K := K)))
  have G_least_words := a_least_words (P := P) (w := w) (base := base) T (ok_least_words T (k := 3) G_least_plain (by omega) G_need_words (by omega) (sp := sp_least_words Ts T.e_BadWords.C) (fun vs H Q E ⟨_, _, _, e, _⟩ => by rw [e]; rfl) (hp_least_words (K := K)))
  have G_is_above := a_is_above (P := P) (w := w) (base := base) T (ok_is_above T (k := 2) G_need_words (by omega) G_need_plain (by omega) G_is_in (by omega) (sp := sp_is_above Ts T.e_BadWords.C T.e_BadWord.C) (fun vs H Q E ⟨_, _, _, _, _, _, e, _⟩ => by rw [e]; rfl) (hp_is_above (K := K)))
  have G_law_start := a_law_start (P := P) (w := w) (base := base) T (ok_law_start T (k := 0)  (sp := sp_start Ts K) (fun vs H Q E ⟨_, _, e, _⟩ => by rw [e]; rfl) (hp_start (K := K)))
  have G_law_below := a_law_below (P := P) (w := w) (base := base) T (ok_law_below T (k := 0)  (sp := sp_below Ts) (fun vs H Q E ⟨_, _, _, _, e, _⟩ => by rw [e]; rfl) (hp_below (K := K)))
  have G_law_chance := a_law_chance (P := P) (w := w) (base := base) T (ok_law_chance T (k := 1) G_law_below (by omega) (sp := sp_chance Ts) (fun vs H Q E ⟨_, _, _, _, e, _⟩ => by rw [e]; rfl) (hp_chance (K := K)))
  have G_law_pick := a_law_pick (P := P) (w := w) (base := base) T (ok_law_pick T (k := 1) G_law_below (by omega) (sp := sp_pick Ts) (fun vs H Q E ⟨_, _, _, _, _, e, _⟩ => by rw [e]; rfl) (hp_pick (K := K)))
  have G_law_mixed := a_law_mixed (P := P) (w := w) (base := base) T (ok_law_mixed T (k := 1) G_law_below (by omega) (sp := sp_mixed Ts) (fun vs H Q E ⟨_, _, _, _, _, e, _⟩ => by rw [e]; rfl) (hp_mixed (K := K)))
  obtain ⟨G_copied⟩ := G_law_copied (P := P) (w := w) (base := base) (Ts := Ts) T 8
  obtain ⟨G_same⟩ := G_law_same (P := P) (w := w) (base := base) (Ts := Ts) T 8
  obtain ⟨G_spoilt⟩ := G_law_spoilt (P := P) (w := w) (base := base) (Ts := Ts) T 8
  obtain ⟨G_once⟩ := G_law_is_once (P := P) (w := w) (base := base) (Ts := Ts) T 8
  have G_no : FnA P w K mg base CX0 0 "_law_loose" ["stream", "thing"] (fun _ _ _ _ => False) := a_law_loose T (ok_none fun _ _ _ _ z => z)
  have G_loose0 := a_law_loose (P := P) (w := w) (base := base) T (ok_law_loose T (k := 2) G_no (by omega) G_law_mixed (by omega) G_law_below (by omega) (sp := sp_loose0 Ts) (fun vs H Q E ⟨_, _, e, _⟩ => by rw [e]; rfl) (hp_loose0 (K := K)))
  have G_loose := a_law_loose (P := P) (w := w) (base := base) T (ok_law_loose T (k := 3) G_loose0 (by omega) G_law_mixed (by omega) G_law_below (by omega) (sp := sp_loose Ts) (fun vs H Q E ⟨_, _, _, _, _, e, _⟩ => by rw [e]; rfl) (hp_loose (K := K)))
  have G_law_apart := a_law_apart (P := P) (w := w) (base := base) T (ok_law_apart T (k := 9) G_spoilt (by omega) G_once (by omega) (sp := sp_apart Ts) (fun vs H Q E ⟨_, _, _, e, _⟩ => by rw [e]; rfl) (hp_apart (K := K)))
  have G_law_bletters := a_law_bletters (P := P) (w := w) (base := base) T (ok_law_bletters T (k := 2) G_law_mixed (by omega) (sp := sp_bletters Ts) (fun vs H Q E ⟨_, _, _, _, e, _⟩ => by rw [e]; rfl) (hp_bletters (K := K)))
  have G_law_blies := a_law_blies (P := P) (w := w) (base := base) T (ok_law_blies T (k := 0)  (sp := sp_blies Ts) (fun vs H Q E ⟨_, _, e, _⟩ => by rw [e]; rfl) (hp_blies (K := K)))
  have G_law_border := a_law_border (P := P) (w := w) (base := base) T (ok_law_border T (k := 0)  (sp := sp_border Ts) (fun vs H Q E ⟨_, _, e, _⟩ => by rw [e]; rfl) (hp_border (K := K)))
  have G_law_bleast := a_law_bleast (P := P) (w := w) (base := base) T (ok_law_bleast T (k := 1) G_law_border (by omega) G_law_blies (by omega) (sp := sp_bleast Ts) (fun vs H Q E ⟨_, _, e, _⟩ => by rw [e]; rfl) (hp_bleast (K := K)))
  have G_law_bword := a_law_bword (P := P) (w := w) (base := base) T (ok_law_bword T (k := 2) G_law_pick (by omega) G_law_below (by omega) (sp := sp_bword Ts) (fun vs H Q E ⟨_, _, _, _, _, _, e, _⟩ => by rw [e]; rfl) (hp_bword (K := K)))
  have G_law_bbad := a_law_bbad (P := P) (w := w) (base := base) T (ok_law_bbad T (k := 2) G_law_pick (by omega) G_law_chance (by omega) G_law_below (by omega) (sp := sp_bbad Ts) (fun vs H Q E ⟨_, _, _, _, _, e, _⟩ => by rw [e]; rfl) (hp_bbad (K := K)))
  have cx : ClX K T.brCl T.e_BadWords.C T.e_BadWord.C := by
    have x1 := ex_get hx 10
    have x2 := ex_get hx 11
    unfold exC at x1 x2
    rw [Bool.and_eq_true] at x1 x2
    have y1 := List.all_eq_true.mp x1.1
    have y2 := List.all_eq_true.mp x2.1
    refine ⟨⟨[(T.e_BadMachine.C, "machine", "thing"), (T.e_BadOther.C, "other", "thing"), (T.e_BadWord.C, "word", "thing")], _, rfl, fun r hr => ?_⟩, ⟨[(T.e_BadMachine.C, "machine", "thing"), (T.e_BadOther.C, "other", "thing")], _, rfl, fun r hr => ?_⟩, ?_, ?_⟩
    · simp only [List.mem_cons, List.not_mem_nil, or_false] at hr
      rw [F.C_BadWords]
      rcases hr with rfl | rfl | rfl
      · show PySem.W.exmOne K _ (.ref T.e_BadMachine.C) = _
        rw [F.C_BadMachine]
        exact of_decide_eq_true (y1 "BadMachine" (by simp))
      · show PySem.W.exmOne K _ (.ref T.e_BadOther.C) = _
        rw [F.C_BadOther]
        exact of_decide_eq_true (y1 "BadOther" (by simp))
      · show PySem.W.exmOne K _ (.ref T.e_BadWord.C) = _
        rw [F.C_BadWord]
        exact of_decide_eq_true (y1 "BadWord" (by simp))
    · simp only [List.mem_cons, List.not_mem_nil, or_false] at hr
      rw [F.C_BadWord]
      rcases hr with rfl | rfl
      · show PySem.W.exmOne K _ (.ref T.e_BadMachine.C) = _
        rw [F.C_BadMachine]
        exact of_decide_eq_true (y2 "BadMachine" (by simp))
      · show PySem.W.exmOne K _ (.ref T.e_BadOther.C) = _
        rw [F.C_BadOther]
        exact of_decide_eq_true (y2 "BadOther" (by simp))
    · rw [F.C_BadWords]
      exact of_decide_eq_true x1.2
    · rw [F.C_BadWord]
      exact of_decide_eq_true x2.2
  exact ok_law T (k := 12) (kl := 10) TB1 F.code_law m1 u1 (by omega) G_law_start (by omega) G_law_bletters (by omega) G_law_below (by omega) G_law_bword (by omega) G_law_chance (by omega) G_law_bleast (by omega) G_loose (by omega) G_copied (by omega) G_least_words (by omega) G_same (by omega) G_law_apart (by omega) G_law_mixed (by omega) G_law_blies (by omega) G_is_above (by omega) G_law_bbad (by omega) G_law_pick (by omega) (sp := sp_law Ts K) (fun vs H Q E ⟨_, _, e, _⟩ => by rw [e]; rfl) (hp_law cx)
end
end Lo
open PySem PySem.W PySem.Calls PyProof.Rows
theorem PySem.Challenge.cw_lostletters_k43_least_words_holds : PySem.Challenge.rw_lostletters_k43_least_words.Holds := by
  w_on; o_law
  refine HandSHeadRun.head_any (r := Lo.R) (q := view Lo.R.prog [45]) (H := Lo.hk) (ob := Lo.ob) (M := 4000) (loose := Lo.loose) (d := HandSHeadRun.topDef Lo.R.prog 45) (kwd := []) Lo.ob_eq
    (by kernel_rfl) (fun s => by kernel_rfl) Lo.run (by kernel_rfl) (by kernel_rfl) (by kernel_rfl) (by rfl) (by first | assumption | decide +kernel) (by decide +kernel) ⟨rfl, rfl, rfl, rfl, rfl, by decide +kernel⟩ ?hw ?hc
  case hw => w_witness2
  case hc =>
    refine LamX.walk_ofTsE (l := Lo.RL) (n := 63) (k := 13) (x := "script") (CX := fun _ => L2.CX0) rfl (by decide) (by kernel_rfl) ⟨rfl, by decide, by decide⟩ ?F (fun _ _ _ _ _ z => z)
    intro w mg fa h Y G hmg0
    obtain ⟨K, KX, c⟩ := Y
    obtain ⟨T, F⟩ := Lo.facts KX G c
    have hmg : mg ("law" : PySem.Str) = some (.ref fa) := by
      have e : (HandSHeadRun.topDef Lo.R.prog 45).name = ("law" : PySem.Str) := by kernel_rfl
      rw [← e]
      exact hmg0
    have efa : fa = T.law.f := by
      have := hmg.symm.trans T.law.g
      cases this
      rfl
    subst efa
    have b := L2.FunD.bindsA (ps := ["script"]) T.law.F fun _ _ _ _ _ _ us hl => match us, hl with | [_], _ => rfl
    refine ⟨K, KX, T.law.fd, Lo.tf.map (He.cT K), Lo.sp_law [((He.cT K ("law", none)).2, (("law" : PySem.Str) ++ (".<locals>." : PySem.Str)) ++ ("<lambda>" : PySem.Str)), ((He.cT K ("in_order", none)).2, (("in_order" : PySem.Str) ++ (".<locals>." : PySem.Str)) ++ ("<lambda>" : PySem.Str))] K, ?_, ?_, ?_, fun s v => b s [v] rfl, ?_, ?_⟩
    · intro p hp
      obtain ⟨q, hq, rfl⟩ := List.mem_map.mp hp
      exact c.empty q hq
    · intro p hp
      obtain ⟨q, hq, rfl⟩ := List.mem_map.mp hp
      exact c.out q hq
    · intro p hp
      obtain ⟨q, hq, rfl⟩ := List.mem_map.mp hp
      exact PySem.W.codeHd_of_K KX (c.hd q hq)
    · intro H a ns _ _ hH hS
      refine ⟨a, ns, rfl, hS, fun p hp => ?_, fun _ => rfl⟩
      rcases List.mem_cons.mp hp with rfl | hp
      · exact LamX.TabS.nil (hH (He.cT K ("law", none)) (List.mem_map.mpr ⟨("law", none), by simp [Lo.tf], rfl⟩))
      · rw [List.mem_singleton.mp hp]
        exact LamX.TabS.nil (hH (He.cT K ("in_order", none)) (List.mem_map.mpr ⟨("in_order", none), by simp [Lo.tf], rfl⟩))
    · intro base _ _ TB
      exact Lo.all_ok T F c.more (TB _ (List.mem_map.mpr ⟨("law", none), by simp [Lo.tf], rfl⟩)) (TB _ (List.mem_map.mpr ⟨("in_order", none), by simp [Lo.tf], rfl⟩)) rfl
