import PyProof.Rows.All
import Wide.All
import OpenK.AllK
import Wide.FinOn
import HandS.ForMost
import HandS.ForExc
import HandS.IsInst
import HandS.Zip
import HandS.More
import KE.RegKIsAll
import HandS.Style
import HandS.TryMany
import HandS.Conv
import HandS.SortInts
import HandS.ExcIs
import HandS.Defaults
import HandS.RaiseMore
import KE.KUnpackStar
import HandS.CallLocal
import HandS.Deep
import HandS.Wide
import HandS.Small
import HandS.DictComp
import HandS.Text
import HandS.Strs
import KE.IntTextText
import PySem.Challenge.RW_hindstep_k05_bounds_of_sums
set_option Elab.async false
set_option linter.all false
set_option maxRecDepth 100000
set_option maxHeartbeats 4000000
/-! U: rules that ask no kind of their parts (the union of the layer's), and steps that read them. Own text. -/
namespace L2.U
open PySem PySem.Spec PyProof.Rows
/-! ### unions -/
section
variable {X : Cx}
def rAddU (K : PySem.W.Frag) : R2 := fun x y H Q => rI0 (fun i j => .int (i + j)) x y H Q ∨ (∃ i j, x = .str i ∧ y = .str j ∧ i.length + j.length ≤ sizeLine ∧ Q (.str (i ++ j)) H) ∨ rCat x y H Q ∨ rCatT K x y H Q
theorem o_add {K : PySem.W.Frag} (h : X.K = K := by rfl) : OpR X (binaryOp .Add) (rAddU K) := h ▸ op_add.or (op_add_str.or (op_cat.or op_catT))
def rMulU : R2 := fun x y H Q => rI CMul (fun i j => .int (i * j)) x y H Q ∨ rRep x y H Q
theorem o_mul : OpR X (binaryOp .Mult) rMulU := op_mul.or op_rep
def rSubU : R2 := rI0 (fun i j => .int (i - j))
theorem o_sub : OpR X (binaryOp .Sub) rSubU := op_sub
def rDivU : R2 := rI CDivN fun i j => .int (i.fdiv j)
theorem o_div : OpR X (binaryOp .FloorDiv) rDivU := op_fdivN
def rModU : R2 := rI (fun _ j => j ≠ 0) fun i j => .int (i.fmod j)
theorem o_mod : OpR X (binaryOp .Mod) rModU := op_modN
def rPowU : R2 := rI CPow fun i j => .int (i ^ j.toNat)
theorem o_pow : OpR X (binaryOp .Pow) rPowU := op_pow
def rEqU (K : PySem.W.Frag) : R2 := fun x y H Q => rEq x y H Q ∨ rEqD K x y H Q
theorem o_eq {K : PySem.W.Frag} (hu : X.A.units + 64 < cLine) (h : X.K = K := by rfl) : OpR X (compareOp .Eq) (rEqU K) := h ▸ op_eq.or (op_eqD hu)
def rNeU (K : PySem.W.Frag) : R2 := fun x y H Q => rNe x y H Q ∨ rNeD K x y H Q
theorem o_ne {K : PySem.W.Frag} (hu : X.A.units + 64 < cLine) (h : X.K = K := by rfl) : OpR X (compareOp .NotEq) (rNeU K) := h ▸ op_ne.or (op_neD hu)
def rLtU : R2 := rI0 fun i j => .bl (decide (i < j))
theorem o_lt : OpR X (compareOp .Lt) rLtU := op_lt
def rLeU : R2 := rI0 fun i j => .bl (decide (i ≤ j))
theorem o_le : OpR X (compareOp .LtE) rLeU := op_le
def rGtU : R2 := rI0 fun i j => .bl (decide (j < i))
theorem o_gt : OpR X (compareOp .Gt) rGtU := op_gt
def rGeU : R2 := rI0 fun i j => .bl (decide (j ≤ i))
theorem o_ge : OpR X (compareOp .GtE) rGeU := op_ge
def rSgn (neg : Bool) : R2 := fun x y H Q => ∃ (c : Nat) (z : Str), x = .str ⟨#[c]⟩ ∧ y = .str z ∧ Q (.bl (if neg then !decide (c ∈ z.cps.toList) else decide (c ∈ z.cps.toList))) H
def rSub (neg : Bool) : R2 := fun x y H Q => ∃ i j, x = .str i ∧ y = .str j ∧ Q (.bl (if neg then !(!(Builtin.Str.occurrences j i 0 j.length 1).isEmpty) else !(Builtin.Str.occurrences j i 0 j.length 1).isEmpty)) H
def rInU (K : PySem.W.Frag) (neg : Bool) : R2 := fun x y H Q => rSgn neg x y H Q ∨ rIn K neg x y H Q ∨ rSub neg x y H Q
theorem o_in {K : PySem.W.Frag} (h : X.K = K := by rfl) : OpR X (compareOp .In) (rInU K false) := h ▸ OpR.or (r := rSgn false) op_in_sign (OpR.or op_in_seq (r' := rSub false) op_in_str)
theorem o_notIn {K : PySem.W.Frag} (h : X.K = K := by rfl) : OpR X (compareOp .NotIn) (rInU K true) := h ▸ OpR.or (r := rSgn true) op_notIn_sign (OpR.or op_notIn_seq (r' := rSub true) op_notin_str)
def rIsU (neg : Bool) : R2 := fun x y H Q => y = .non ∧ Q (.bl (if neg then !decide (x = .non) else decide (x = .non))) H
theorem o_is : OpR X (compareOp .Is) (rIsU false) := op_isN
theorem o_isNot : OpR X (compareOp .IsNot) (rIsU true) := op_notN
def rSlU (K : PySem.W.Frag) : V → Option Int → Option Int → Hp → VK → Prop := fun x lo hi H Q => rSlL K x lo hi H Q ∨ rSlT K x lo hi H Q ∨ rSlS x lo hi H Q
theorem sl_u {K : PySem.W.Frag} (h : X.K = K := by rfl) : SlR X (rSlU K) := h ▸ sl_list.or (sl_tup.or sl_str)
theorem u_ix {K : PySem.W.Frag} (h : X.K = K := by rfl) : IxR X (rIx K) := h ▸ ix_seq
theorem u_len {K : PySem.W.Frag} (h : X.K = K := by rfl) : CallR X (.builtin "len") (fun xs H Q => ∃ x n, xs = [x] ∧ LenV K x H n ∧ Q (.int n) H) := h ▸ call_len
theorem u_all {K : PySem.W.Frag} (hc : X.calm = true) (h : X.K = K := by rfl) : CallR X (.builtin "all") (rAll K) := h ▸ cr_all hc
theorem u_any {K : PySem.W.Frag} (hc : X.calm = true) (h : X.K = K := by rfl) : CallR X (.builtin "any") (rAny K) := h ▸ cr_any hc
theorem u_sum {K : PySem.W.Frag} (hc : X.calm = true) (h : X.K = K := by rfl) : CallR X (.builtin "sum") (rSum K) := h ▸ cr_sum hc
theorem u_sortedI {K : PySem.W.Frag} (h : X.K = K := by rfl) : CallR X (.builtin "sorted") (rSortedI K) := h ▸ cr_sortedI
theorem u_isi {K : PySem.W.Frag} (h : X.K = K := by rfl) : CallR X (.builtin "isinstance") (rIsi K) := h ▸ call_isi
theorem u_isiT {K : PySem.W.Frag} (h : X.K = K := by rfl) : CallR X (.builtin "isinstance") (rIsiT K) := h ▸ call_isiT
theorem u_join {K : PySem.W.Frag} {o e : Expr} {to te : TE} {apos pos : Pos} (ho : PE X o to) (he : PE X e te) (h : X.K = K := by rfl) (hs : starEach [e] X.env = [(false, eval e X.env)] := by rfl) (hbase : attributeBase o "join" X.env (eval o X.env) = eval o X.env := by rfl) (hline : (apos.endLine == pos.line) = true := by rfl) :
    PE X (.Call (.Attribute o "join" apos) [e] [] pos) (tM1 (fun x xs H Q => ∃ a p, ∃ ys : List Str, x = .str a ∧ xs = [.ref p] ∧ (SqL K H p (ys.map V.str) ∨ SqT K H p (ys.map V.str)) ∧
      (ys.map (·.length)).sum + ys.length * a.length ≤ 16777216 ∧ Q (.str (Txt.join a ys)) H) to te) := h ▸ pe_join ho he hs hbase hline
theorem u_bm {K : PySem.W.Frag} {T : String} {id : String} {name : Str} {r : V → List V → Hp → VK → Prop} {o e : Expr} {es : List Expr} {to : TE} {t : TA} {apos cpos : Pos} (pa : PlainAttrs T) (slot : Slot T name id) (hty : typeOf (.builtin id) = pure (.type "method_descriptor")) (hm : MtR X id r) (ho : PE X o to) (ha : PA X (e :: es) t) (h : X.K = K := by rfl)
    (hbase : attributeBase o name X.env (eval o X.env) = eval o X.env := by rfl)
    (hfew : ((backTo cpos (starEach (e :: es) X.env)).all (fun x => !x.1) && (backToKw cpos (keywordEach [] X.env)).all (fun x => x.1.isSome)
      && decide ((e :: es).length + ([] : List Keyword).length + (if ([] : List Keyword).isEmpty then 0 else 1) < 30)) = true := by rfl)
    (hline : (apos.endLine == cpos.line) = true := by rfl) (hs : starEach (e :: es) X.env = (false, eval e X.env) :: starEach es X.env := by rfl) (hplain : (backTo cpos (starEach es X.env)).any (·.1) = false := by rfl) :
    PE X (.Call (.Attribute o name apos) (e :: es) [] cpos) (tBM K T r to t) := h ▸ pe_bm pa slot hty hm ho ha hbase hfew hline hs hplain
theorem u_bm0 {K : PySem.W.Frag} {T : String} {id : String} {name : Str} {r : V → List V → Hp → VK → Prop} {o : Expr} {to : TE} {apos cpos : Pos} (pa : PlainAttrs T) (slot : Slot T name id) (hty : typeOf (.builtin id) = pure (.type "method_descriptor")) (hm : MtR X id r) (ho : PE X o to) (h : X.K = K := by rfl)
    (hbase : attributeBase o name X.env (eval o X.env) = eval o X.env := by rfl) (hline : (apos.endLine == cpos.line) = true := by rfl) : PE X (.Call (.Attribute o name apos) [] [] cpos) (tBM0 K T r to) := h ▸ pe_bm0 pa slot hty hm ho hbase hline
theorem u_tup {K : PySem.W.Frag} {es : List Expr} {k : Nat} {pos : Pos} {t : TGs} {n : Nat} (hc : X.calm = true) (h : PGs X es t) (hK : X.K = K := by rfl)
    (hn : (assignEach es X.env).length = n := by rfl) (hst : (assignEach es X.env).findIdx? (·.1) = none := by rfl) : PG X (.Tuple es k pos) (gTup K n t) := hK ▸ pg_tup hc h hn hst
theorem u_iList {K : PySem.W.Frag} {tg l : Expr} {tl : TE} (hl : PE X l tl) (h : X.K = K := by rfl) : PI X tg l (iList K tl) := h ▸ pi_list hl
theorem u_iTup {K : PySem.W.Frag} {tg l : Expr} {tl : TE} (hl : PE X l tl) (h : X.K = K := by rfl) : PI X tg l (iTup K tl) := h ▸ pi_tup hl
end
theorem vals_of_get : ∀ {xs : List V} {us : List Value}, xs.length = us.length → (∀ (i : Nat) x u, xs[i]? = some x → us[i]? = some u → RelV x u) → Vals xs us
  | [], [], _, _ => .nil
  | [], _ :: _, h, _ => by simp at h
  | _ :: _, [], h, _ => by simp at h
  | x :: xs, u :: us, h, k => .cons (k 0 x u rfl rfl) (vals_of_get (by simpa using h) fun i y w a b => k (i + 1) y w (by simpa using a) (by simpa using b))
section
variable {X : Cx}
/-- list(text): its signs -/
def signsV (x : Str) : List V := x.cps.toList.map fun c => .str ⟨#[c]⟩
theorem call_listS (hc : X.calm = true) : CallR X (.type "list") (fun xs H Q => ∃ x, xs = [.str x] ∧ x.length ≤ sizeLine ∧ ∀ l, H l = none → Q (.ref l) (upd H l (.lst (signsV x)))) := by
  intro pins s σ H xs us Q I r h
  obtain ⟨x, rfl, hx, q⟩ := h
  obtain ⟨u, rfl, t, rfl⟩ := vals1 r
  refine call_list_str (I.ok.hd hc) x t (fun h' tk acc' c' hk hS hacc => ?_) hx
  have hv : Vals (signsV x) acc'.toList := vals_of_get (by unfold signsV; rw [List.length_map, Array.length_toList, Array.length_toList, hacc.1]) fun i y w a b => by
    unfold signsV at a
    rw [List.getElem?_map] at a
    obtain ⟨c, hc1, e⟩ := Option.map_eq_some_iff.mp a
    obtain ⟨c', u', hc2, rfl⟩ := hacc.2 i w (by rw [← Array.getElem?_toList]; exact b)
    rw [← Array.getElem?_toList, hc1] at hc2
    cases hc2
    rw [← e]
    exact ⟨u', rfl⟩
  exact ⟨.ref s.heap.objs.size, _, I.laid (t' := tk) hk (Nat.le_refl _) (show ObjOk X.prog X.w _ h' _ (.lst (signsV x)) from ⟨by unfold signsV; rw [List.length_map, Array.length_toList]; exact hx, acc'.toList, c', hv, hS⟩), rfl, q _ (I.hok.fresh (Nat.le_refl _))⟩
def rListU (K : PySem.W.Frag) : List V → Hp → VK → Prop := fun xs H Q => (∃ p ys, xs = [.ref p] ∧ (SqL K H p ys ∨ SqT K H p ys) ∧ ∀ l, H l = none → Q (.ref l) (upd H l (.lst ys))) ∨ (∃ x, xs = [.str x] ∧ x.length ≤ sizeLine ∧ ∀ l, H l = none → Q (.ref l) (upd H l (.lst (signsV x))))
theorem call_listU {K : PySem.W.Frag} (hc : X.calm = true) (h : X.K = K := by rfl) : CallR X (.type "list") (rListU K) := h ▸ CallR.or call_list_of (call_listS hc)
end
/-! ### defs -/
structure OkF (P : Program) (w : World) (K : PySem.W.Frag) (mg : Str → Option Value) (base : Heap) (CX : CXT) (k : Nat) (x : Str) (ps : List Str) (sp : Sp) : Prop where
  ex : ∃ (f : Addr) (fd : FuncData), mg x = some (.ref f) ∧ PySem.W.keepIn K (.ref f) = true ∧ Binds K fd ps [] ∧ FnOk P w K mg base CX k f fd ps sp
structure DefAt (K : PySem.W.Frag) (mg : Str → Option Value) (x : Str) (st : Stmt) (ps : List Str) : Prop where
  ex : ∃ (f : Addr) (fd : FuncData), Fun K x x st f fd ∧ mg x = some (.ref f) ∧ Binds K fd ps []
section
variable {P : Program} {w : World} {K : PySem.W.Frag} {mg : Str → Option Value} {base : Heap} {x : Str} {st : Stmt} {N ps : List Str} {k : Nat} {sp : Sp}
theorem DefAt.ok (D : DefAt K mg x st ps) (S : FnScope N ps (defScope st)) (len : ∀ vs H Q E, sp vs H Q E → vs.length = ps.length)
    (hbody : ∀ (f : Addr) (cdv : Value) (A : Around) (outer : List Env) (s : Shared) (H : Hp) (vs : List V) (Q : VK) (E : XK), Room k (A.deeper (envOfC x (defScope st) s.heap.objs.size f cdv)) → sp vs H Q E →
      ∃ t, PSs (cxOf CX0 P w K mg base N x (defScope st) f cdv A outer s H E).nox (defBody st) t ∧ t { nx := fun _ H' => Q .non H', rt := Q } (start N vs) H) : OkF P w K mg base CX0 (k + 1) x ps sp := by
  obtain ⟨f, fd, F, g, b⟩ := D.ex
  exact ⟨f, fd, g, F.kp, b, F.ok S len fun cdv A outer s H vs Q E hr h => hbody f cdv A outer s H vs Q E hr h⟩
theorem DefAt.okX (D : DefAt K mg x st ps) (S : FnScope N ps (defScope st)) (len : ∀ vs H Q E, sp vs H Q E → vs.length = ps.length)
    (hbody : ∀ (f : Addr) (cdv : Value) (A : Around) (outer : List Env) (s : Shared) (H : Hp) (vs : List V) (Q : VK) (E : XK), Room k (A.deeper (envOfC x (defScope st) s.heap.objs.size f cdv)) → sp vs H Q E →
      ∃ t, PSs (cxOf (L2.CX P w) P w K mg base N x (defScope st) f cdv A outer s H E) (defBody st) t ∧ t { nx := fun _ H' => Q .non H', rt := Q } (start N vs) H) : OkF P w K mg base (L2.CX P w) (k + 1) x ps sp := by
  obtain ⟨f, fd, F, g, b⟩ := D.ex
  exact ⟨f, fd, g, F.kp, b, F.okX S len fun cdv A outer s H vs Q E hr h => hbody f cdv A outer s H vs Q E hr h⟩
theorem DefAt.okNo {CX : CXT} (D : DefAt K mg x st ps) (h : ∀ vs H Q E, ¬ sp vs H Q E) : OkF P w K mg base CX k x ps sp := by
  obtain ⟨f, fd, F, g, b⟩ := D.ex
  exact ⟨f, fd, g, F.kp, b, fun vs H Q E z => (h _ _ _ _ z).elim, fun A outer s H args us vs Q E _ _ _ _ z => (h _ _ _ _ z).elim⟩
theorem OkF.mono {CX : CXT} {j : Nat} (O : OkF P w K mg base CX j x ps sp) (h : j ≤ k) : OkF P w K mg base CX k x ps sp := by
  obtain ⟨f, fd, a, b, c, d⟩ := O.ex
  exact ⟨f, fd, a, b, c, d.mono h⟩
end
section
variable {X : Cx} {CX : CXT} {k : Nat} {x : Str} {ps : List Str} {sp : Sp} {E : XK} {p pos : Pos} {e : Expr} {es : List Expr} {t : TA}
theorem u_call (O : OkF X.prog X.w X.K X.mg X.base CX k x ps sp) (hr : Room k X.A) (hx : Passes CX X E) (ha : PA X (e :: es) t) (hg : Gl X x := by rfl) (hdb : (x == ("__debug__" : Str)) = false := by decide)
    (he : starEach (e :: es) X.env = (false, eval e X.env) :: starEach es X.env := by rfl) (hpl : (backTo pos (starEach es X.env)).any (·.1) = false := by rfl) :
    PE X (.Call (.Name x p) (e :: es) [] pos) (tCall sp [] E t) := by
  obtain ⟨f, fd, hm, hk, hb, F⟩ := O.ex
  exact pe_call F hr hg hm hk hb .nil hx ha hdb he hpl
theorem u_call0 (O : OkF X.prog X.w X.K X.mg X.base CX k x ps sp) (hr : Room k X.A) (hx : Passes CX X E) (hg : Gl X x := by rfl) (hdb : (x == ("__debug__" : Str)) = false := by decide) :
    PE X (.Call (.Name x p) [] [] pos) (tCall sp [] E tNil) := by
  obtain ⟨f, fd, hm, hk, hb, F⟩ := O.ex
  exact pe_call0 F hr hg hm hk hb .nil hx hdb
end
/-! ### own exceptions without __init__ -/
structure ExcAt (K : PySem.W.Frag) (mg : Str → Option Value) (x : Str) (C : Addr) : Prop where
  g : mg x = some (.ref C)
  ex : ∃ (bmB : List Value) (B newId initId : String), ExcBaseFacts B newId initId bmB ∧ PySem.W.excIn K C bmB newId = true
  kp : PySem.W.keepIn K (.ref C) = true
  sb : PySem.W.subIn K (.ref C) (.type "BaseException") = some true
  ty : PySem.W.typeIn K (.ref C) = some (.type "type")
section
variable {X : Cx} {x : Str} {C : Addr} {p pos : Pos}
/-- X() -/
theorem u_exc (T : ExcAt X.K X.mg x C) (hg : Gl X x := by rfl) (hdb : (x == ("__debug__" : Str)) = false := by decide) : PMk X (.Call (.Name x p) [] [] pos) (fun _ H Q => Q (.ref C) none H) := by
  intro pins s σ H Q I h
  refine wpAny_Call_Name_kw (ld_glob I hg T.g ?_ hdb)
  obtain ⟨bmB, B, newId, initId, F, q⟩ := T.ex
  refine PySem.W.callWith_K0 I.kIn T.kp ?_
  obtain ⟨bm, N, nm, qn, bs, hdct, sn, sub, ab, col, dd, k0, k1, k2, k3, k5, mN, hC, hN, hni, TT⟩ := exc_obj I.kIn q
  refine wpAny_call_exc_subT F TT hC hN hni (fun h' e hm => ?_) (Nat.zero_le _)
  exact mk_of I hm (raises_own T.sb T.ty) h (I.hok.gone hm.new)
theorem names_own (T : ExcAt X.K X.mg x C) (hg : Gl X x := by rfl) (hdb : (x == ("__debug__" : Str)) = false := by decide) : Names X x (.ref C) := ⟨hg, hdb, .inl T.g⟩
end
section
variable {X : Cx} {CX : CXT} {k : Nat} {x : Str} {ps : List Str} {sp : Sp} {p pos : Pos} {e : Expr} {es : List Expr} {t : TA}
/-- a call within a try's body: what it lets out is wished for at the slots -/
theorem u_callS {W : WX} (O : OkF X.prog X.w X.K X.mg X.base (L2.CX X.prog X.w) k x ps sp) (hr : Room k X.A) (tk : Takes X W) (ha : PA X (e :: es) t) (hg : Gl X x := by rfl) (hdb : (x == ("__debug__" : Str)) = false := by decide)
    (he : starEach (e :: es) X.env = (false, eval e X.env) :: starEach es X.env := by rfl) (hpl : (backTo pos (starEach es X.env)).any (·.1) = false := by rfl) :
    PE X (.Call (.Name x p) (e :: es) [] pos) (tCallS sp (WE W) t) := by
  obtain ⟨f, fd, hm, hk, hb, F⟩ := O.ex
  exact pe_callS F hr hg hm hk hb (fun σ => passAt tk σ) ha hdb he hpl
end
/-- try .. except: the wish at the body's exceptions depends on the ends -/
def tTry (tb : WX → TS) (W : Ends → WX) : TS := fun D σ H => tb (W D) D σ H
section
variable {X : Cx} {x n : Str} {c : Value} {i : Nat} {body suite : List Stmt} {b₀ : Stmt} {np pos pos' : Pos} {tb : WX → TS} {ts : Addr → Value → Option Addr → TS} {Wout : WX}
theorem u_try_only {K : PySem.W.Frag} (hs : X.stack = X.env :: X.outer) (hf : X.env.frame = some X.env.locals) (hc : Names X x c) (tk : Takes X Wout)
    (hb : ∀ (W : WX) (pn : List (Addr × Obj)) (xe : Value → Shared → Prop), Takes (X.tr pn xe) W → PassesOwn (model X.prog X.w) X.A X.env xe → PSs (X.tr pn xe) body (tb W))
    (hsu : ∀ (a : Addr) (oe : Obj) (cls : Value) (d : Option Addr) (pn : List (Addr × Obj)), Zc cls d oe → (∃ vs, oe.data = .fields vs) → PSs (X.suite a ((a, oe) :: pn)) (b₀ :: suite) (ts a cls d)) (h : X.K = K := by rfl) :
    PS X (.Try body [.ExceptHandler (some (.Name x np)) none (b₀ :: suite) pos'] [] [] pos) (tTry tb (wOnly K c ts Wout)) := h ▸ ps_try_only hs hf hc tk hb hsu
theorem u_try_many {K : PySem.W.Frag} {h₀ : ExceptHandler} {hds : List ExceptHandler} {l : List (Value × (Addr → Value → Option Addr → TS))} (hs : X.stack = X.env :: X.outer) (hf : X.env.frame = some X.env.locals) (tk : Takes X Wout)
    (hb : ∀ (W : WX) (pn : List (Addr × Obj)) (xe : Value → Shared → Prop), Takes (X.tr pn xe) W → PassesOwn (model X.prog X.w) X.A X.env xe → PSs (X.tr pn xe) body (tb W))
    (hh : HdsOk X (h₀ :: hds) l) (h : X.K = K := by rfl) : PS X (.Try body (h₀ :: hds) [] [] pos) (tTry tb fun D => wMany K Wout D l) := h ▸ ps_try_many hs hf tk hb hh
end
def rEnumU (K : PySem.W.Frag) (ta : TA) : TI := fun σ H R => ta σ H fun vs H1 => ∃ a xs, vs = [.ref a] ∧ SqL K H1 a xs ∧ R (Ite K a) H1
theorem u_enum {X : Cx} {K : PySem.W.Frag} {e : Expr} {ta : TA} {p pos tpos : Pos} {elts : List Expr} {kk : Nat} (hm : X.mg "enumerate" = none) (ha : PA X [e] ta) (hg : Gl X "enumerate" := by rfl) (h : X.K = K := by rfl) (hs : starEach [e] X.env = [(false, eval e X.env)] := by rfl) :
    PI X (.Tuple elts kk tpos) (.Call (.Name "enumerate" p) [e] [] pos) (rEnumU K ta) := h ▸ pi_enum hg hm ha hs
def ipU : TIp := fun x y H Q => rI0 (fun i j => .int (i + j)) x y H Q ∨ rExt2 x y H Q
theorem ip_addU {X : Cx} : PIp X .Add ipU := by
  intro pins s σ H x y v u Q I rx ry h
  rcases h with h | h
  · obtain ⟨i, j, rfl, rfl, q⟩ := h
    exact ip_add pins s σ H _ _ v u Q I rx ry ⟨i, j, rfl, rfl, q⟩
  · exact iop_ext pins s σ H x y v u Q I rx ry h
/-! ### promises by the number of arguments -/
def sp1 (p : V → Hp → VK → XK → Prop) : Sp := fun vs H Q E => ∃ a, vs = [a] ∧ p a H Q E
def sp2 (p : V → V → Hp → VK → XK → Prop) : Sp := fun vs H Q E => ∃ a b, vs = [a, b] ∧ p a b H Q E
def sp3 (p : V → V → V → Hp → VK → XK → Prop) : Sp := fun vs H Q E => ∃ a b c, vs = [a, b, c] ∧ p a b c H Q E
def sp4 (p : V → V → V → V → Hp → VK → XK → Prop) : Sp := fun vs H Q E => ∃ a b c d, vs = [a, b, c, d] ∧ p a b c d H Q E
theorem len4 {p} : ∀ vs H Q E, sp4 p vs H Q E → vs.length = 4 := by
  rintro _ _ _ _ ⟨_, _, _, _, rfl, _⟩
  rfl
theorem len1 {p} : ∀ vs H Q E, sp1 p vs H Q E → vs.length = 1 := by
  rintro _ _ _ _ ⟨_, rfl, _⟩
  rfl
theorem len2 {p} : ∀ vs H Q E, sp2 p vs H Q E → vs.length = 2 := by
  rintro _ _ _ _ ⟨_, _, rfl, _⟩
  rfl
theorem len3 {p} : ∀ vs H Q E, sp3 p vs H Q E → vs.length = 3 := by
  rintro _ _ _ _ ⟨_, _, _, rfl, _⟩
  rfl
/-! ### truth -/
def tTr (K : PySem.W.Frag) (ta : TE) : TT := fun σ H Q => ta σ H fun x H' => ∃ k, TruV K x H' k ∧ Q k H'
theorem u_truth {X : Cx} {a : Expr} {ta : TE} (ha : PE X a ta) {K : PySem.W.Frag} (he : ∀ whole, isTrue a X.env whole = (do let v ← whole; standAt a.pos; holding [v] (truthy v)) := by intro _; rfl) (h : X.K = K := by rfl) : PT X a (tTr K ta) := h ▸ pt_truth ha he
theorem sz {n : Nat} (h : Nat.ble n 16777216 = true) : n ≤ sizeLine := by
  rw [show sizeLine = 16777216 from sizeLine_eq]
  exact Nat.le_of_ble_eq_true h
theorem sz_of {n : Nat} (h : n ≤ 1000) : n ≤ sizeLine := Nat.le_of_lt (small1000 h)
/-! ### steps of a reading -/
section
variable {σ : St} {H : Hp} {Q : VK} {QB : Bool → Hp → Prop} {QA : List V → Hp → Prop} {v x y : V} {i j : Int} {n m : Nat} {a b : Str} {p q : Addr} {xs ys : List V} {ta tb tc : TE} {tt uu : TT} {tr : TA} {K : PySem.W.Frag} {D : Ends} {ts us : TS} {o : HO} {E : XK} {k : Bool}
theorem s_var (h : σ[n]? = some (some v)) (z : Q v H) : tVar n σ H Q := ⟨v, h, z⟩
theorem s_c (z : Q v H) : tC v σ H Q := z
theorem s_op {r : R2} (z : ta σ H fun x H1 => tb σ H1 fun y H2 => r x y H2 Q) : tOp r ta tb σ H Q := z
theorem s_un {r : V → Hp → VK → Prop} (z : ta σ H fun x H1 => r x H1 Q) : tUn r ta σ H Q := z
theorem s_neg (z : Q (.int (-i)) H) : rU (fun i => .int (-i)) (.int i) H Q := ⟨i, rfl, z⟩
theorem s_test (z : ta σ H fun x H' => ∃ k, x = .bl k ∧ QB k H') : tTest ta σ H QB := z
theorem s_tB (z : ta σ H fun x H' => ∃ k, x = .bl k ∧ QB k H') : tB ta σ H QB := z
theorem s_bl {R : Bool → Prop} (z : R k) : ∃ k', V.bl k = .bl k' ∧ R k' := ⟨k, rfl, z⟩
theorem s_add (z : Q (.int (i + j)) H) : rAddU K (.int i) (.int j) H Q := .inl ⟨i, j, rfl, rfl, z⟩
theorem s_addS (h : a.length + b.length ≤ sizeLine) (z : Q (.str (a ++ b)) H) : rAddU K (.str a) (.str b) H Q := .inr (.inl ⟨a, b, rfl, rfl, h, z⟩)
theorem s_addL (h1 : H p = some (.lst xs)) (h2 : H q = some (.lst ys)) (h : xs.length + ys.length ≤ sizeLine) (z : ∀ l, H l = none → Q (.ref l) (upd H l (.lst (xs ++ ys)))) : rAddU K (.ref p) (.ref q) H Q :=
  .inr (.inr (.inl ⟨p, q, xs, ys, rfl, rfl, h1, h2, h, z⟩))
theorem s_mul (h : CMul i j) (z : Q (.int (i * j)) H) : rMulU (.int i) (.int j) H Q := .inl ⟨i, j, rfl, rfl, h, z⟩
theorem s_rep (h : H p = some (.lst xs)) (h1 : -(2 ^ 63) ≤ j) (h2 : j < 2 ^ 63) (h3 : xs.length * j.toNat ≤ sizeLine) (z : ∀ l, H l = none → Q (.ref l) (upd H l (.lst (List.replicate j.toNat xs).flatten))) : rMulU (.ref p) (.int j) H Q :=
  .inr ⟨p, j, xs, rfl, rfl, h, h1, h2, h3, z⟩
theorem s_sub (z : Q (.int (i - j)) H) : rSubU (.int i) (.int j) H Q := ⟨i, j, rfl, rfl, z⟩
theorem s_div (h : CDivN i j) (z : Q (.int (i.fdiv j)) H) : rDivU (.int i) (.int j) H Q := ⟨i, j, rfl, rfl, h, z⟩
theorem s_mod (h : j ≠ 0) (z : Q (.int (i.fmod j)) H) : rModU (.int i) (.int j) H Q := ⟨i, j, rfl, rfl, h, z⟩
theorem s_pow (h : CPow i j) (z : Q (.int (i ^ j.toNat)) H) : rPowU (.int i) (.int j) H Q := ⟨i, j, rfl, rfl, h, z⟩
theorem s_lt (z : Q (.bl (decide (i < j))) H) : rLtU (.int i) (.int j) H Q := ⟨i, j, rfl, rfl, z⟩
theorem s_le (z : Q (.bl (decide (i ≤ j))) H) : rLeU (.int i) (.int j) H Q := ⟨i, j, rfl, rfl, z⟩
theorem s_gt (z : Q (.bl (decide (j < i))) H) : rGtU (.int i) (.int j) H Q := ⟨i, j, rfl, rfl, z⟩
theorem s_ge (z : Q (.bl (decide (j ≤ i))) H) : rGeU (.int i) (.int j) H Q := ⟨i, j, rfl, rfl, z⟩
theorem s_eq (h : scal x y = true) (z : Q (.bl (decide (x = y))) H) : rEqU K x y H Q := .inl ⟨h, z⟩
theorem s_ne (h : scal x y = true) (z : Q (.bl (!decide (x = y))) H) : rNeU K x y H Q := .inl ⟨h, z⟩
theorem s_eqD {d e : PyData} (hx : Dp K H x d) (hy : Dp K H y e) (sd : SeqAt.shaped d = true) (se : SeqAt.shaped e = true) (z : Q (.bl (PyData.eqv d e)) H) : rEqU K x y H Q := .inr ⟨d, e, hx, hy, sd, se, z⟩
theorem s_neD {d e : PyData} (hx : Dp K H x d) (hy : Dp K H y e) (sd : SeqAt.shaped d = true) (se : SeqAt.shaped e = true) (z : Q (.bl (!PyData.eqv d e)) H) : rNeU K x y H Q := .inr ⟨d, e, hx, hy, sd, se, z⟩
theorem s_isN (z : Q (.bl (decide (x = .non))) H) : rIsU false x .non H Q := ⟨rfl, z⟩
theorem s_notN (z : Q (.bl (!decide (x = .non))) H) : rIsU true x .non H Q := ⟨rfl, z⟩
theorem s_inS {c : Nat} (z : Q (.bl (decide (c ∈ a.cps.toList))) H) : rInU K false (.str ⟨#[c]⟩) (.str a) H Q := .inl ⟨c, a, rfl, rfl, z⟩
theorem s_notInS {c : Nat} (z : Q (.bl (!decide (c ∈ a.cps.toList))) H) : rInU K true (.str ⟨#[c]⟩) (.str a) H Q := .inl ⟨c, a, rfl, rfl, z⟩
theorem s_inL (h : SqL K H p xs ∨ SqT K H p xs) (h1 : flatV x = true) (h2 : xs.all flatV = true) (z : Q (.bl (inV x xs)) H) : rInU K false x (.ref p) H Q := .inr (.inl ⟨p, xs, rfl, h, h1, h2, z⟩)
theorem s_notInL (h : SqL K H p xs ∨ SqT K H p xs) (h1 : flatV x = true) (h2 : xs.all flatV = true) (z : Q (.bl (!inV x xs)) H) : rInU K true x (.ref p) H Q := .inr (.inl ⟨p, xs, rfl, h, h1, h2, z⟩)
theorem s_ixL (h : SqL K H p xs) (h1 : atI xs i = some v) (z : Q v H) : rIx K (.ref p) (.int i) H Q := .inl ⟨p, xs, i, v, rfl, rfl, h, h1, z⟩
theorem s_ixT (h : SqT K H p xs) (h1 : atI xs i = some v) (z : Q v H) : rIx K (.ref p) (.int i) H Q := .inr (.inl ⟨p, xs, i, v, rfl, rfl, h, h1, z⟩)
theorem s_ixS {c : Nat} (h : a.length ≤ sizeLine) (h1 : atI a.cps.toList i = some c) (z : Q (.str ⟨#[c]⟩) H) : rIx K (.str a) (.int i) H Q := .inr (.inr ⟨a, i, c, rfl, rfl, h, h1, z⟩)
theorem s_sl {r : V → Option Int → Option Int → Hp → VK → Prop} {tl th : TO} (z : ta σ H fun x H1 => tl σ H1 fun l H2 => th σ H2 fun u H3 => r x l u H3 Q) : tSl r ta tl th σ H Q := z
theorem s_noPart {QO : Option Int → Hp → Prop} (z : QO none H) : tNoPart σ H QO := z
theorem s_part {QO : Option Int → Hp → Prop} (z : ta σ H fun x H1 => ∃ i, x = .int i ∧ QO (some i) H1) : tPart ta σ H QO := z
theorem s_partI {R : Int → Prop} (z : R i) : ∃ i', V.int i = .int i' ∧ R i' := ⟨i, rfl, z⟩
theorem s_slS {lo hi : Option Int} (h : a.length ≤ sizeLine) (z : Q (.str (cutS a lo hi)) H) : rSlU K (.str a) lo hi H Q := .inr (.inr ⟨a, rfl, h, z⟩)
theorem s_slL {lo hi : Option Int} (h : SqL K H p xs) (z : ∀ l, H l = none → Q (.ref l) (upd H l (.lst (cutV xs lo hi)))) : rSlU K (.ref p) lo hi H Q := .inl ⟨p, xs, rfl, h, z⟩
theorem s_nil (z : QA [] H) : tNil σ H QA := z
theorem s_cons (z : ta σ H fun x H1 => tr σ H1 fun xs H2 => QA (x :: xs) H2) : tCons ta tr σ H QA := z
theorem s_tup (z : tr σ H fun xs H1 => xs.length ≤ sizeLine ∧ ∀ p, H1 p = none → Q (.ref p) (upd H1 p (.tup xs))) : tTup tr σ H Q := z
theorem s_lst (z : tr σ H fun xs H1 => xs.length ≤ sizeLine ∧ ∀ p, H1 p = none → Q (.ref p) (upd H1 p (.lst xs))) : tLst tr σ H Q := z
theorem s_new {C : Prop} (h : n ≤ 1000) (z : C) : n ≤ sizeLine ∧ C := ⟨Nat.le_of_lt (small1000 h), z⟩
theorem s_call {sp : Sp} (z : tr σ H fun vs H1 => sp (vs ++ []) H1 Q E) : tCall sp [] E tr σ H Q := z
theorem s_sp1 {P : V → Hp → VK → XK → Prop} (z : P x H Q E) : sp1 P ([x] ++ []) H Q E := ⟨x, rfl, z⟩
theorem s_sp2 {P : V → V → Hp → VK → XK → Prop} (z : P x y H Q E) : sp2 P ([x, y] ++ []) H Q E := ⟨x, y, rfl, z⟩
theorem s_sp3 {P : V → V → V → Hp → VK → XK → Prop} (z : P x y v H Q E) : sp3 P ([x, y, v] ++ []) H Q E := ⟨x, y, v, rfl, z⟩
theorem s_sp4 {w : V} {P : V → V → V → V → Hp → VK → XK → Prop} (z : P x y v w H Q E) : sp4 P ([x, y, v, w] ++ []) H Q E := ⟨x, y, v, w, rfl, z⟩
theorem s_sq4 {w : V} {P : V → V → V → V → Hp → VK → XK → Prop} (z : P x y v w H Q E) : sp4 P [x, y, v, w] H Q E := ⟨x, y, v, w, rfl, z⟩
theorem s_cb {r : List V → Hp → VK → Prop} (z : tr σ H fun vs H1 => r vs H1 Q) : tCB r tr σ H Q := z
theorem s_len {R : Nat → Prop} (h : LenV K x H n) (z : R n) : ∃ x' n', [x] = [x'] ∧ LenV K x' H n' ∧ R n' := ⟨x, n, rfl, h, z⟩
theorem s_and (z : tt σ H fun c H1 => if c = true then uu σ H1 QB else QB false H1) : tAnd tt uu σ H QB := z
theorem s_or (z : tt σ H fun c H1 => if c = true then QB true H1 else uu σ H1 QB) : tOr tt uu σ H QB := z
theorem s_not (z : tt σ H fun c H1 => QB (!c) H1) : tNot tt σ H QB := z
theorem s_andV (z : ta σ H fun x H1 => ∃ c, x = .bl c ∧ if c = true then tb σ H1 Q else Q (.bl false) H1) : tAndV ta tb σ H Q := z
theorem s_orV (z : ta σ H fun x H1 => ∃ c, x = .bl c ∧ if c = true then Q (.bl true) H1 else tb σ H1 Q) : tOrV ta tb σ H Q := z
theorem s_notV (z : ta σ H fun x H1 => ∃ c, x = .bl c ∧ Q (.bl (!c)) H1) : tNotV ta σ H Q := z
theorem s_bln {R : Bool → Prop} (e : k = true) (z : R true) : ∃ k', V.bl k = .bl k' ∧ R k' := ⟨true, by rw [e], z⟩
theorem s_if (z : tt σ H fun c H1 => if c = true then ta σ H1 Q else tb σ H1 Q) : tIf tt ta tb σ H Q := z
theorem s_chain {r r' : R2} (z : ta σ H fun x H1 => tb σ H1 fun y H2 => r x y H2 fun z H3 => ∃ k, z = .bl k ∧ (if k = true then tc σ H3 fun w' H4 => r' y w' H4 Q else Q (.bl false) H3)) : tChain r r' ta tb tc σ H Q := z
theorem s_tr (z : ta σ H fun x H' => ∃ k, TruV K x H' k ∧ QB k H') : tTr K ta σ H QB := z
theorem s_truB {R : Bool → Prop} (z : R k) : ∃ k', TruV K (.bl k) H k' ∧ R k' := ⟨k, rfl, z⟩
theorem s_truL {R : Bool → Prop} (h : SqL K H p xs) (z : R (!xs.isEmpty)) : ∃ k', TruV K (.ref p) H k' ∧ R k' := ⟨_, .inl ⟨xs, h, rfl⟩, z⟩
theorem s_listL (h : SqL K H p xs ∨ SqT K H p xs) (z : ∀ l, H l = none → Q (.ref l) (upd H l (.lst xs))) : rListU K [.ref p] H Q := .inl ⟨p, xs, rfl, h, z⟩
theorem s_listS (h : a.length ≤ sizeLine) (z : ∀ l, H l = none → Q (.ref l) (upd H l (.lst (signsV a)))) : rListU K [.str a] H Q := .inr ⟨a, rfl, h, z⟩
theorem s_m1 {r : V → List V → Hp → VK → Prop} (z : ta σ H fun x H1 => (∃ a, x = .str a) ∧ tb σ H1 fun y H2 => r x [y] H2 Q) : tM1 r ta tb σ H Q := z
theorem s_m0 {r : V → List V → Hp → VK → Prop} (z : ta σ H fun x H1 => (∃ a, x = .str a) ∧ r x [] H1 Q) : tM0 r ta σ H Q := z
theorem s_isStr {C : Prop} (z : C) : (∃ b, V.str a = .str b) ∧ C := ⟨⟨a, rfl⟩, z⟩
theorem s_enum {R : It → Hp → Prop} (z : tr σ H fun vs H1 => ∃ a xs, vs = [.ref a] ∧ SqL K H1 a xs ∧ R (Ite K a) H1) : rEnumU K tr σ H R := z
theorem s_enumL {R : Addr → Prop} (h : SqL K H p xs) (z : R p) : ∃ a xs, [V.ref p] = [.ref a] ∧ SqL K H a xs ∧ R a := ⟨p, xs, rfl, h, z⟩
theorem s_callS {sp : Sp} {EE : St → XK} (z : tr σ H fun vs H1 => sp vs H1 Q (EE σ)) : tCallS sp EE tr σ H Q := z
theorem s_sq1 {P : V → Hp → VK → XK → Prop} (z : P x H Q E) : sp1 P [x] H Q E := ⟨x, rfl, z⟩
theorem s_sq2 {P : V → V → Hp → VK → XK → Prop} (z : P x y H Q E) : sp2 P [x, y] H Q E := ⟨x, y, rfl, z⟩
theorem s_sq3 {P : V → V → V → Hp → VK → XK → Prop} (z : P x y v H Q E) : sp3 P [x, y, v] H Q E := ⟨x, y, v, rfl, z⟩
theorem s_aug {ti : TIp} (h : σ[n]? = some (some x)) (z : ta σ H fun y H1 => ti x y H1 fun z H2 => D.nx (σ.set n (some z)) H2) : tAug n ta ti D σ H := ⟨x, h, z⟩
theorem s_ipI (z : Q (.int (i + j)) H) : ipU (.int i) (.int j) H Q := .inl ⟨i, j, rfl, rfl, z⟩
theorem s_ipL (h1 : H p = some (.lst xs)) (h2 : H q = some (.lst ys)) (h : xs.length + ys.length ≤ sizeLine) (z : Q (.ref p) (upd H p (.lst (xs ++ ys)))) : ipU (.ref p) (.ref q) H Q := .inr ⟨p, q, xs, ys, rfl, rfl, h1, h2, h, z⟩
theorem s_bm {T : String} {r : V → List V → Hp → VK → Prop} (z : ta σ H fun x H1 => tyV K T x H1 ∧ tr σ H1 fun xs H2 => r x xs H2 Q) : tBM K T r ta tr σ H Q := z
theorem s_bm0 {T : String} {r : V → List V → Hp → VK → Prop} (z : ta σ H fun x H1 => tyV K T x H1 ∧ r x [] H1 Q) : tBM0 K T r ta σ H Q := z
theorem s_tyL {C : Prop} (h : SqL K H p xs) (z : C) : tyV K "list" (.ref p) H ∧ C := ⟨.inl ⟨rfl, _, h⟩, z⟩
theorem s_append (h : H p = some (.lst xs)) (hl : xs.length < sizeLine) (z : Q .non (upd H p (.lst (xs ++ [x])))) : rAppend (.ref p) [x] H Q := ⟨p, xs, x, rfl, rfl, h, hl, z⟩
theorem s_extend (h : H p = some (.lst xs)) (h2 : H q = some (.lst ys)) (hl : xs.length + ys.length ≤ sizeLine) (z : Q .non (upd H p (.lst (xs ++ ys)))) : rExtend (.ref p) [.ref q] H Q := ⟨p, q, xs, ys, rfl, rfl, h, h2, hl, z⟩
theorem s_lstRg {te : St → Hp → (Int → Int → Hp → Prop) → Prop} (z : te σ H fun a b H1 => RgOk a b ∧ ∀ q, H1 q = none → Q (.ref q) (upd H1 q (.lst (rgV a b)))) : tLstRg te σ H Q := z
theorem s_prg1 {R : Int → Int → Hp → Prop} (z : ta σ H fun x H1 => ∃ b, x = .int b ∧ R 0 b H1) : tRg1 ta σ H R := z
theorem s_try {tb : WX → TS} {W : Ends → WX} (z : tb (W D) D σ H) : tTry tb W D σ H := z
theorem s_only {c cls : Value} {d : Option Addr} {t : Addr → Value → Option Addr → TS} {Wout : WX} (h : PySem.W.exmOne K cls c = some true) (z : ∀ a, H a = none → t a cls d D σ H) : WE (wOnly K c t Wout D) σ cls d H := ⟨true, h, fun _ => z, fun (e : true = false) => absurd e.symm Bool.false_ne_true⟩
theorem s_many1 {c cls : Value} {d : Option Addr} {t : Addr → Value → Option Addr → TS} {Wout : WX} {l : List (Value × (Addr → Value → Option Addr → TS))} (h : PySem.W.exmOne K cls c = some true) (z : ∀ a, H a = none → t a cls d D σ H) : WE (wMany K Wout D ((c, t) :: l)) σ cls d H := ⟨true, h, fun _ => z, fun (e : true = false) => absurd e.symm Bool.false_ne_true⟩
theorem s_many0 {c cls : Value} {d : Option Addr} {t : Addr → Value → Option Addr → TS} {Wout : WX} {l : List (Value × (Addr → Value → Option Addr → TS))} (h : PySem.W.exmOne K cls c = some false) (z : WE (wMany K Wout D l) σ cls d H) : WE (wMany K Wout D ((c, t) :: l)) σ cls d H := ⟨false, h, fun (e : false = true) => absurd e Bool.false_ne_true, fun _ => z⟩
/-! statements -/
theorem s_start {σ' : St} (e : σ = σ') (z : ts D σ' H) : ts D σ H := e ▸ z
theorem s_seq {nx : St → Hp → Prop} {rt : VK} {bk ct : St → Hp → Prop} (z : ts ⟨us ⟨nx, rt, bk, ct⟩, rt, bk, ct⟩ σ H) : tSeq ts us ⟨nx, rt, bk, ct⟩ σ H := z
theorem s_next (z : D.nx σ H) : tNext D σ H := z
theorem s_brk (z : D.bk σ H) : tBreak D σ H := z
theorem s_cont (z : D.ct σ H) : tCont D σ H := z
theorem s_drop (z : ta σ H fun _ H1 => D.nx σ H1) : tDrop ta D σ H := z
theorem s_ret (z : ta σ H D.rt) : tRet ta D σ H := z
theorem s_ifS (z : tt σ H fun b H1 => if b = true then ts D σ H1 else us D σ H1) : tIfS tt ts us D σ H := z
theorem s_asg {g : TG} (z : ta σ H fun x H1 => g x σ H1 D.nx) : tAsg ta g D σ H := z
theorem s_gName {R : St → Hp → Prop} (z : R (σ.set n (some v)) H) : gName n v σ H R := z
theorem s_gSub {R : St → Hp → Prop} {to ti : TE} {t : TSet} (z : to σ H fun o H1 => ti σ H1 fun i H2 => t o i v H2 fun H3 => R σ H3) : gSub to ti t v σ H R := z
theorem s_setL {R : Hp → Prop} (h : H p = some (.lst xs)) (h1 : ixN xs.length i = some n) (z : R (upd H p (.lst (xs.set n v)))) : rSetL (.ref p) (.int i) v H R := ⟨p, xs, i, n, rfl, rfl, h, h1, z⟩
theorem s_gTup {R : St → Hp → Prop} {t : TGs} (h : SqT K H p xs) (h1 : xs.length = n) (z : t xs σ H R) : gTup K n t (.ref p) σ H R := ⟨p, xs, rfl, h, h1, z⟩
theorem s_gCons {R : St → Hp → Prop} {t : TG} {u : TGs} (z : t x σ H fun σ' H' => u xs σ' H' R) : gCons t u (x :: xs) σ H R := ⟨x, xs, rfl, z⟩
theorem s_gNil {R : St → Hp → Prop} (z : R σ H) : gNil [] σ H R := ⟨rfl, z⟩
theorem s_nx {nx : St → Hp → Prop} {rt : VK} {bk ct : St → Hp → Prop} (z : nx σ H) : Ends.nx ⟨nx, rt, bk, ct⟩ σ H := z
theorem s_rt {nx : St → Hp → Prop} {rt : VK} {bk ct : St → Hp → Prop} (z : rt v H) : Ends.rt ⟨nx, rt, bk, ct⟩ v H := z
theorem s_bk {nx : St → Hp → Prop} {rt : VK} {bk ct : St → Hp → Prop} (z : bk σ H) : Ends.bk ⟨nx, rt, bk, ct⟩ σ H := z
theorem s_ct {nx : St → Hp → Prop} {rt : VK} {bk ct : St → Hp → Prop} (z : ct σ H) : Ends.ct ⟨nx, rt, bk, ct⟩ σ H := z
theorem s_seqJ {nx0 : St → Hp → Prop} {rt : VK} {bk ct : St → Hp → Prop} (J : St → Hp → Prop) (h2 : ∀ σ' H', J σ' H' → us ⟨nx0, rt, bk, ct⟩ σ' H') (h1 : ∀ nx : St → Hp → Prop, (∀ σ' H', J σ' H' → nx σ' H') → ts ⟨nx, rt, bk, ct⟩ σ H) : tSeq ts us ⟨nx0, rt, bk, ct⟩ σ H := h1 _ h2
theorem s_abs {R : Int → Prop} (z : R i) : ∃ i', [V.int i] = [.int i'] ∧ R i' := ⟨i, rfl, z⟩
theorem s_lenL {R : Nat → Prop} (h : SqL K H p xs) (z : R xs.length) : ∃ x' n', [V.ref p] = [x'] ∧ LenV K x' H n' ∧ R n' := ⟨_, _, rfl, .inl ⟨_, h, rfl⟩, z⟩
theorem s_lenT {R : Nat → Prop} (h : SqT K H p xs) (z : R xs.length) : ∃ x' n', [V.ref p] = [x'] ∧ LenV K x' H n' ∧ R n' := ⟨_, _, rfl, .inr ⟨_, h, rfl⟩, z⟩
theorem s_lenS {R : Nat → Prop} (h : a.length ≤ sizeLine) (z : R a.length) : ∃ x' n', [V.str a] = [x'] ∧ LenV K x' H n' ∧ R n' := ⟨_, _, rfl, ⟨h, rfl⟩, z⟩
/-- a branch -/
theorem br {c : Prop} [Decidable c] {A B : Prop} (h1 : c → A) (h2 : ¬ c → B) : if decide c = true then A else B := by
  by_cases h : c
  · rw [if_pos (decide_eq_true h)]
    exact h1 h
  · rw [if_neg (by rw [decide_eq_false h]; exact Bool.false_ne_true)]
    exact h2 h
theorem brN {c : Prop} [Decidable c] {A B : Prop} (h1 : ¬ c → A) (h2 : c → B) : if (!decide c) = true then A else B := by
  by_cases h : c
  · rw [if_neg (by rw [decide_eq_true h]; exact Bool.false_ne_true)]
    exact h2 h
  · rw [if_pos (by rw [decide_eq_false h]; rfl)]
    exact h1 h
theorem brB {c : Bool} {A B : Prop} (h1 : c = true → A) (h2 : c = false → B) : if c = true then A else B := by
  cases c
  · exact iteF (h2 rfl)
  · exact iteT (h1 rfl)
theorem same_upd {H : Hp} {p : Addr} {o : HO} (h : H p = none) : Same H (upd H p o) := fun b x e => by
  rw [upd_ne (ne_of_none e h)]
  exact e
theorem Same.sqT {K : PySem.W.Frag} {H H' : Hp} {a : Addr} {xs : List V} (e : Same H H') (h : SqT K H a xs) : SqT K H' a xs := by
  rcases h with (h | ⟨o, h⟩) | h
  · exact .inl (.inl (e _ _ h))
  · exact .inl (.inr ⟨o, e _ _ h⟩)
  · exact .inr h
end
end L2.U
/-! D: what the laws' own helpers promise (a draw, a list begun, one of a row, sameness), comprehensions by a word. Own text. -/
namespace L2.U
open PySem PySem.Spec PyProof.Rows RZ
/-! ### the heap but for one object -/
def Keep (p : Addr) (H H' : Hp) : Prop := ∀ b o, b ≠ p → H b = some o → H' b = some o
theorem Keep.refl (p : Addr) (H : Hp) : Keep p H H := fun _ _ _ h => h
theorem Keep.trans {p : Addr} {H H' H'' : Hp} (a : Keep p H H') (b : Keep p H' H'') : Keep p H H'' := fun c o n h => b c o n (a c o n h)
theorem Keep.upd {p : Addr} {H : Hp} {o : HO} : Keep p H (upd H p o) := fun c u n h => by rw [upd_ne n]; exact h
theorem Same.keep {p : Addr} {H H' : Hp} (s : Same H H') : Keep p H H' := fun b o _ h => s b o h
theorem Keep.sqL {K : PySem.W.Frag} {p a : Addr} {H H' : Hp} {xs : List V} (k : Keep p H H') (n : a ≠ p) (h : SqL K H a xs) : SqL K H' a xs := by
  rcases h with (h | ⟨o, h⟩) | h
  · exact .inl (.inl (k _ _ n h))
  · exact .inl (.inr ⟨o, k _ _ n h⟩)
  · exact .inr h
theorem Keep.free {p a : Addr} {H H' : Hp} (k : Keep p H H') (n : a ≠ p) (h : H' a = none) : H a = none := by
  cases q : H a with
  | none => rfl
  | some o =>
    rw [k a o n q] at h
    cases h
structure Draw (H : Hp) (p a : Addr) : Prop where
  ex : ∃ (ns : List Int) (c h s : Int), H p = some (.lst [.ref a, .int c, .int h, .int s]) ∧ H a = some (.lst (ns.map V.int)) ∧ a ≠ p ∧ ns.length ≤ 1000 ∧ 0 ≤ c ∧ 0 ≤ h ∧ 0 ≤ s ∧ s < 2147483647
theorem Draw.same {H H' : Hp} {p a : Addr} (d : Draw H p a) (s : Same H H') : Draw H' p a := by
  obtain ⟨ns, c, h, t, e, hS, r⟩ := d.ex
  exact ⟨ns, c, h, t, s _ _ e, s _ _ hS, r⟩
theorem Draw.ne {H : Hp} {p a q : Addr} (d : Draw H p a) (h : H q = none) : q ≠ p := fun e => by
  obtain ⟨ns, c, g, t, e2, hS, r⟩ := d.ex
  rw [e, e2] at h
  cases h
theorem Draw.ne2 {H : Hp} {p a q : Addr} (d : Draw H p a) (h : H q = none) : q ≠ a := fun e => by
  obtain ⟨ns, c, g, t, e2, hS, r⟩ := d.ex
  rw [e, hS] at h
  cases h
theorem Draw.updN {H : Hp} {p a q : Addr} {o : HO} (d : Draw H p a) (n : q ≠ p) (m : q ≠ a) : Draw (upd H q o) p a := by
  obtain ⟨ns, c, h, t, e, hS, r⟩ := d.ex
  exact ⟨ns, c, h, t, by rw [upd_ne n.symm]; exact e, by rw [upd_ne m.symm]; exact hS, r⟩
/-! ### promises -/
abbrev spTake : Sp := sp2 fun d n H Q _ => ∃ (p a : Addr) (k : Int), d = .ref p ∧ n = .int k ∧ 0 < k ∧ k < 4611686018427387904 ∧ Draw H p a ∧ ∀ H' r, Keep p H H' → Draw H' p a → 0 ≤ r → r < k → Q (.int r) H'
abbrev spBegin (K : PySem.W.Frag) : Sp := sp1 fun v H Q _ => ∃ (b : Addr) (ns : List Int), v = .ref b ∧ SqL K H b (ns.map V.int) ∧ ns.length ≤ 63 ∧ ∀ H' p a, Same H H' → H p = none → Draw H' p a → Q (.ref p) H'
abbrev spOne (K : PySem.W.Frag) : Sp := sp2 fun d r H Q _ => ∃ (p a b : Addr) (xs : List V), d = .ref p ∧ r = .ref b ∧ b ≠ p ∧ SqL K H b xs ∧ 0 < xs.length ∧ xs.length < 1000000 ∧ Draw H p a ∧ ∀ H' v, Keep p H H' → Draw H' p a → v ∈ xs → Q v H'
def OkD : Nat → PyData → Prop
  | 0, _ => False
  | n + 1, .list ds => ds.length ≤ 1000000 ∧ ∀ d ∈ ds, OkD n d
  | n + 1, .tuple ds => ds.length ≤ 1000000 ∧ ∀ d ∈ ds, OkD n d
  | _ + 1, .dict _ => False
  | _ + 1, _ => True
abbrev spSame (K : PySem.W.Frag) (n : Nat) : Sp := sp2 fun x y H Q _ => ∃ d : PyData, Dp K H x d ∧ Dp K H y d ∧ OkD n d ∧ ∀ H', Same H H' → Q (.bl true) H'
/-! ### the heap but for some objects -/
def hid (S : List Addr) (H : Hp) : Hp := fun b => if b ∈ S then none else H b
section
variable {S S' : List Addr} {H H' : Hp} {q b : Addr} {o : HO}
theorem hid_get (n : b ∉ S) : hid S H b = H b := if_neg n
theorem hid_none (n : b ∈ S) : hid S H b = none := if_pos n
theorem hid_same : Same (hid S H) H := fun b o e => by
  unfold hid at e
  split at e
  · cases e
  · exact e
theorem hid_up (m : q ∈ S) : hid S (upd H q o) = hid S H := by
  funext b
  unfold hid
  by_cases hb : b ∈ S
  · rw [if_pos hb, if_pos hb]
  · rw [if_neg hb, if_neg hb, upd_ne fun e => hb (by rw [e]; exact m)]
theorem Same.hid (s : Same H H') : Same (hid S H) (hid S H') := fun b o e => by
  unfold U.hid at e ⊢
  split at e
  · cases e
  · rename_i hb
    rw [if_neg hb]
    exact s _ _ e
theorem Keep.hid {p : Addr} (k : Keep p H H') (m : p ∈ S) : Same (hid S H) (hid S H') := fun b o e => by
  unfold U.hid at e ⊢
  split at e
  · cases e
  · rename_i hb
    rw [if_neg hb]
    exact k b o (fun z => hb (by rw [z]; exact m)) e
theorem hid_free (h : H q = none) : hid S H q = none := by
  unfold hid
  split
  · rfl
  · exact h
theorem hid_new (h : H q = none) : hid (q :: S) H = hid S H := by
  funext b
  unfold hid
  by_cases hb : b = q
  · rw [if_pos (by rw [hb]; exact List.mem_cons_self), hb, h]
    split <;> rfl
  · by_cases hS : b ∈ S
    · rw [if_pos (List.mem_cons_of_mem _ hS), if_pos hS]
    · rw [if_neg (by simp [hb, hS]), if_neg hS]
theorem hid_less (h : ∀ x ∈ S, x ∈ S') : Same (hid S' H) (hid S H) := fun b o e => by
  unfold hid at e ⊢
  split at e
  · cases e
  · rename_i hb
    rw [if_neg fun m => hb (h b m)]
    exact e
theorem hid_hid : hid S (hid S' H) = hid (S ++ S') H := by
  funext b
  unfold hid
  by_cases h1 : b ∈ S
  · rw [if_pos h1, if_pos (List.mem_append_left _ h1)]
  · by_cases h2 : b ∈ S'
    · rw [if_neg h1, if_pos h2, if_pos (List.mem_append_right _ h2)]
    · rw [if_neg h1, if_neg h2, if_neg (by simp [h1, h2])]
theorem hid_nil : hid [] H = H := by
  funext b
  exact if_neg (fun m => nomatch m)
end
/-! ### data -/
section
variable {K : PySem.W.Frag} {H H' : Hp}
mutual
theorem Dp.same (s : Same H H') : ∀ (d : PyData) (v : V), Dp K H v d → Dp K H' v d
  | .none, _, h => by cases h; exact .non
  | .bool b, _, h => by cases h; exact .bl b
  | .int i, _, h => by cases h; exact .int i
  | .str x, _, h => by cases h; exact .str x
  | .list ds, _, h => by
    cases h with
    | lst hs ha => exact .lst (s.seq hs) (Dp.sameAll s ds _ ha)
  | .tuple ds, _, h => by
    cases h with
    | tup hs ha => exact .tup (Same.sqT s hs) (Dp.sameAll s ds _ ha)
  | .dict _, _, h => by cases h
theorem Dp.sameAll (s : Same H H') : ∀ (ds : List PyData) (vs : List V), DpAll K H vs ds → DpAll K H' vs ds
  | [], _, h => by cases h; exact .nil
  | d :: ds, _, h => by
    cases h with
    | cons h1 h2 => exact .cons (Dp.same s d _ h1) (Dp.sameAll s ds _ h2)
end
theorem DpAll.length : ∀ {vs : List V} {ds : List PyData}, DpAll K H vs ds → vs.length = ds.length
  | _, _, .nil => rfl
  | _, _, .cons _ h => by rw [List.length_cons, List.length_cons, DpAll.length h]
theorem DpAll.get : ∀ {vs : List V} {ds : List PyData} {i : Nat} {v : V}, DpAll K H vs ds → vs[i]? = some v → ∃ d, ds[i]? = some d ∧ Dp K H v d
  | _, _, _, _, .nil, e => by simp at e
  | _, _, 0, _, .cons h _, e => by
    cases e
    exact ⟨_, rfl, h⟩
  | _, _, i + 1, v, .cons _ h, e => DpAll.get (i := i) (v := v) h e
end
/-! ### data without lists: no list's place is among its own -/
mutual
def noL : PyData → Bool
  | .list _ => false
  | .dict _ => false
  | .tuple ds => noLAll ds
  | .none => true | .bool _ => true | .int _ => true | .str _ => true
def noLAll : List PyData → Bool
  | [] => true
  | d :: ds => noL d && noLAll ds
end
section
variable {K : PySem.W.Frag} {H : Hp} {p : Addr}
theorem SqT.avoid {a : Addr} {xs ys : List V} (hp : H p = some (.lst ys)) (h : SqT K H a xs) : SqT K (hid [p] H) a xs := by
  have ne : ∀ o, H a = some o → o ≠ .lst ys → hid [p] H a = some o := fun o e n => by
    rw [hid_get, e]
    intro m
    rw [List.mem_singleton.mp m, hp] at e
    exact n (Option.some.inj e).symm
  rcases h with (h | ⟨o, h⟩) | h
  · exact .inl (.inl (ne _ h (fun z => by cases z)))
  · exact .inl (.inr ⟨o, ne _ h (fun z => by cases z)⟩)
  · exact .inr h
mutual
theorem Dp.avoid {ys : List V} (hp : H p = some (.lst ys)) : ∀ (d : PyData) (v : V), noL d = true → Dp K H v d → Dp K (hid [p] H) v d
  | .none, _, _, h => by cases h; exact .non
  | .bool b, _, _, h => by cases h; exact .bl b
  | .int i, _, _, h => by cases h; exact .int i
  | .str x, _, _, h => by cases h; exact .str x
  | .list ds, _, n, _ => by simp [noL] at n
  | .tuple ds, _, n, h => by
    cases h with
    | tup hs ha => exact .tup (SqT.avoid hp hs) (Dp.avoidAll hp ds _ (by simpa [noL] using n) ha)
  | .dict _, _, n, _ => by simp [noL] at n
theorem Dp.avoidAll {ys : List V} (hp : H p = some (.lst ys)) : ∀ (ds : List PyData) (vs : List V), noLAll ds = true → DpAll K H vs ds → DpAll K (hid [p] H) vs ds
  | [], _, _, h => by cases h; exact .nil
  | d :: ds, _, n, h => by
    have n' : noL d = true ∧ noLAll ds = true := by simpa [noLAll] using n
    cases h with
    | cons h1 h2 => exact .cons (Dp.avoid hp d _ n'.1 h1) (Dp.avoidAll hp ds _ n'.2 h2)
end
theorem DpAll.take : ∀ {vs : List V} {ds : List PyData} (n : Nat), DpAll K H vs ds → DpAll K H (vs.take n) (ds.take n)
  | _, _, 0, _ => .nil
  | _, _, _ + 1, .nil => .nil
  | _, _, n + 1, .cons h1 h2 => .cons h1 (DpAll.take n h2)
theorem DpAll.drop : ∀ {vs : List V} {ds : List PyData} (n : Nat), DpAll K H vs ds → DpAll K H (vs.drop n) (ds.drop n)
  | _, _, 0, h => h
  | _, _, _ + 1, .nil => .nil
  | _, _, n + 1, .cons _ h2 => DpAll.drop n h2
end
theorem DpAll.set {K : PySem.W.Frag} {H : Hp} {v : V} {d : PyData} (h : Dp K H v d) : ∀ {vs : List V} {ds : List PyData} (i : Nat), DpAll K H vs ds → DpAll K H (vs.set i v) (ds.set i d)
  | _, _, _, .nil => .nil
  | _, _, 0, .cons _ h2 => .cons h h2
  | _, _, i + 1, .cons h1 h2 => .cons h1 (DpAll.set h i h2)
theorem atI_m1 {xs : List V} {x : V} (h : xs[xs.length - 1]? = some x) : atI xs (-1) = some x := by
  have h0 : 0 < xs.length := by
    rcases Nat.eq_zero_or_pos xs.length with z | z
    · rw [List.getElem?_eq_none (by omega)] at h
      cases h
    · exact z
  unfold atI ixN
  rw [if_neg (by omega), if_pos (by omega)]
  show xs[((-1 : Int) + xs.length).toNat]? = some x
  rw [show ((-1 : Int) + xs.length).toNat = xs.length - 1 by omega]
  exact h
theorem Draw.lst {H : Hp} {p a : Addr} (d : Draw H p a) : ∃ ys, H p = some (.lst ys) := by
  obtain ⟨ns, c, h, t, e, _⟩ := d.ex
  exact ⟨_, e⟩
theorem cutV_take (xs : List V) (i : Nat) : cutV xs none (some (i : Int)) = xs.take i := by
  unfold cutV
  rw [HT.sIx_none, HT.sIx_nat, List.drop_zero, Nat.sub_zero]
  rcases Nat.lt_or_ge i xs.length with h | h
  · rw [Nat.min_eq_left (Nat.le_of_lt h)]
  · rw [Nat.min_eq_right h, List.take_length, List.take_of_length_le h]
theorem cutV_drop (xs : List V) (i : Nat) : cutV xs (some (i : Int)) none = xs.drop i := by
  unfold cutV
  rw [HT.sIx_none, HT.sIx_nat]
  rcases Nat.lt_or_ge i xs.length with h | h
  · rw [Nat.min_eq_left (Nat.le_of_lt h)]
    exact List.take_of_length_le (by rw [List.length_drop]; exact Nat.le_refl _)
  · rw [Nat.min_eq_right h, List.drop_length, List.drop_eq_nil_of_le h]
    exact List.take_nil
/-! ### kinds -/
def tyD : PyData → String
  | .none => "NoneType" | .bool _ => "bool" | .int _ => "int" | .str _ => "str" | .list _ => "list" | .tuple _ => "tuple" | .dict _ => "dict"
def isList : PyData → Bool
  | .list _ => true | _ => false
def isSeq : PyData → Bool
  | .list _ => true | .tuple _ => true | _ => false
def isBool : PyData → Bool
  | .bool _ => true | _ => false
def isStr : PyData → Bool
  | .str _ => true | _ => false
section
variable {K : PySem.W.Frag} {H : Hp} {Q : VK} {x : V} {d : PyData}
theorem Dp.ty (h : Dp K H x d) : TyX K H x (.type (tyD d)) := by
  cases h with
  | non => exact .base .non
  | bl b => exact .base (.bl b)
  | int i => exact .base (.int i)
  | str z => exact .base (.str z)
  | lst hs _ =>
    rcases hs with (h | ⟨o, h⟩) | ⟨o, its, n, e, c, _⟩
    · exact .base (.lst h)
    · exact .base (.frz h)
    · exact .kList e c
  | tup hs _ =>
    rcases hs with (h | ⟨o, h⟩) | ⟨o, its, n, e, c, _⟩
    · exact .base (.tup h)
    · exact .fTuple h
    · exact .kTuple e c
theorem s_isiLT {tp : Addr} (hd : Dp K H x d) (h : H tp = some (.tup [.ty "list", .ty "tuple"])) (z : Q (.bl (isSeq d)) H) : rIsiT K [x, .ref tp] H Q :=
  ⟨x, tp, _, _, [.type "list", .type "tuple"], isSeq d, rfl, h, .cons (.ty _) (.cons (.ty _) .nil), Dp.ty hd, by clear hd z; cases d <;> rfl, z⟩
theorem s_isiL (hd : Dp K H x d) (z : Q (.bl (isList d)) H) : rIsi K [x, .ty "list"] H Q := ⟨x, _, _, _, isList d, rfl, .ty _, Dp.ty hd, by clear hd z; cases d <;> rfl, z⟩
theorem s_isiB (hd : Dp K H x d) (z : Q (.bl (isBool d)) H) : rIsi K [x, .ty "bool"] H Q := ⟨x, _, _, _, isBool d, rfl, .ty _, Dp.ty hd, by clear hd z; cases d <;> rfl, z⟩
theorem s_isiS (hd : Dp K H x d) (z : Q (.bl (isStr d)) H) : rIsi K [x, .ty "str"] H Q := ⟨x, _, _, _, isStr d, rfl, .ty _, Dp.ty hd, by clear hd z; cases d <;> rfl, z⟩
theorem s_isNV (z : Q (.bl (decide (x = .non))) H) : tIsN (fun _ H Q => Q x H) [] H Q := z
end
/-! ### comprehensions -/
def lcB (J : It) (g : TG) (tt : TT) (te : TE) (vs : List Nat) (σ : St) (H1 : Hp) (Q : VK) : Prop :=
  ∀ D, H1 D = none → ∃ W : Nat → Nat → Hp → Prop, (∃ m, W 0 m (upd H1 D (.lst []))) ∧ ∀ i m H, W i m H →
  (J.stop i H ∧ Q (.ref D) H) ∨ (J.go i H ∧ ∃ Nx : Hp → Prop, (∀ H', Nx H' → ∃ m', m' < m ∧ W (i + 1) m' H') ∧ ∀ x H', J.yld i H x H' → g x (wipe σ vs) H' fun σ2 H2 => wipe σ2 vs = wipe σ vs ∧ tt σ2 H2 fun b H3 =>
    if b = true then te σ2 H3 fun y H4 => ∃ acc, H4 D = some (.lst acc) ∧ acc.length < sizeLine ∧ Nx (upd H4 D (.lst (acc ++ [y]))) else Nx H3)
/-- what an element's end is asked: the new list with the element -/
def LcPost (S : Addr → Nat → List V → Hp → Prop) (D : Addr) (i : Nat) (y : V) (H4 : Hp) : Prop :=
  ∃ acc, H4 D = some (.lst acc) ∧ acc.length < sizeLine ∧ (∃ acc', (upd H4 D (.lst (acc ++ [y]))) D = some (.lst acc') ∧ acc'.length ≤ i + 1 ∧ S D (i + 1) acc' (upd H4 D (.lst (acc ++ [y]))))
def LcSkip (S : Addr → Nat → List V → Hp → Prop) (D : Addr) (i : Nat) (H3 : Hp) : Prop := ∃ acc', H3 D = some (.lst acc') ∧ acc'.length ≤ i + 1 ∧ S D (i + 1) acc' H3
theorem LcPost.mk {S : Addr → Nat → List V → Hp → Prop} {D : Addr} {i : Nat} {y : V} {H4 : Hp} {acc : List V} (h : H4 D = some (.lst acc)) (l : acc.length ≤ i) (n : i < 1000000) (s : S D (i + 1) (acc ++ [y]) (upd H4 D (.lst (acc ++ [y])))) : LcPost S D i y H4 :=
  ⟨acc, h, Nat.lt_of_le_of_lt l (Nat.lt_trans n (by decide)), _, upd_same, by rw [List.length_append]; exact Nat.add_le_add_right l 1, s⟩
theorem LcSkip.mk {S : Addr → Nat → List V → Hp → Prop} {D : Addr} {i : Nat} {H3 : Hp} {acc : List V} (h : H3 D = some (.lst acc)) (l : acc.length ≤ i) (s : S D (i + 1) acc H3) : LcSkip S D i H3 := ⟨acc, h, Nat.le_succ_of_le l, s⟩
section
variable {K : PySem.W.Frag} {σ : St} {H1 : Hp} {Q : VK} {J : It} {g : TG} {te : TE} {vs : List Nat}
theorem tYes_mk {H : Hp} {R : Bool → Hp → Prop} (z : R true H) : tYes σ H R := z
theorem s_lc {wi : TI} {tt : TT} (z : wi σ H1 fun J H => lcB J g tt te vs σ H Q) : tLc wi g tt te vs σ H1 Q := z
theorem s_iStr {ta : TE} {R : It → Hp → Prop} (z : ta σ H1 fun v H => ∃ x, v = .str x ∧ R (Its x) H) : iStr ta σ H1 R := z
theorem s_str {a : Str} {R : Str → Prop} (z : R a) : ∃ x, V.str a = .str x ∧ R x := ⟨a, rfl, z⟩
theorem s_iRng1 {ta : TA} {R : It → Hp → Prop} (z : ta σ H1 fun vs H => ∃ j : Int, vs = [.int j] ∧ -(2 ^ 62) ≤ j ∧ j < 2 ^ 62 ∧ R (Itr 0 j.toNat) H) : iRng1 ta σ H1 R := z
theorem s_rng1 {j : Int} {R : Int → Prop} (h1 : -(2 ^ 62) ≤ j) (h2 : j < 2 ^ 62) (z : R j) : ∃ k : Int, [V.int j] = [.int k] ∧ -(2 ^ 62) ≤ k ∧ k < 2 ^ 62 ∧ R k := ⟨j, rfl, h1, h2, z⟩
theorem s_iList {ta : TE} {R : It → Hp → Prop} (z : ta σ H1 fun v H => ∃ a, v = .ref a ∧ (∃ xs, SqL K H a xs) ∧ R (Itl K a) H) : iList K ta σ H1 R := z
theorem s_iTup {ta : TE} {R : It → Hp → Prop} (z : ta σ H1 fun v H => ∃ a, v = .ref a ∧ (∃ xs, SqT K H a xs) ∧ R (Itt K a) H) : iTup K ta σ H1 R := z
theorem s_itL {a : Addr} {xs : List V} {R : Addr → Prop} (h : SqL K H1 a xs) (z : R a) : ∃ b, V.ref a = .ref b ∧ (∃ xs, SqL K H1 b xs) ∧ R b := ⟨a, rfl, ⟨xs, h⟩, z⟩
theorem s_itT {a : Addr} {xs : List V} {R : Addr → Prop} (h : SqT K H1 a xs) (z : R a) : ∃ b, V.ref a = .ref b ∧ (∃ xs, SqT K H1 b xs) ∧ R b := ⟨a, rfl, ⟨xs, h⟩, z⟩
theorem s_iZipA {ta : TA} {R : It → Hp → Prop} (z : ta σ H1 fun vs H => ∃ a b xs ys, vs = [.ref a, .ref b] ∧ ((SqL K H a xs ∧ SqL K H b ys ∧ R (Itz K a b) H) ∨ (SqT K H a xs ∧ SqT K H b ys ∧ R (ItzT K a b) H))) : iZipA K ta σ H1 R := z
def forB (J : It) (g : TG) (tb : TS) (D : Ends) (σ : St) (H : Hp) : Prop := ∃ W : Nat → Nat → St → Hp → Prop, (∃ m, W 0 m σ H) ∧ ∀ i m σ H, W i m σ H →
  (J.stop i H ∧ D.nx σ H) ∨ (J.go i H ∧ ∃ N : St → Hp → Prop, (∀ σ' H', N σ' H' → ∃ m', m' < m ∧ W (i + 1) m' σ' H') ∧ ∀ x H', J.yld i H x H' → g x σ H' fun σ2 H2 => tb { D with nx := N, ct := N, bk := D.nx } σ2 H2)
theorem s_for {wi : TI} {tb : TS} {D : Ends} (z : wi σ H1 fun J H => forB J g tb D σ H) : tFor wi g tb D σ H1 := z
theorem forB_range {lo : Int} {n : Nat} {tb : TS} {nx : St → Hp → Prop} {rt : VK} {bk ct : St → Hp → Prop} (Pv : Nat → St → Hp → Prop) (h0 : Pv 0 σ H1)
    (hs : ∀ i σ H, i < n → Pv i σ H → g (.int (lo + i)) σ H fun σ2 H2 => tb ⟨Pv (i + 1), rt, nx, Pv (i + 1)⟩ σ2 H2) (hd : ∀ σ H, Pv n σ H → nx σ H) : forB (Itr lo n) g tb ⟨nx, rt, bk, ct⟩ σ H1 := for_range Pv h0 hs hd
theorem forB_list {a : Addr} {xs : List V} {tb : TS} {nx : St → Hp → Prop} {rt : VK} {bk ct : St → Hp → Prop} (Pv : Nat → St → Hp → Prop) (h0 : Pv 0 σ H1) (hl : ∀ i σ H, i ≤ xs.length → Pv i σ H → SqL K H a xs)
    (hs : ∀ i x σ H, xs[i]? = some x → Pv i σ H → g x σ H fun σ2 H2 => tb ⟨Pv (i + 1), rt, nx, Pv (i + 1)⟩ σ2 H2) (hd : ∀ σ H, Pv xs.length σ H → nx σ H) : forB (Itl K a) g tb ⟨nx, rt, bk, ct⟩ σ H1 := for_list Pv h0 hl hs hd
theorem s_yes {A B : Hp → Prop} (z : A H1) : tYes σ H1 (fun b H3 => if b = true then A H3 else B H3) := tYes_mk (if_pos rfl ▸ z)
theorem forB_of {tb : TS} {nx : St → Hp → Prop} {rt : VK} {bk ct : St → Hp → Prop} (n : Nat) (Pv : Nat → St → Hp → Prop) (h0 : Pv 0 σ H1) (hgo : ∀ i σ H, i < n → Pv i σ H → J.go i H) (hst : ∀ σ H, Pv n σ H → J.stop n H)
    (hs : ∀ i σ H x H', i < n → Pv i σ H → J.yld i H x H' → g x σ H' fun σ2 H2 => tb ⟨Pv (i + 1), rt, nx, Pv (i + 1)⟩ σ2 H2) (hd : ∀ σ H, Pv n σ H → nx σ H) : forB J g tb ⟨nx, rt, bk, ct⟩ σ H1 := by
  refine ⟨fun i m σ H => m = n - i ∧ i ≤ n ∧ Pv i σ H, ⟨n, rfl, Nat.zero_le _, h0⟩, ?_⟩
  rintro i m σ H ⟨rfl, hi, p⟩
  by_cases hlt : i < n
  · exact .inr ⟨hgo i σ H hlt p, Pv (i + 1), fun σ' H' p' => ⟨n - (i + 1), by omega, rfl, hlt, p'⟩, fun x H' hy => hs i σ H x H' hlt p hy⟩
  · have e : i = n := by omega
    subst e
    exact .inl ⟨hst σ H p, hd σ H p⟩
def WhB (Pv : Nat → St → Hp → Prop) (m : Nat) (tb : TS) (rt : VK) (nx : St → Hp → Prop) (σ : St) (H : Hp) : Prop := ∃ N : St → Hp → Prop, (∀ σ' H', N σ' H' → ∃ m', m' < m ∧ Pv m' σ' H') ∧ tb ⟨N, rt, nx, N⟩ σ H
theorem WhB.mk {Pv : Nat → St → Hp → Prop} {m : Nat} {tb : TS} {rt : VK} {nx : St → Hp → Prop} (z : tb ⟨fun σ' H' => ∃ m', m' < m ∧ Pv m' σ' H', rt, nx, fun σ' H' => ∃ m', m' < m ∧ Pv m' σ' H'⟩ σ H1) : WhB Pv m tb rt nx σ H1 := ⟨_, fun _ _ h => h, z⟩
theorem s_while {tc : TT} {tb : TS} {nx : St → Hp → Prop} {rt : VK} {bk ct : St → Hp → Prop} (Pv : Nat → St → Hp → Prop) (m0 : Nat) (h0 : Pv m0 σ H1) (hs : ∀ m σ H, Pv m σ H → tc σ H fun b H1 => if b = true then WhB Pv m tb rt nx σ H1 else nx σ H1) : tWhile tc tb ⟨nx, rt, bk, ct⟩ σ H1 := ⟨Pv, ⟨m0, h0⟩, hs⟩
/-- a comprehension, by a word S (the new list's place, the turn, what it holds, the heap) -/
theorem lcB_of {tt : TT} (n : Nat) (S : Addr → Nat → List V → Hp → Prop) (h0 : ∀ D, H1 D = none → S D 0 [] (upd H1 D (.lst [])))
    (hgo : ∀ D i acc H, H1 D = none → i < n → S D i acc H → J.go i H) (hst : ∀ D acc H, H1 D = none → S D n acc H → J.stop n H)
    (hs : ∀ D i acc H x H', H1 D = none → i < n → H D = some (.lst acc) → acc.length ≤ i → S D i acc H → J.yld i H x H' → g x (wipe σ vs) H' fun σ2 H2 => wipe σ2 vs = wipe σ vs ∧ tt σ2 H2 fun b H3 => if b = true then te σ2 H3 (LcPost S D i) else LcSkip S D i H3)
    (hd : ∀ D acc H, H1 D = none → H D = some (.lst acc) → acc.length ≤ n → S D n acc H → Q (.ref D) H) : lcB J g tt te vs σ H1 Q := by
  intro D hD
  refine ⟨fun i m H => m = n - i ∧ i ≤ n ∧ ∃ acc, H D = some (.lst acc) ∧ acc.length ≤ i ∧ S D i acc H, ⟨n, rfl, Nat.zero_le _, [], upd_same, Nat.le_refl _, h0 D hD⟩, ?_⟩
  rintro i m H ⟨rfl, hi, acc, ha, hl, hS⟩
  by_cases hlt : i < n
  · exact .inr ⟨hgo D i acc H hD hlt hS, fun H' => ∃ acc', H' D = some (.lst acc') ∧ acc'.length ≤ i + 1 ∧ S D (i + 1) acc' H', fun H' ⟨acc', e1, e2, e3⟩ => ⟨n - (i + 1), by omega, rfl, hlt, acc', e1, e2, e3⟩, fun x H' hy => hs D i acc H x H' hD hlt ha hl hS hy⟩
  · have e : i = n := by omega
    subst e
    exact .inl ⟨hst D acc H hD hS, hd D acc H hD ha hl hS⟩
/-- each sign of a text, by a function, the heap as it is -/
theorem lcB_str {a : Str} {i : Nat} (f : Nat → V) (hn : a.length ≤ 1000000) (hw : ∀ x, wipe ((wipe σ vs).set i (some x)) vs = wipe σ vs)
    (he : ∀ c H R, R (f c) H → te ((wipe σ vs).set i (some (.str ⟨#[c]⟩))) H R) (q : ∀ D, H1 D = none → Q (.ref D) (upd H1 D (.lst (a.cps.toList.map f)))) : lcB (Its a) (gName i) tYes te vs σ H1 Q := by
  refine lcB_of a.cps.size (fun D n acc H => acc = (a.cps.toList.take n).map f ∧ H = upd H1 D (.lst acc)) (fun D _ => ⟨rfl, rfl⟩) (fun D i acc H _ h _ => h) (fun D acc H _ _ => Nat.le_refl _) ?_ ?_
  · rintro D k acc H x H' hD hk ha hl ⟨e1, e2⟩ ⟨rfl, c, hc, rfl⟩
    refine ⟨hw _, s_yes ?_⟩
    refine he c _ _ (LcPost.mk ha hl (Nat.lt_of_lt_of_le hk hn) ⟨?_, ?_⟩)
    · rw [List.take_add_one, show a.cps.toList[k]? = some c by rw [Array.getElem?_toList]; exact hc, List.map_append, ← e1]
      rfl
    · rw [e2, upd_upd]
  · rintro D acc H hD ha hl ⟨e1, rfl⟩
    have e : acc = a.cps.toList.map f := by rw [e1, List.take_of_length_le (by rw [Array.length_toList]; exact Nat.le_refl _)]
    rw [e]
    exact q D hD
end
end L2.U
/-! U2: more union rules: targets with a star, defs with defaults, except .. as, isinstance of a caught one. Own text. -/
namespace L2.U
open PySem PySem.Spec PySem.Calls PyProof.Rows
/-! ### a, *rest = a list or a tuple -/
section
variable {prog : Program} {w : World} {A : Around} {E : Value → Shared → Prop} {s : Shared}
/-- what a starred unpacking is asked: the list in the middle is new, all else stands -/
abbrev StarQ (its : Array Value) (n i : Nat) (u : Shared) (F : List Value → Shared → Prop) : Prop := ∀ (g : Heap) tk, (∀ b o, u.heap.get? b = some o → g.get? b = some o) →
  F (its.toList.take i ++ [.ref g.objs.size] ++ (its.toList.drop i).drop (its.size + 1 - n)) { u with heap := g.push { cls := .type "list", data := .seq ((its.toList.drop i).take (its.size + 1 - n)).toArray }, toks := tk }
theorem star_L {l : Addr} {its : Array Value} {n i : Nat} {F : List Value → Shared → Prop} (eL : s.heap.IsList l its) (cl : A.handled = none) (lt : i < n) (le : n ≤ its.size + 1) (sm : its.size ≤ 16384) (fin : StarQ its n i s F) :
    wpAny (model prog w) A (unpackItems (.ref l) n (some i)) F E s := by
  have apart : l ≠ s.heap.objs.size := (fun ⟨_, e, _⟩ => Nat.ne_of_lt (Heap.lt_size e)) eL
  have cut1 : (its.toList.take i).length = i := (List.length_take).trans (by rw [Array.length_toList]; omega)
  have cut2 : (its.toList.drop i).length = its.size - i := (List.length_drop).trans (by rw [Array.length_toList])
  unfold unpackItems notIterableAtAll
  refine wpAny_bind (wpAny_bind (wpAny_specialOf eL.typeIs slot_list_iter.lookup (wpAny_pure ?_)))
  rw [if_neg Bool.false_ne_true]
  refine wpAny_bind (wpAny_holding (wpAny_pyIter_list eL (wpAny_bind (wpAny_holding (PySem.W.kun_draw apart i 0 _ _ ⟨_, Heap.get?_push_size _ rfl, rfl, rfl⟩ (eL.push _) (by omega) fun g it kp => ?_)))))
  have eL2 := (eL.push _).extBut kp.extBut apart
  rw [Nat.zero_add] at it
  rw [List.drop_zero, if_neg (by rw [cut1]; omega)]
  have szI := (fun ⟨_, e, _⟩ => Heap.lt_size e : g.IsListIter s.heap.objs.size l i → _) it
  have szL := (fun ⟨_, e, _⟩ => Heap.lt_size e : g.IsList l its → _) eL2
  refine wpAny_bind (wpAny_holding (PySem.W.kun_collect (s := { s with heap := g }) (T := "list_iterator") (.inr (.inr (.inl rfl))) (Walks.list (A := A.in1) cl s.heap.objs.size l apart its) (fun _ _ st => st.1.typeIs) (k := i) (by omega) ⟨it, eL2⟩ szI szL (fun g2 tk kp2 => ?_) (by rw [sizeLine_eq]; omega)))
  dsimp only
  rw [if_neg (by rw [cut2]; omega), show (its.toList.drop i).length - (n - 1 - i) = its.size + 1 - n by rw [cut2]; omega]
  exact wpAny_bind (wpAny_newList (wpAny_pure (fin g2 tk fun b o e => kp2 b o (Nat.ne_of_lt (Heap.lt_size e)) (kp.extBut b o (Nat.ne_of_lt (Heap.lt_size e)) (Heap.get?_push_of_some _ e)))) (by rw [List.length_take, cut2, sizeLine_eq]; omega))
theorem star_T {l : Addr} {its : Array Value} {n i : Nat} {F : List Value → Shared → Prop} (eT : IsTup s.heap l its) (cl : A.handled = none) (lt : i < n) (le : n ≤ its.size + 1) (sm : its.size ≤ 16384) (fin : StarQ its n i s F) :
    wpAny (model prog w) A (unpackItems (.ref l) n (some i)) F E s := by
  have apart : l ≠ s.heap.objs.size := (fun ⟨_, e, _⟩ => Nat.ne_of_lt (Heap.lt_size e)) eT
  have cut1 : (its.toList.take i).length = i := (List.length_take).trans (by rw [Array.length_toList]; omega)
  have cut2 : (its.toList.drop i).length = its.size - i := (List.length_drop).trans (by rw [Array.length_toList])
  unfold unpackItems notIterableAtAll
  refine wpAny_bind (wpAny_bind (wpAny_specialOf eT.typeIs slot_tuple_iter.lookup (wpAny_pure ?_)))
  rw [if_neg Bool.false_ne_true]
  refine wpAny_bind (wpAny_holding (iter_tuple eT (wpAny_bind (wpAny_holding (draw_tuple apart i 0 _ _ ⟨_, Heap.get?_push_size _ rfl, rfl, rfl⟩ (eT.push _) (by omega) fun g it kp => ?_)))))
  have eT2 := (eT.push _).extBut kp.extBut apart
  rw [Nat.zero_add] at it
  rw [List.drop_zero, if_neg (by rw [cut1]; omega)]
  have szI : s.heap.objs.size < g.objs.size := by have it2 := it; obtain ⟨_, e, _⟩ := it2; exact Heap.lt_size e
  have szT : l < g.objs.size := by have e2 := eT2; obtain ⟨_, e, _⟩ := e2; exact Heap.lt_size e
  refine wpAny_bind (wpAny_holding (PySem.W.kun_collect (s := { s with heap := g }) (T := "tuple_iterator") (.inr (.inr (.inr rfl))) (Walks.tuple (A := A.in1) cl s.heap.objs.size l apart its) (fun _ _ st => st.1.typeIs) (k := i) (by omega) ⟨it, eT2⟩ szI szT (fun g2 tk kp2 => ?_) (by rw [sizeLine_eq]; omega)))
  dsimp only
  rw [if_neg (by rw [cut2]; omega), show (its.toList.drop i).length - (n - 1 - i) = its.size + 1 - n by rw [cut2]; omega]
  exact wpAny_bind (wpAny_newList (wpAny_pure (fin g2 tk fun b o e => kp2 b o (Nat.ne_of_lt (Heap.lt_size e)) (kp.extBut b o (Nat.ne_of_lt (Heap.lt_size e)) (Heap.get?_push_of_some _ e)))) (by rw [List.length_take, cut2, sizeLine_eq]; omega))
end
def gStar (K : PySem.W.Frag) (n i : Nat) (t : TGs) : TG := fun v σ H Q => ∃ a xs, v = .ref a ∧ (SqL K H a xs ∨ SqT K H a xs) ∧ n ≤ xs.length + 1 ∧ xs.length ≤ 16384 ∧
  ∀ l, H l = none → t (xs.take i ++ [.ref l] ++ (xs.drop i).drop (xs.length + 1 - n)) σ (upd H l (.lst ((xs.drop i).take (xs.length + 1 - n)))) Q
section
variable {X : Cx} {pos : Pos}
theorem pg_star {es : List Expr} {k : Nat} {t : TGs} {n i : Nat} (hc : X.calm = true) (h : PGs X es t)
    (hn : (assignEach es X.env).length = n := by rfl) (hst : (assignEach es X.env).findIdx? (·.1) = some i := by rfl) : PG X (.Tuple es k pos) (gStar X.K n i t) := by
  refine ⟨fun pins s σ H v u Q I r hw => ?_⟩
  obtain ⟨a, xs, e1, hq, hl, hz, hw⟩ := hw
  subst e1
  cases r
  have hi : i < n := by
    have := List.findIdx?_eq_some_iff_findIdx_eq.mp hst
    omega
  rw [PyProof.Rows.assign_Tuple]
  refine wpAny_bind (wpAny_standAt ?_)
  unfold unpack
  rw [hn, hst]
  have fin : ∀ (its : List Value), Vals xs its → ∀ (h₂ : Heap) tk, (∀ b o, s.heap.get? b = some o → h₂.get? b = some o) →
      wpAny (model X.prog X.w) X.A (assignInOrder ((assignEach es X.env).map (·.2)) (its.take i ++ [.ref h₂.objs.size] ++ (its.drop i).drop (its.length + 1 - n))) (fun _ s' => ∃ σ' H', Inv X pins σ' H' s' ∧ Q σ' H') X.xe
        { s with heap := h₂.push { cls := .type "list", data := .seq ((its.drop i).take (its.length + 1 - n)).toArray }, toks := tk } := by
    intro its rv h₂ tk hk
    have hx := rv.length
    have I2 : Inv X pins σ H { s with heap := h₂, toks := tk } := I.kept (t' := tk) hk
    have I3 := I2.laid (a := h₂.objs.size) (o := .lst ((xs.drop i).take (xs.length + 1 - n))) (h' := h₂.push { cls := .type "list", data := .seq ((its.drop i).take (its.length + 1 - n)).toArray }) (t' := tk) (fun b o e => Heap.get?_push_of_some _ e) (Nat.le_refl _)
      (show ObjOk X.prog X.w _ _ _ (.lst _) from ⟨by rw [List.length_take, List.length_drop, sizeLine_eq]; omega, (its.drop i).take (its.length + 1 - n), 0, by rw [← hx]; exact (rv.drop i).take _, Heap.get?_push_size _ rfl⟩)
    refine h.run pins _ σ _ _ _ Q I3 ?_ (hw _ (I2.hok.fresh (Nat.le_refl _)))
    rw [← hx]
    exact ((rv.take i).append (Paired.cons (show RelV (.ref h₂.objs.size) (.ref h₂.objs.size) from rfl) .nil)).append ((rv.drop i).drop _)
  rcases hq with hq | hq
  · obtain ⟨its, rv, pl, _⟩ := I.list hq
    have hx := rv.length
    have hl' : s.heap.IsList a its.toArray := by
      obtain ⟨o, m, e, c, d, q⟩ := pl
      exact ⟨o, e, c, m, q⟩
    refine wpAny_bind (wpAny_holding (star_L hl' (I.ok.hd hc) hi (by simp; omega) (by simp; omega) fun h₂ tk hk => ?_))
    exact by simpa using fin its rv h₂ tk hk
  · obtain ⟨its, rv, ht, _⟩ := I.tuple hq
    have hx := rv.length
    refine wpAny_bind (wpAny_holding (star_T ht (I.ok.hd hc) hi (by simp; omega) (by simp; omega) fun h₂ tk hk => ?_))
    exact by simpa using fin its rv h₂ tk hk
theorem pgs_star {e : Expr} {es : List Expr} {t : TG} {u : TGs} {sp : Pos} (h1 : PG X e t) (h2 : PGs X es u)
    (hs : (assignEach (.Starred e sp :: es) X.env).map (·.2) = assign e X.env :: (assignEach es X.env).map (·.2) := by rfl) : PGs X (.Starred e sp :: es) (gCons t u) := by
  refine ⟨fun pins s σ H vs us Q I r h => ?_⟩
  obtain ⟨v, vr, e1, h⟩ := h
  subst e1
  cases r with
  | cons r rr =>
    rw [hs]
    refine PyProof.Rows.assignInOrder_cons (thn (h1.run pins s σ H _ _ _ I r h) fun _ s1 ⟨σ1, H1, I1, q1⟩ => ?_)
    exact h2.run pins s1 σ1 H1 _ _ Q I1 rr q1
theorem u_star {K : PySem.W.Frag} {es : List Expr} {k : Nat} {t : TGs} {n i : Nat} (hc : X.calm = true) (h : PGs X es t) (hK : X.K = K := by rfl)
    (hn : (assignEach es X.env).length = n := by rfl) (hst : (assignEach es X.env).findIdx? (·.1) = some i := by rfl) : PG X (.Tuple es k pos) (gStar K n i t) := hK ▸ pg_star hc h hn hst
end
/-! ### defs with defaults -/
structure OkFd (P : Program) (w : World) (K : PySem.W.Frag) (mg : Str → Option Value) (base : Heap) (CX : CXT) (k : Nat) (x : Str) (ps : List Str) (dvs : List V) (sp : Sp) : Prop where
  ex : ∃ (f : Addr) (fd : FuncData) (ds : List Value), mg x = some (.ref f) ∧ PySem.W.keepIn K (.ref f) = true ∧ Vals dvs ds ∧ Binds K fd ps ds ∧ FnOk P w K mg base CX k f fd ps sp
structure DefD (K : PySem.W.Frag) (mg : Str → Option Value) (x : Str) (st : Stmt) (ps : List Str) (dvs : List V) : Prop where
  ex : ∃ (f : Addr) (fd : FuncData) (ds : List Value), FunD K x x (defArgs st) (defBody st) (defScope st) dvs [] f fd ∧ mg x = some (.ref f) ∧ Vals dvs ds ∧ Binds K fd ps ds
section
variable {P : Program} {w : World} {K : PySem.W.Frag} {mg : Str → Option Value} {base : Heap} {x : Str} {st : Stmt} {N ps : List Str} {dvs : List V} {k : Nat} {sp : Sp}
theorem DefD.ok (D : DefD K mg x st ps dvs) (S : FnScope N ps (defScope st)) (len : ∀ vs H Q E, sp vs H Q E → vs.length = ps.length)
    (hbody : ∀ (f : Addr) (cdv : Value) (A : Around) (outer : List Env) (s : Shared) (H : Hp) (vs : List V) (Q : VK) (E : XK), Room k (A.deeper (envOfC x (defScope st) s.heap.objs.size f cdv)) → sp vs H Q E →
      ∃ t, PSs (cxOf CX0 P w K mg base N x (defScope st) f cdv A outer s H E).nox (defBody st) t ∧ t { nx := fun _ H' => Q .non H', rt := Q } (start N vs) H) : OkFd P w K mg base CX0 (k + 1) x ps dvs sp := by
  obtain ⟨f, fd, ds, F, g, v, b⟩ := D.ex
  refine ⟨f, fd, ds, g, F.kp, v, b, F.ok S len fun cdv A outer s H vs Q E hr h => ?_⟩
  obtain ⟨t, h1, h2⟩ := hbody f cdv A outer s H vs Q E hr h
  exact ⟨t, h1.nox, h2⟩
theorem DefD.okX (D : DefD K mg x st ps dvs) (S : FnScope N ps (defScope st)) (len : ∀ vs H Q E, sp vs H Q E → vs.length = ps.length)
    (hbody : ∀ (f : Addr) (cdv : Value) (A : Around) (outer : List Env) (s : Shared) (H : Hp) (vs : List V) (Q : VK) (E : XK), Room k (A.deeper (envOfC x (defScope st) s.heap.objs.size f cdv)) → sp vs H Q E →
      ∃ t, PSs (cxOf (L2.CX P w) P w K mg base N x (defScope st) f cdv A outer s H E) (defBody st) t ∧ t { nx := fun _ H' => Q .non H', rt := Q } (start N vs) H) : OkFd P w K mg base (L2.CX P w) (k + 1) x ps dvs sp := by
  obtain ⟨f, fd, ds, F, g, v, b⟩ := D.ex
  exact ⟨f, fd, ds, g, F.kp, v, b, F.ok S len fun cdv A outer s H vs Q E hr h => hbody f cdv A outer s H vs Q E hr h⟩
theorem OkFd.mono {CX : CXT} {j : Nat} (O : OkFd P w K mg base CX j x ps dvs sp) (h : j ≤ k) : OkFd P w K mg base CX k x ps dvs sp := by
  obtain ⟨f, fd, ds, a, b, v, c, d⟩ := O.ex
  exact ⟨f, fd, ds, a, b, v, c, d.mono h⟩
end
section
variable {X : Cx} {CX : CXT} {k : Nat} {x : Str} {ps : List Str} {dvs : List V} {sp : Sp} {E : XK} {p pos : Pos} {e : Expr} {es : List Expr} {t : TA}
theorem u_callD (O : OkFd X.prog X.w X.K X.mg X.base CX k x ps dvs sp) (hr : Room k X.A) (hx : Passes CX X E) (ha : PA X (e :: es) t) (hg : Gl X x := by rfl) (hdb : (x == ("__debug__" : Str)) = false := by decide)
    (he : starEach (e :: es) X.env = (false, eval e X.env) :: starEach es X.env := by rfl) (hpl : (backTo pos (starEach es X.env)).any (·.1) = false := by rfl) :
    PE X (.Call (.Name x p) (e :: es) [] pos) (tCall sp dvs E t) := by
  obtain ⟨f, fd, ds, hm, hk, v, hb, F⟩ := O.ex
  exact pe_call F hr hg hm hk hb v hx ha hdb he hpl
end
/-! ### except x as n -/
section
variable {X : Cx} {x n : Str} {c : Value} {i : Nat} {body suite : List Stmt} {b₀ : Stmt} {np pos pos' : Pos} {tb : WX → TS} {ts : Addr → Value → Option Addr → TS} {Wout : WX}
theorem u_try_as {K : PySem.W.Frag} (hs : X.stack = X.env :: X.outer) (hf : X.env.frame = some X.env.locals) (hN : X.N.Nodup) (hi : X.N[i]? = some n) (hln : X.env.kindOf n = some .local) (hc : Names X x c) (tk : Takes X Wout)
    (hb : ∀ (W : WX) (pn : List (Addr × Obj)) (xe : Value → Shared → Prop), Takes (X.tr pn xe) W → PassesOwn (model X.prog X.w) X.A X.env xe → PSs (X.tr pn xe) body (tb W))
    (hsu : ∀ (a : Addr) (oe : Obj) (cls : Value) (d : Option Addr) (pn : List (Addr × Obj)), Zc cls d oe → (∃ vs, oe.data = .fields vs) → PSs (X.suite a ((a, oe) :: pn)) (b₀ :: suite) (ts a cls d)) (h : X.K = K := by rfl) :
    PS X (.Try body [.ExceptHandler (some (.Name x np)) (some n) (b₀ :: suite) pos'] [] [] pos) (tTry tb (wAs K c i ts Wout)) := h ▸ ps_try_as hs hf hN hi hln hc tk hb hsu
end
def rIsEU (K : PySem.W.Frag) (cls : Value) (d : Option Addr) (a : Addr) : List V → Hp → VK → Prop := fun xs H Q => ∃ D, cls = .ref D ∧ d = none ∧ ExcC K D ∧ rIsE K D a xs H Q
theorem u_isE {X : Cx} {K : PySem.W.Frag} {a : Addr} {oe : Obj} {cls : Value} {d : Option Addr} {pn : List (Addr × Obj)} (hz : Zc cls d oe) (hf : ∃ vs, oe.data = .fields vs) (h : X.K = K := by rfl) : CallR (X.suite a ((a, oe) :: pn)) (.builtin "isinstance") (rIsEU K cls d a) := by
  subst h
  intro pins s σ H xs us Q I r hh
  obtain ⟨D, rfl, rfl, C, hr⟩ := hh
  exact call_isE C hz hf pins s σ H xs us Q I r hr
/-! ### str, int -/
section
variable {X : Cx}
def rStrU : List V → Hp → VK → Prop := fun xs H Q => (∃ i, xs = [.int i] ∧ i.natAbs.log2 < 1920 ∧ Q (.str (toString i)) H) ∨ ∃ a, xs = [.str a] ∧ Q (.str a) H
theorem call_strU : CallR X (.type "str") rStrU := CallR.or call_str_int SkE.call_str_str
def rIntU : List V → Hp → VK → Prop := fun xs H Q => (∃ a n, xs = [.str a] ∧ PySem.intText? a = some n ∧ a.length ≤ 640 ∧ Q (.int n) H) ∨ (∃ i, xs = [.int i] ∧ Q (.int i) H) ∨ ∃ k, xs = [.bl k] ∧ Q (.int (if k then 1 else 0)) H
theorem call_intU : CallR X (.type "int") rIntU := CallR.or call_int_str call_int1
end
theorem u_tupleOf {X : Cx} {K : PySem.W.Frag} (h : X.K = K := by rfl) : CallR X (.type "tuple") (fun xs H Q => ∃ p ys, xs = [.ref p] ∧ ((SqL K H p ys ∧ ∀ l, H l = none → Q (.ref l) (upd H l (.tup ys))) ∨ (SqT K H p ys ∧ Q (.ref p) H))) := h ▸ call_tuple_of
/-! ### steps -/
section
variable {σ : St} {H : Hp} {Q : VK} {QA : List V → Hp → Prop} {v x : V} {n i : Nat} {p q a : Addr} {xs : List V} {ta : TE} {tr : TA} {K : PySem.W.Frag} {D : Ends} {E : XK} {d : Option Addr}
theorem s_gStar {R : St → Hp → Prop} {t : TGs} (h : SqL K H p xs ∨ SqT K H p xs) (h1 : n ≤ xs.length + 1) (h2 : xs.length ≤ 16384) (z : ∀ l, H l = none → t (xs.take i ++ [.ref l] ++ (xs.drop i).drop (xs.length + 1 - n)) σ (upd H l (.lst ((xs.drop i).take (xs.length + 1 - n)))) R) : gStar K n i t (.ref p) σ H R := ⟨p, xs, rfl, h, h1, h2, z⟩
theorem s_gStar1 {R : St → Hp → Prop} {t : TGs} {r : List V} (h : SqL K H p (x :: r) ∨ SqT K H p (x :: r)) (h2 : r.length ≤ 16000) (z : ∀ l, H l = none → t [x, .ref l] σ (upd H l (.lst r)) R) : gStar K 2 1 t (.ref p) σ H R := by
  refine ⟨p, x :: r, rfl, h, by rw [List.length_cons]; omega, by rw [List.length_cons]; omega, fun l hl => ?_⟩
  have e1 : (List.drop 1 (x :: r)).drop ((x :: r).length + 1 - 2) = [] := List.drop_of_length_le (by simp)
  have e2 : (List.drop 1 (x :: r)).take ((x :: r).length + 1 - 2) = r := List.take_of_length_le (by simp)
  rw [e1, e2]
  exact z l hl
theorem s_slT {lo hi : Option Int} (h : SqT K H p xs) (hw : ¬ (HT.sIx xs.length 0 lo = 0 ∧ HT.sIx xs.length xs.length hi = xs.length)) (z : ∀ l, H l = none → Q (.ref l) (upd H l (.tup (cutV xs lo hi)))) : rSlU K (.ref p) lo hi H Q := .inr (.inl ⟨p, xs, rfl, h, hw, z⟩)
theorem s_slT1 {u : V} {us : List V} (h : SqT K H p (u :: us)) (z : ∀ l, H l = none → Q (.ref l) (upd H l (.tup us))) : rSlU K (.ref p) (some 1) none H Q := by
  refine s_slT h (fun ⟨e, _⟩ => ?_) ?_
  · have : HT.sIx (u :: us).length 0 (some ((1 : Nat) : Int)) = 0 := e
    rw [HT.sIx_nat, List.length_cons] at this
    omega
  · have e1 : HT.sIx (u :: us).length 0 (some ((1 : Nat) : Int)) = 1 := by
      rw [HT.sIx_nat, List.length_cons]
      omega
    have e2 : cutV (u :: us) (some 1) none = us := by
      unfold cutV
      rw [HT.sIx_none, show HT.sIx (u :: us).length 0 (some 1) = 1 from e1]
      simp
    rw [e2]
    exact z
theorem s_addT {ys : List V} (h1 : SqT K H p xs) (h2 : SqT K H q ys) (n1 : xs ≠ []) (n2 : ys ≠ []) (h : xs.length + ys.length ≤ sizeLine) (z : ∀ l, H l = none → Q (.ref l) (upd H l (.tup (xs ++ ys)))) : rAddU K (.ref p) (.ref q) H Q :=
  .inr (.inr (.inr ⟨p, q, xs, ys, rfl, rfl, h1, h2, n1, h, fun e => absurd e n2, fun _ => z⟩))
theorem s_callD {sp : Sp} {dvs : List V} (z : tr σ H fun vs H1 => sp (vs ++ dvs) H1 Q E) : tCall sp dvs E tr σ H Q := z
theorem s_sp2d {P : V → V → Hp → VK → XK → Prop} {y : V} (z : P x y H Q E) : sp2 P ([x] ++ [y]) H Q E := ⟨x, y, rfl, z⟩
theorem s_sp3d {P : V → V → V → Hp → VK → XK → Prop} {y : V} (z : P x y v H Q E) : sp3 P ([x, y] ++ [v]) H Q E := ⟨x, y, v, rfl, z⟩
theorem s_strI {j : Int} (h : j.natAbs.log2 < 1920) (z : Q (.str (toString j)) H) : rStrU [.int j] H Q := .inl ⟨j, rfl, h, z⟩
theorem s_strS {y : Str} (z : Q (.str y) H) : rStrU [.str y] H Q := .inr ⟨y, rfl, z⟩
theorem s_intS {y : Str} {j : Int} (h : PySem.intText? y = some j) (hl : y.length ≤ 640) (z : Q (.int j) H) : rIntU [.str y] H Q := .inl ⟨y, j, rfl, h, hl, z⟩
theorem s_intI {j : Int} (z : Q (.int j) H) : rIntU [.int j] H Q := .inr (.inl ⟨j, rfl, z⟩)
theorem s_intB {k : Bool} (z : Q (.int (if k then 1 else 0)) H) : rIntU [.bl k] H Q := .inr (.inr ⟨k, rfl, z⟩)
theorem s_as {c cls : Value} {t : Addr → Value → Option Addr → TS} {Wout : WX} (h : PySem.W.exmOne K cls c = some true) (z : ∀ a, H a = none → t a cls d { nx := fun σ' H' => D.nx (σ'.set i none) H', rt := D.rt, bk := fun σ' H' => D.bk (σ'.set i none) H', ct := fun σ' H' => D.ct (σ'.set i none) H' } (σ.set i (some (.ref a))) H) : WE (wAs K c i t Wout D) σ cls d H :=
  ⟨true, h, fun _ => z, fun (e : true = false) => absurd e.symm Bool.false_ne_true⟩
theorem s_isEr {C B : Addr} {b : Bool} (h : ExcC K C) (e : PySem.W.kitOne K (.ref C) (.ref B) = some b) (z : Q (.bl b) H) : rIsEU K (.ref C) none a [.ref a, .ref B] H Q := ⟨C, rfl, rfl, h, .ref B, .ref B, b, rfl, fun u r => r, e, z⟩
theorem s_isEt {C : Addr} {T : String} {b : Bool} (h : ExcC K C) (e : PySem.W.kitOne K (.ref C) (.type T) = some b) (z : Q (.bl b) H) : rIsEU K (.ref C) none a [.ref a, .ty T] H Q := ⟨C, rfl, rfl, h, .ty T, .type T, b, rfl, fun u r => r, e, z⟩
end
end L2.U
/-! U3: union rules for dicts (tracked ones, the module's own), for a def held by a local name. Own text. -/
namespace L2.U
open PySem PySem.Spec PySem.Calls PyProof.Rows
section
variable {X : Cx}
/-- d[k], a tracked dict -/
def rIxG : R2 := fun x y H Q => ∃ a v, x = .ref a ∧ DGet H a y (some v) ∧ Q v H
theorem ix_dget (hu : X.A.units + 1 < cLine) : IxR X rIxG := by
  intro value slice pins s σ H x y v u Q I rx ry h hs
  obtain ⟨p, r, rfl, g, q⟩ := h
  obtain rfl : v = Value.ref p := rx
  exact tail_any (dict_typeIs I g) slot_dict_getitem.lookup (d_getItem hu I g ry fun w' s3 I3 rw' => ⟨r, H, I3, rw', q⟩) hs
/-- d[k] of either, xs[i] -/
def rIxA (K : PySem.W.Frag) (w : World) : R2 := fun x y H Q => rIx K x y H Q ∨ rIxG x y H Q ∨ rIxD K w x y H Q
theorem u_ixA {K : PySem.W.Frag} {w : World} (hu : X.A.units + 64 < cLine) (h : X.K = K := by rfl) (hw : X.w = w := by rfl) : IxR X (rIxA K w) := by
  subst h hw
  exact ix_seq.or ((ix_dget (by omega)).or ix_kdict)
/-- the module's dict at a: whether the key x is there -/
def KHas (K : PySem.W.Frag) (w : World) (a : Addr) (x : Str) (b : Bool) : Prop :=
  ∃ es n r, K.lookup a = some ⟨.type "dict", none, .dict es n, #[]⟩ ∧ (a == sysModules) = false ∧ PySem.W.KeysLit w.params es.toList ∧ PySem.W.nsIn K a x = some r ∧ r.isSome = b
def rInDct (K : PySem.W.Frag) (w : World) (neg : Bool) : R2 := fun x y H Q => (∃ a o, y = .ref a ∧ DGet H a x o ∧ Q (.bl (if neg then !o.isSome else o.isSome)) H) ∨ ∃ a z b, y = .ref a ∧ x = .str z ∧ KHas K w a z b ∧ Q (.bl (if neg then !b else b)) H
theorem op_inDct {K : PySem.W.Frag} {w : World} (hu : X.A.units + 64 < cLine) (h : X.K = K := by rfl) (hw : X.w = w := by rfl) : OpR X (compareOp .In) (rInDct K w false) := by
  subst h hw
  intro pins s σ H x y v u Q I rx ry h
  rcases h with ⟨a, o, rfl, g, q⟩ | ⟨a, z, b, rfl, rfl, ⟨es, n, r, hl, hd, hk, e, eb⟩, q⟩
  · obtain rfl : u = Value.ref a := ry
    exact d_in (by omega) I g rx fun s3 I3 => ⟨.bl o.isSome, H, I3, rfl, q⟩
  · obtain rfl : u = Value.ref a := ry
    obtain ⟨t, rfl⟩ := rx
    have hm := PySem.W.mapOf_K (prog := X.prog) (w := X.w) I.kIn hl hk
    refine wpAny_in_of (strKind_is X.prog X.w z t) hd hm ?_
    rw [show findBy Value.isStrOf es z = r from PySem.W.find_K hl e, eb]
    exact ⟨.bl b, H, I.tok _, rfl, q⟩
theorem op_notInDct {K : PySem.W.Frag} {w : World} (hu : X.A.units + 64 < cLine) (h : X.K = K := by rfl) (hw : X.w = w := by rfl) : OpR X (compareOp .NotIn) (rInDct K w true) := by
  subst h hw
  intro pins s σ H x y v u Q I rx ry h
  rcases h with ⟨a, o, rfl, g, q⟩ | ⟨a, z, b, rfl, rfl, ⟨es, n, r, hl, hd, hk, e, eb⟩, q⟩
  · obtain rfl : u = Value.ref a := ry
    exact d_notIn (by omega) I g rx fun s3 I3 => ⟨.bl (!o.isSome), H, I3, rfl, q⟩
  · obtain rfl : u = Value.ref a := ry
    obtain ⟨t, rfl⟩ := rx
    have hm := PySem.W.mapOf_K (prog := X.prog) (w := X.w) I.kIn hl hk
    refine wpAny_notIn_of (strKind_is X.prog X.w z t) hd hm ?_
    rw [show findBy Value.isStrOf es z = r from PySem.W.find_K hl e, eb]
    exact ⟨.bl (!b), H, I.tok _, rfl, q⟩
end
/-! ### classes -/
/-- the class at C: plain, with these fields -/
structure ClsF (K : PySem.W.Frag) (C : Addr) (fs : List Str) : Prop where
  c : Cls K C
  f : ∀ x ∈ fs, NoAttr K C x
/-- a method by its promise -/
structure MetF (P : Program) (w : World) (K : PySem.W.Frag) (mg : Str → Option Value) (base : Heap) (CX : CXT) (k : Nat) (C : Addr) (m : Str) (ps : List Str) (dvs : List V) (sp : Sp) : Prop where
  ex : ∃ (f : Addr) (fd : FuncData) (ds : List Value), Cls K C ∧ Meth K C m f ∧ Vals dvs ds ∧ Binds K fd ps ds ∧ FnOk P w K mg base CX k f fd ps sp
/-- C(..) by __init__'s promise -/
structure MakF (P : Program) (w : World) (K : PySem.W.Frag) (mg : Str → Option Value) (base : Heap) (CX : CXT) (k : Nat) (x : Str) (C : Addr) (ps : List Str) (dvs : List V) (sp : Sp) : Prop where
  ex : ∃ (f : Addr) (fd : FuncData) (ds : List Value), mg x = some (.ref C) ∧ Mk K C f ∧ Vals dvs ds ∧ Binds K fd ps ds ∧ FnOk P w K mg base CX k f fd ps sp
/-- a method's text -/
structure MetAt (K : PySem.W.Frag) (C : Addr) (m qual : Str) (st : Stmt) (ps : List Str) : Prop where
  ex : ∃ (f : Addr) (fd : FuncData), Cls K C ∧ Meth K C m f ∧ Fun K m qual st f fd ∧ Binds K fd ps []
/-- __init__'s text -/
structure MakAt (K : PySem.W.Frag) (mg : Str → Option Value) (x : Str) (C : Addr) (qual : Str) (st : Stmt) (ps : List Str) : Prop where
  ex : ∃ (f : Addr) (fd : FuncData), mg x = some (.ref C) ∧ Mk K C f ∧ Fun K "__init__" qual st f fd ∧ Binds K fd ps []
section
variable {P : Program} {w : World} {K : PySem.W.Frag} {mg : Str → Option Value} {base : Heap} {x m qual : Str} {C : Addr} {st : Stmt} {N ps : List Str} {k : Nat} {sp : Sp}
theorem MetAt.ok (D : MetAt K C m qual st ps) (S : FnScope N ps (defScope st)) (len : ∀ vs H Q E, sp vs H Q E → vs.length = ps.length)
    (hbody : ∀ (f : Addr) (cdv : Value) (A : Around) (outer : List Env) (s : Shared) (H : Hp) (vs : List V) (Q : VK) (E : XK), Room k (A.deeper (envOfC qual (defScope st) s.heap.objs.size f cdv)) → sp vs H Q E →
      ∃ t, PSs (cxOf CX0 P w K mg base N qual (defScope st) f cdv A outer s H E).nox (defBody st) t ∧ t { nx := fun _ H' => Q .non H', rt := Q } (start N vs) H) : MetF P w K mg base CX0 (k + 1) C m ps [] sp := by
  obtain ⟨f, fd, c, mm, F, b⟩ := D.ex
  exact ⟨f, fd, [], c, mm, .nil, b, F.ok S len fun cdv A outer s H vs Q E hr h => hbody f cdv A outer s H vs Q E hr h⟩
theorem MetAt.okX (D : MetAt K C m qual st ps) (S : FnScope N ps (defScope st)) (len : ∀ vs H Q E, sp vs H Q E → vs.length = ps.length)
    (hbody : ∀ (f : Addr) (cdv : Value) (A : Around) (outer : List Env) (s : Shared) (H : Hp) (vs : List V) (Q : VK) (E : XK), Room k (A.deeper (envOfC qual (defScope st) s.heap.objs.size f cdv)) → sp vs H Q E →
      ∃ t, PSs (cxOf (L2.CX P w) P w K mg base N qual (defScope st) f cdv A outer s H E) (defBody st) t ∧ t { nx := fun _ H' => Q .non H', rt := Q } (start N vs) H) : MetF P w K mg base (L2.CX P w) (k + 1) C m ps [] sp := by
  obtain ⟨f, fd, c, mm, F, b⟩ := D.ex
  exact ⟨f, fd, [], c, mm, .nil, b, F.okX S len fun cdv A outer s H vs Q E hr h => hbody f cdv A outer s H vs Q E hr h⟩
theorem MetAt.okNo {CX : CXT} (D : MetAt K C m qual st ps) (h : ∀ vs H Q E, ¬ sp vs H Q E) : MetF P w K mg base CX k C m ps [] sp := by
  obtain ⟨f, fd, c, mm, F, b⟩ := D.ex
  exact ⟨f, fd, [], c, mm, .nil, b, fun vs H Q E z => (h _ _ _ _ z).elim, fun A outer s H args us vs Q E _ _ _ _ z => (h _ _ _ _ z).elim⟩
theorem MakAt.ok (D : MakAt K mg x C qual st ps) (S : FnScope N ps (defScope st)) (len : ∀ vs H Q E, sp vs H Q E → vs.length = ps.length)
    (hbody : ∀ (f : Addr) (cdv : Value) (A : Around) (outer : List Env) (s : Shared) (H : Hp) (vs : List V) (Q : VK) (E : XK), Room k (A.deeper (envOfC qual (defScope st) s.heap.objs.size f cdv)) → sp vs H Q E →
      ∃ t, PSs (cxOf CX0 P w K mg base N qual (defScope st) f cdv A outer s H E).nox (defBody st) t ∧ t { nx := fun _ H' => Q .non H', rt := Q } (start N vs) H) : MakF P w K mg base CX0 (k + 1) x C ps [] sp := by
  obtain ⟨f, fd, g, mm, F, b⟩ := D.ex
  exact ⟨f, fd, [], g, mm, .nil, b, F.ok S len fun cdv A outer s H vs Q E hr h => hbody f cdv A outer s H vs Q E hr h⟩
theorem MakAt.okX (D : MakAt K mg x C qual st ps) (S : FnScope N ps (defScope st)) (len : ∀ vs H Q E, sp vs H Q E → vs.length = ps.length)
    (hbody : ∀ (f : Addr) (cdv : Value) (A : Around) (outer : List Env) (s : Shared) (H : Hp) (vs : List V) (Q : VK) (E : XK), Room k (A.deeper (envOfC qual (defScope st) s.heap.objs.size f cdv)) → sp vs H Q E →
      ∃ t, PSs (cxOf (L2.CX P w) P w K mg base N qual (defScope st) f cdv A outer s H E) (defBody st) t ∧ t { nx := fun _ H' => Q .non H', rt := Q } (start N vs) H) : MakF P w K mg base (L2.CX P w) (k + 1) x C ps [] sp := by
  obtain ⟨f, fd, g, mm, F, b⟩ := D.ex
  exact ⟨f, fd, [], g, mm, .nil, b, F.okX S len fun cdv A outer s H vs Q E hr h => hbody f cdv A outer s H vs Q E hr h⟩
end
section
variable {X : Cx} {CX : CXT} {k : Nat} {C : Addr} {x m : Str} {ps : List Str} {dvs : List V} {sp : Sp} {E : XK} {p pos apos : Pos} {o e : Expr} {es : List Expr} {ta : TE} {t : TA}
theorem u_meth {pl : Sem Bool} (O : MetF X.prog X.w X.K X.mg X.base CX k C m ps dvs sp) (hr : Room k X.A) (hx : Passes CX X E) (he : PE X o ta) (ha : PA X (e :: es) t)
    (hst : starEach (e :: es) X.env = (false, eval e X.env) :: starEach es X.env := by rfl) (hpl : (backTo pos (starEach es X.env)).any (·.1) = false := by rfl)
    (ht : eval (.Call (.Attribute o m apos) (e :: es) [] pos) X.env = (do
      let ov ← eval o X.env
      standAt apos.atName
      let (f, first) ← holding [ov] (getMethod ov m pl)
      callWith pos f first (backTo pos (starEach (e :: es) X.env)) (backToKw pos (keywordEach [] X.env))) := by rfl) :
    PE X (.Call (.Attribute o m apos) (e :: es) [] pos) (tMeth C m sp dvs E ta t) := by
  obtain ⟨f, fd, ds, c, mm, v, hb, F⟩ := O.ex
  exact pe_meth (pl := pl) he c mm F hr hb v hx ha hst hpl ht
theorem u_meth0 {pl : Sem Bool} (O : MetF X.prog X.w X.K X.mg X.base CX k C m ps dvs sp) (hr : Room k X.A) (hx : Passes CX X E) (he : PE X o ta)
    (ht : eval (.Call (.Attribute o m apos) [] [] pos) X.env = (do
      let ov ← eval o X.env
      standAt apos.atName
      let (f, first) ← holding [ov] (getMethod ov m pl)
      callWith pos f first (backTo pos (starEach [] X.env)) (backToKw pos (keywordEach [] X.env))) := by rfl) :
    PE X (.Call (.Attribute o m apos) [] [] pos) (tMeth C m sp dvs E ta tNil) := by
  obtain ⟨f, fd, ds, c, mm, v, hb, F⟩ := O.ex
  exact pe_meth0 (pl := pl) he c mm F hr hb v hx ht
theorem u_make (O : MakF X.prog X.w X.K X.mg X.base CX k x C ps dvs sp) (hr : Room (k + 1) X.A) (hx : Passes CX X E) (ha : PA X (e :: es) t) (hg : Gl X x := by rfl) (hdb : (x == ("__debug__" : Str)) = false := by decide)
    (he : starEach (e :: es) X.env = (false, eval e X.env) :: starEach es X.env := by rfl) (hpl : (backTo pos (starEach es X.env)).any (·.1) = false := by rfl) :
    PE X (.Call (.Name x p) (e :: es) [] pos) (tMake C sp dvs E t) := by
  obtain ⟨f, fd, ds, g, mm, v, hb, F⟩ := O.ex
  exact pe_make mm F hr hg g hb v hx ha hdb he hpl
end
/-! ### wide unions -/
def rInA (K : PySem.W.Frag) (w : World) : R2 := fun x y H Q => rInU K false x y H Q ∨ rInD K x y H Q ∨ rInDct K w false x y H Q
def rNotInA (K : PySem.W.Frag) (w : World) : R2 := fun x y H Q => rInU K true x y H Q ∨ rNotInD K x y H Q ∨ rInDct K w true x y H Q
section
variable {X : Cx}
theorem o_inA {K : PySem.W.Frag} {w : World} (hu : X.A.units + 65 < cLine) (h : X.K = K := by rfl) (hw : X.w = w := by rfl) : OpR X (compareOp .In) (rInA K w) := by
  subst h hw
  exact (o_in).or ((op_inD hu).or (op_inDct (by omega)))
theorem o_notInA {K : PySem.W.Frag} {w : World} (hu : X.A.units + 65 < cLine) (h : X.K = K := by rfl) (hw : X.w = w := by rfl) : OpR X (compareOp .NotIn) (rNotInA K w) := by
  subst h hw
  exact (o_notIn).or ((op_notInD hu).or (op_notInDct (by omega)))
theorem Room.un65 {k : Nat} {A : Around} (r : Room k A) : A.units + 65 < cLine := by have := r.un; omega
/-! fields -/
theorem u_fld {K : PySem.W.Frag} {e : Expr} {f : Str} {pos : Pos} {ta : TE} (he : PE X e ta) (h : X.K = K := by rfl) (hb : attributeBase e f X.env (eval e X.env) = eval e X.env := by rfl) : PE X (.Attribute e f pos) (tFld K ta f) := h ▸ pe_fld he hb
end
section
variable {X : Cx}
theorem u_setF {K : PySem.W.Frag} {o value : Expr} {f : Str} {pos pos' : Pos} {ta tv : TE} (ha : PE X o ta) (hv : PE X value tv) (h : X.K = K := by rfl) (hs : swapsWith value (some (.Attribute o f pos')) pos.line X.env = pure false := by rfl) : PS X (.Assign [.Attribute o f pos'] value pos) (sFld K ta tv f) := h ▸ ps_fld ha hv hs
end
/-! steps -/
section
variable {σ : St} {H : Hp} {Q : VK} {v x y : V} {i : Int} {n : Nat} {p q a C dx : Addr} {xs : List V} {ta tb tv : TE} {tr : TA} {K : PySem.W.Frag} {w : World} {D : Ends} {E : XK} {f m : Str} {fs : List (Str × V)} {z : Str}
theorem s_inA (h : rInU K false x y H Q) : rInA K w x y H Q := .inl h
theorem s_notInA (h : rInU K true x y H Q) : rNotInA K w x y H Q := .inl h
theorem s_inDeep {d : PyData} {ds : List PyData} (h1 : Dp K H x d) (h2 : Dp K H y (.list ds)) (h3 : SeqAt.shaped d = true) (h4 : SeqAt.shaped (.list ds) = true) (q : Q (.bl (ds.any fun z => PyData.eqv z d)) H) : rInA K w x y H Q := .inr (.inl ⟨d, ds, h1, h2, h3, h4, q⟩)
theorem s_notInDeep {d : PyData} {ds : List PyData} (h1 : Dp K H x d) (h2 : Dp K H y (.list ds)) (h3 : SeqAt.shaped d = true) (h4 : SeqAt.shaped (.list ds) = true) (q : Q (.bl (!ds.any fun z => PyData.eqv z d)) H) : rNotInA K w x y H Q := .inr (.inl ⟨d, ds, h1, h2, h3, h4, q⟩)
theorem s_inG {o : Option V} (g : DGet H a x o) (q : Q (.bl o.isSome) H) : rInA K w x (.ref a) H Q := .inr (.inr (.inl ⟨a, o, rfl, g, q⟩))
theorem s_notInG {o : Option V} (g : DGet H a x o) (q : Q (.bl (!o.isSome)) H) : rNotInA K w x (.ref a) H Q := .inr (.inr (.inl ⟨a, o, rfl, g, q⟩))
theorem s_inK {b : Bool} (g : KHas K w a z b) (q : Q (.bl b) H) : rInA K w (.str z) (.ref a) H Q := .inr (.inr (.inr ⟨a, z, b, rfl, rfl, g, q⟩))
theorem s_ixA (h : rIx K x y H Q) : rIxA K w x y H Q := .inl h
theorem s_ixG (g : DGet H a y (some v)) (q : Q v H) : rIxA K w (.ref a) y H Q := .inr (.inl ⟨a, v, rfl, g, q⟩)
theorem s_ixK (g : KDct K w a z v) (q : Q v H) : rIxA K w (.ref a) (.str z) H Q := .inr (.inr ⟨a, z, v, rfl, rfl, g, q⟩)
theorem s_fld (z : ta σ H fun x H1 => ∃ a C dx fs v, x = .ref a ∧ H1 a = some (.ins C dx fs) ∧ Cls K C ∧ NoAttr K C f ∧ fs.lookup f = some v ∧ Q v H1) : tFld K ta f σ H Q := z
theorem s_fldI {fl : List Str} {R : V → Prop} (c : ClsF K C fl) (h : H a = some (.ins C dx fs)) (hf : f ∈ fl) (hl : fs.lookup f = some v) (z : R v) : ∃ a' C' dx' fs' v', V.ref a = .ref a' ∧ H a' = some (.ins C' dx' fs') ∧ Cls K C' ∧ NoAttr K C' f ∧ fs'.lookup f = some v' ∧ R v' :=
  ⟨a, C, dx, fs, v, rfl, h, c.c, c.f f hf, hl, z⟩
theorem s_setF (z : tv σ H fun y H1 => ta σ H1 fun x H2 => ∃ a C dx fs, x = .ref a ∧ H2 a = some (.ins C dx fs) ∧ Cls K C ∧ NoAttr K C f ∧ fs.length < 1000 ∧ D.nx σ (upd H2 a (.ins C dx (putF f y fs)))) : sFld K ta tv f D σ H := z
theorem s_setFI {fl : List Str} {R : Hp → Prop} (c : ClsF K C fl) (h : H a = some (.ins C dx fs)) (hf : f ∈ fl) (hl : fs.length < 1000) (z : R (upd H a (.ins C dx (putF f y fs)))) : ∃ a' C' dx' fs', V.ref a = .ref a' ∧ H a' = some (.ins C' dx' fs') ∧ Cls K C' ∧ NoAttr K C' f ∧ fs'.length < 1000 ∧ R (upd H a' (.ins C' dx' (putF f y fs'))) :=
  ⟨a, C, dx, fs, rfl, h, c.c, c.f f hf, hl, z⟩
theorem s_meth {sp : Sp} {dvs : List V} (z : ta σ H fun x H1 => ∃ a dx fs, x = .ref a ∧ H1 a = some (.ins C dx fs) ∧ fs.lookup m = none ∧ tr σ H1 fun vs H2 => sp (x :: (vs ++ dvs)) H2 Q E) : tMeth C m sp dvs E ta tr σ H Q := z
theorem s_methI {R : Addr → Prop} (h : H a = some (.ins C dx fs)) (hl : fs.lookup m = none) (z : R a) : ∃ a' dx' fs', V.ref a = .ref a' ∧ H a' = some (.ins C dx' fs') ∧ fs'.lookup m = none ∧ R a' := ⟨a, dx, fs, rfl, h, hl, z⟩
theorem s_make {sp : Sp} {dvs : List V} (z : tr σ H fun vs H1 => ∀ x dx, H1 x = none → H1 dx = none → dx ≠ x → sp (.ref x :: (vs ++ dvs)) (upd (upd H1 dx (.own x)) x (.ins C dx [])) (fun v H2 => v = .non ∧ Q (.ref x) H2) E) : tMake C sp dvs E tr σ H Q := z
theorem s_callA {S : Addr → Option Sp} {sp : Sp} (h : σ[n]? = some (some (.ref a))) (hs : S a = some sp) (z : tr σ H fun vs H1 => sp vs H1 Q (fun _ _ _ => False)) : tCallA n S tr σ H Q := ⟨a, sp, h, hs, z⟩
theorem s_sm1 {P : V → Hp → VK → XK → Prop} (z : P x H Q E) : sp1 P (x :: ([] ++ [])) H Q E := ⟨x, rfl, z⟩
theorem s_sm2 {P : V → V → Hp → VK → XK → Prop} (z : P x y H Q E) : sp2 P (x :: ([y] ++ [])) H Q E := ⟨x, y, rfl, z⟩
theorem s_sm3 {P : V → V → V → Hp → VK → XK → Prop} (z : P x y v H Q E) : sp3 P (x :: ([y, v] ++ [])) H Q E := ⟨x, y, v, rfl, z⟩
end
end L2.U
/-! U4: wide numbers, stores of lists and dicts, a def held by a local name, dicts compared; steps that look the heap up. Own text. -/
namespace L2.U
open PySem PySem.Spec PySem.Calls PyProof.Rows
section
variable {X : Cx}
/-! ### great numbers -/
def CDivV (_ j : Int) : Prop := j ≠ 0 ∧ j.natAbs.log2 < 9000
def rMulA : R2 := fun x y H Q => rI CMulW (fun i j => .int (i * j)) x y H Q ∨ rRep x y H Q
theorem o_mulA : OpR X (binaryOp .Mult) rMulA := op_mulW.or op_rep
def rDivA : R2 := rI CDivV fun i j => .int (i.fdiv j)
theorem o_divA : OpR X (binaryOp .FloorDiv) rDivA := opI fun i j _ _ _ _ _ hc q => floordiv_int hc.1 q (.inl (PyProof.noPylong_of_log2 hc.2))
theorem mulw {i j : Int} (h1 : i.natAbs < 18446744073709551616) (h2 : j.natAbs < 18446744073709551616) : CMulW i j := wide_mul (a := 64) (b := 64) h1 h2 (by decide) (by decide) (by decide)
theorem divw {i j : Int} (h : j ≠ 0) (h2 : j.natAbs < 18446744073709551616) : CDivV i j := ⟨h, Nat.lt_of_lt_of_le (PySem.Flt.log2_lt_of (k := 64) (by decide) h2) (by decide)⟩
/-! ### o[i] = v -/
def rSetA : TSet := fun o i v H Q => rSetL o i v H Q ∨ rSetD o i v H Q
theorem set_all (hu : X.A.units + 1 < cLine) : PSet X rSetA := by
  intro pins s σ H o i v ov iv u Q I ro ri rv h
  rcases h with h | h
  · exact set_list pins s σ H o i v ov iv u Q I ro ri rv h
  · exact set_dict hu pins s σ H o i v ov iv u Q I ro ri rv h
/-! ### == of lists, tuples, dicts -/
def rEqA (K : PySem.W.Frag) : R2 := fun x y H Q => rEqU K x y H Q ∨ rEqDA x y H Q
theorem o_eqA {K : PySem.W.Frag} (hu : X.A.units + 64 < cLine) (h : X.K = K := by rfl) : OpR X (compareOp .Eq) (rEqA K) := (o_eq hu h).or (op_eq_dictA (by omega))
def rNeA (K : PySem.W.Frag) : R2 := fun x y H Q => rNeU K x y H Q ∨ rNeDA x y H Q
theorem o_neA {K : PySem.W.Frag} (hu : X.A.units + 64 < cLine) (h : X.K = K := by rfl) : OpR X (compareOp .NotEq) (rNeA K) := (o_ne hu h).or (op_ne_dictA (by omega))
end
/-! ### a def held by a local name -/
def tCallH (P : Program) (w : World) (K : PySem.W.Frag) (mg : Str → Option Value) (base : Heap) (k i : Nat) (t : TA) : TE := fun σ H Q => ∃ f sp, σ[i]? = some (some (.ref f)) ∧ Held P w K mg base k f sp ∧ t σ H fun vs H1 => sp vs H1 Q (fun _ _ _ => False)
section
variable {X : Cx} {k i : Nat} {x : Str} {p pos : Pos} {e : Expr} {es : List Expr} {t : TA} {P : Program} {w : World} {K : PySem.W.Frag} {mg : Str → Option Value} {base : Heap}
theorem pe_callH (hr : Room k X.A) (hN : X.N[i]? = some x) (hv : Vis X.env.scope x) (ha : PA X (e :: es) t)
    (hP : X.prog = P := by rfl) (hw : X.w = w := by rfl) (hK : X.K = K := by rfl) (hm : X.mg = mg := by rfl) (hbs : X.base = base := by rfl)
    (hdb : (x == ("__debug__" : Str)) = false := by decide) (hcd : (x == ("__classdict__" : Str)) = false := by decide)
    (he : starEach (e :: es) X.env = (false, eval e X.env) :: starEach es X.env := by rfl) (hpl : (backTo pos (starEach es X.env)).any (·.1) = false := by rfl) : PE X (.Call (.Name x p) (e :: es) [] pos) (tCallH P w K mg base k i t) := by
  subst hP hw hK hm hbs
  refine ⟨fun pins s σ H Q I h => ?_⟩
  obtain ⟨f, sp, hs, hH, ht⟩ := h
  obtain ⟨fd, ps, F, hk, hb⟩ := hH.ex
  refine (pe_callL (i := i) (f := f) (sp := sp) (dvs := []) (E := fun _ _ _ => False) F hr hN hv hk hb .nil (fun _ _ _ _ _ _ _ z => z.elim) ha hdb hcd he hpl).run pins s σ H Q I ⟨hs, ?_⟩
  have e0 : (fun (vs : List V) (H1 : Hp) => sp (vs ++ []) H1 Q (fun _ _ _ => False)) = fun vs H1 => sp vs H1 Q (fun _ _ _ => False) := by
    funext vs H1
    rw [List.append_nil]
  show t σ H (fun vs H1 => sp (vs ++ []) H1 Q (fun _ _ _ => False))
  rw [e0]
  exact ht
theorem DefAt.held {y : Str} {st : Stmt} {ps : List Str} {f : Addr} {fd : FuncData} {sp : Sp} (F : Fun K y y st f fd) (b : Binds K fd ps []) (O : FnOk P w K mg base (fun _ _ _ _ _ _ => False) k f fd ps sp) : Held P w K mg base k f sp := ⟨fd, ps, O, F.kp, b⟩
/-- the module's name y holds the def at f, which keeps its promise -/
structure HeldAt (P : Program) (w : World) (K : PySem.W.Frag) (mg : Str → Option Value) (base : Heap) (k : Nat) (y : Str) (f : Addr) (sp : Sp) : Prop where
  g : mg y = some (.ref f)
  h : Held P w K mg base k f sp
theorem OkF.held {y : Str} {ps : List Str} {f : Addr} {sp : Sp} (O : OkF P w K mg base CX0 k y ps sp) (g : mg y = some (.ref f)) : Held P w K mg base k f sp := by
  obtain ⟨f', fd, g', kp, b, F⟩ := O.ex
  rw [g] at g'
  cases g'
  exact ⟨fd, ps, F, kp, b⟩
end
/-! ### steps -/
theorem Same.get {H H' : Hp} {a : Addr} {o : HO} (s : Same H H') (e : H a = some o) : H' a = some o := s a o e
theorem Keep.get {H H' : Hp} {p a : Addr} {o : HO} (k : Keep p H H') (n : a ≠ p) (e : H a = some o) : H' a = some o := k a o n e
theorem upd_get {H : Hp} {p a : Addr} {o u : HO} (n : a ≠ p) (e : H a = some o) : upd H p u a = some o := by rw [upd_ne n]; exact e
theorem hid_at {S : List Addr} {H : Hp} {a : Addr} {o : HO} (n : a ∉ S) (e : H a = some o) : hid S H a = some o := by rw [hid_get n]; exact e
theorem atI_1 {x y : V} {r : List V} : atI (x :: y :: r) 1 = some y := at_of (j := 1) rfl rfl
theorem atI_2 {x y z : V} {r : List V} : atI (x :: y :: z :: r) 2 = some z := at_of (j := 2) rfl rfl
theorem atI_3 {x y z v : V} {r : List V} : atI (x :: y :: z :: v :: r) 3 = some v := at_of (j := 3) rfl rfl
theorem notin1 {a p : Addr} (n : a ≠ p) : a ∉ [p] := by simpa using n
section
variable {σ : St} {H : Hp} {Q : VK} {v x y : V} {i j : Int} {n k : Nat} {p q a C dx : Addr} {xs : List V} {ta tb tv : TE} {tr : TA} {K : PySem.W.Frag} {w : World} {D : Ends} {E : XK} {f m : Str} {fs : List (Str × V)} {z : Str}
theorem s_mulW (h : CMulW i j) (z : Q (.int (i * j)) H) : rMulA (.int i) (.int j) H Q := .inl ⟨i, j, rfl, rfl, h, z⟩
theorem s_repA (h : H p = some (.lst xs)) (h1 : -(2 ^ 63) ≤ j) (h2 : j < 2 ^ 63) (h3 : xs.length * j.toNat ≤ sizeLine) (z : ∀ l, H l = none → Q (.ref l) (upd H l (.lst (List.replicate j.toNat xs).flatten))) : rMulA (.ref p) (.int j) H Q :=
  .inr ⟨p, j, xs, rfl, rfl, h, h1, h2, h3, z⟩
theorem s_divW (h : CDivV i j) (z : Q (.int (i.fdiv j)) H) : rDivA (.int i) (.int j) H Q := ⟨i, j, rfl, rfl, h, z⟩
theorem s_setLA {R : Hp → Prop} (h : H p = some (.lst xs)) (h1 : ixN xs.length i = some n) (z : R (upd H p (.lst (xs.set n v)))) : rSetA (.ref p) (.int i) v H R := .inl ⟨p, xs, i, n, rfl, rfl, h, h1, z⟩
theorem s_setDA {R : Hp → Prop} {kvs : List (Key × V)} {key : Key} (e : kV key = y) (h : H p = some (.dK kvs)) (hl : kvs.length < sizeLine) (z : R (upd H p (.dK (putK kvs key v)))) : rSetA (.ref p) y v H R := e ▸ .inr ⟨p, _, rfl, DPut.k h hl, z⟩
theorem s_eqA (z : rEqU K x y H Q) : rEqA K x y H Q := .inl z
theorem s_neA (z : rNeU K x y H Q) : rNeA K x y H Q := .inl z
theorem s_eqDict {ks ls : List (Key × V)} (h1 : H p = some (.dK ks)) (h2 : H q = some (.dK ls)) (hl : ks.length = ls.length) (hp : ∀ z ∈ ks, valV ls z.1 = some z.2 ∧ flatB z.2 = true) (z : Q (.bl true) H) : rEqA K (.ref p) (.ref q) H Q := .inr ⟨p, q, ks, ls, rfl, rfl, h1, h2, hl, hp, z⟩
theorem s_neDict {ks ls : List (Key × V)} (h1 : H p = some (.dK ks)) (h2 : H q = some (.dK ls)) (hl : ks.length = ls.length) (hp : ∀ z ∈ ks, valV ls z.1 = some z.2 ∧ flatB z.2 = true) (z : Q (.bl false) H) : rNeA K (.ref p) (.ref q) H Q := .inr ⟨p, q, ks, ls, rfl, rfl, h1, h2, hl, hp, z⟩
theorem s_callH {P : Program} {mg : Str → Option Value} {base : Heap} {f : Addr} {sp : Sp} (h : σ[n]? = some (some (.ref f))) (hs : Held P w K mg base k f sp) (z : tr σ H fun vs H1 => sp vs H1 Q (fun _ _ _ => False)) : tCallH P w K mg base k n tr σ H Q := ⟨f, sp, h, hs, z⟩
theorem s_get2 {td ty tx : TE} (z : td σ H fun x H1 => ∃ a, x = .ref a ∧ IsD H1 a ∧ ty σ H1 fun y H2 => tx σ H2 fun z H3 => ∃ o, DGet H3 a y o ∧ Q (o.getD z) H3) : tDGet2 td ty tx σ H Q := z
end
end L2.U
/-! U5: the steps of a reading as instances: one look-up a step. Own text. -/
namespace L2.U
open PySem PySem.Spec PyProof.Rows RZ
/-- to show p it is enough to show q -/
class Stp (p : Prop) (q : outParam Prop) : Prop where
  of : q → p
class GetAt (σ : St) (n : Nat) (v : outParam V) : Prop where
  h : σ[n]? = some (some v)
class SetAt (σ : St) (n : Nat) (x : Option V) (σ' : outParam St) : Prop where
  h : σ.set n x = σ'
instance getAt0 {v : V} {r : St} : GetAt (some v :: r) 0 v := ⟨rfl⟩
instance getAtS {x : Option V} {v : V} {r : St} {n : Nat} [g : GetAt r n v] : GetAt (x :: r) (n + 1) v := ⟨g.h⟩
instance setAt0 {x y : Option V} {r : St} : SetAt (y :: r) 0 x (x :: r) := ⟨rfl⟩
instance setAtS {x y : Option V} {r r' : St} {n : Nat} [g : SetAt r n x r'] : SetAt (y :: r) (n + 1) x (y :: r') := ⟨by rw [List.set_cons_succ, g.h]⟩
class WipeAt (σ : St) (vs : List Nat) (σ' : outParam St) : Prop where
  h : wipe σ vs = σ'
instance wipeAt0 {α : Type} {f : α → Nat} {σ : St} : WipeAt σ (List.map f []) σ := ⟨rfl⟩
instance wipeAtS {x : Str} {n : Nat} {r : List (Str × Nat)} {σ σ1 σ2 : St} [k : WipeAt σ (List.map (fun x => x.snd) r) σ1] [g : SetAt σ1 n none σ2] : WipeAt σ (List.map (fun x : Str × Nat => x.snd) ((x, n) :: r)) σ2 := ⟨by
  show (wipe σ (List.map (fun x => x.snd) r)).set n none = σ2
  rw [k.h, g.h]⟩
instance getAtW {σ σ1 : St} {vs : List Nat} {n : Nat} {v : V} [k : WipeAt σ vs σ1] [g : GetAt σ1 n v] : GetAt (wipe σ vs) n v := ⟨by rw [k.h]; exact g.h⟩
instance setAtW {σ σ1 σ2 : St} {vs : List Nat} {n : Nat} {x : Option V} [k : WipeAt σ vs σ1] [g : SetAt σ1 n x σ2] : SetAt (wipe σ vs) n x σ2 := ⟨by rw [k.h]; exact g.h⟩
instance getAtT {σ σ1 : St} {m n : Nat} {x : Option V} {v : V} [k : SetAt σ m x σ1] [g : GetAt σ1 n v] : GetAt (List.set σ m x) n v := ⟨by rw [k.h]; exact g.h⟩
instance setAtT {σ σ1 σ2 : St} {m n : Nat} {y x : Option V} [k : SetAt σ m y σ1] [g : SetAt σ1 n x σ2] : SetAt (List.set σ m y) n x σ2 := ⟨by rw [k.h]; exact g.h⟩
section
variable {σ σ' : St} {H : Hp} {Q : VK} {QB : Bool → Hp → Prop} {QA : List V → Hp → Prop} {v x y : V} {i j : Int} {n m : Nat} {a b : Str} {p q : Addr} {xs ys : List V} {ta tb tc tv : TE} {tt uu : TT} {tr : TA} {K : PySem.W.Frag} {w : World} {D : Ends} {ts us : TS} {o : HO} {E : XK} {k : Bool}
instance i_var [g : GetAt σ n v] : Stp (tVar n σ H Q) (Q v H) := ⟨s_var g.h⟩
instance i_c : Stp (tC v σ H Q) (Q v H) := ⟨s_c⟩
instance i_op {r : R2} : Stp (tOp r ta tb σ H Q) (ta σ H fun x H1 => tb σ H1 fun y H2 => r x y H2 Q) := ⟨s_op⟩
instance i_un {r : V → Hp → VK → Prop} : Stp (tUn r ta σ H Q) (ta σ H fun x H1 => r x H1 Q) := ⟨s_un⟩
instance i_neg : Stp (rU (fun i => .int (-i)) (.int i) H Q) (Q (.int (-i)) H) := ⟨s_neg⟩
instance i_test : Stp (tTest ta σ H QB) (ta σ H fun x H' => ∃ k, x = .bl k ∧ QB k H') := ⟨s_test⟩
instance i_tB : Stp (tB ta σ H QB) (ta σ H fun x H' => ∃ k, x = .bl k ∧ QB k H') := ⟨s_tB⟩
instance i_bl {R : Bool → Prop} : Stp (∃ k', V.bl k = .bl k' ∧ R k') (R k) := ⟨s_bl⟩
instance i_add : Stp (rAddU K (.int i) (.int j) H Q) (Q (.int (i + j)) H) := ⟨s_add⟩
instance i_sub : Stp (rSubU (.int i) (.int j) H Q) (Q (.int (i - j)) H) := ⟨s_sub⟩
instance i_lt : Stp (rLtU (.int i) (.int j) H Q) (Q (.bl (decide (i < j))) H) := ⟨s_lt⟩
instance i_le : Stp (rLeU (.int i) (.int j) H Q) (Q (.bl (decide (i ≤ j))) H) := ⟨s_le⟩
instance i_gt : Stp (rGtU (.int i) (.int j) H Q) (Q (.bl (decide (j < i))) H) := ⟨s_gt⟩
instance i_ge : Stp (rGeU (.int i) (.int j) H Q) (Q (.bl (decide (j ≤ i))) H) := ⟨s_ge⟩
theorem dec_int (i j : Int) : decide (V.int i = V.int j) = decide (i = j) := by by_cases h : i = j <;> simp [h]
theorem dec_str (a b : Str) : decide (V.str a = V.str b) = decide (a = b) := by by_cases h : a = b <;> simp [h]
instance i_eqI : Stp (rEqU K (.int i) (.int j) H Q) (Q (.bl (decide (i = j))) H) := ⟨fun z => s_eq rfl (by rw [dec_int]; exact z)⟩
instance i_neI : Stp (rNeU K (.int i) (.int j) H Q) (Q (.bl (!decide (i = j))) H) := ⟨fun z => s_ne rfl (by rw [dec_int]; exact z)⟩
instance i_eqS : Stp (rEqU K (.str a) (.str b) H Q) (Q (.bl (decide (a = b))) H) := ⟨fun z => s_eq rfl (by rw [dec_str]; exact z)⟩
instance i_neS : Stp (rNeU K (.str a) (.str b) H Q) (Q (.bl (!decide (a = b))) H) := ⟨fun z => s_ne rfl (by rw [dec_str]; exact z)⟩
instance i_eqIA : Stp (rEqA K (.int i) (.int j) H Q) (Q (.bl (decide (i = j))) H) := ⟨fun z => s_eqA (i_eqI.of z)⟩
instance i_neIA : Stp (rNeA K (.int i) (.int j) H Q) (Q (.bl (!decide (i = j))) H) := ⟨fun z => s_neA (i_neI.of z)⟩
instance i_eqSA : Stp (rEqA K (.str a) (.str b) H Q) (Q (.bl (decide (a = b))) H) := ⟨fun z => s_eqA (i_eqS.of z)⟩
instance i_neSA : Stp (rNeA K (.str a) (.str b) H Q) (Q (.bl (!decide (a = b))) H) := ⟨fun z => s_neA (i_neS.of z)⟩
instance i_neB {k k' : Bool} : Stp (rNeU K (.bl k) (.bl k') H Q) (Q (.bl (!decide (k = k'))) H) := ⟨fun z => s_ne rfl (by rw [show decide (V.bl k = V.bl k') = decide (k = k') by by_cases h : k = k' <;> simp [h]]; exact z)⟩
instance i_eqB {k k' : Bool} : Stp (rEqU K (.bl k) (.bl k') H Q) (Q (.bl (decide (k = k'))) H) := ⟨fun z => s_eq rfl (by rw [show decide (V.bl k = V.bl k') = decide (k = k') by by_cases h : k = k' <;> simp [h]]; exact z)⟩
instance (priority := low) i_isN : Stp (rIsU false x .non H Q) (Q (.bl (decide (x = .non))) H) := ⟨s_isN⟩
instance (priority := low) i_notN : Stp (rIsU true x .non H Q) (Q (.bl (!decide (x = .non))) H) := ⟨s_notN⟩
instance i_isN0 : Stp (rIsU false .non .non H Q) (Q (.bl true) H) := ⟨fun z => ⟨rfl, by simpa using z⟩⟩
instance i_isN1 : Stp (rIsU false (.int i) .non H Q) (Q (.bl false) H) := ⟨fun z => ⟨rfl, by simpa using z⟩⟩
instance i_isN2 : Stp (rIsU false (.str a) .non H Q) (Q (.bl false) H) := ⟨fun z => ⟨rfl, by simpa using z⟩⟩
instance i_isN3 : Stp (rIsU false (.ref p) .non H Q) (Q (.bl false) H) := ⟨fun z => ⟨rfl, by simpa using z⟩⟩
instance i_isN4 : Stp (rIsU false (.bl k) .non H Q) (Q (.bl false) H) := ⟨fun z => ⟨rfl, by simpa using z⟩⟩
instance i_notN0 : Stp (rIsU true .non .non H Q) (Q (.bl false) H) := ⟨fun z => ⟨rfl, by simpa using z⟩⟩
instance i_notN1 : Stp (rIsU true (.int i) .non H Q) (Q (.bl true) H) := ⟨fun z => ⟨rfl, by simpa using z⟩⟩
instance i_notN2 : Stp (rIsU true (.str a) .non H Q) (Q (.bl true) H) := ⟨fun z => ⟨rfl, by simpa using z⟩⟩
instance i_notN3 : Stp (rIsU true (.ref p) .non H Q) (Q (.bl true) H) := ⟨fun z => ⟨rfl, by simpa using z⟩⟩
instance i_notN4 : Stp (rIsU true (.bl k) .non H Q) (Q (.bl true) H) := ⟨fun z => ⟨rfl, by simpa using z⟩⟩
instance i_iteT {A B : Prop} {d : Decidable (true = true)} : Stp (@ite Prop (true = true) d A B) A := ⟨fun z => by rw [if_pos rfl]; exact z⟩
instance i_iteF {A B : Prop} {d : Decidable (false = true)} : Stp (@ite Prop (false = true) d A B) B := ⟨fun z => by rw [if_neg Bool.false_ne_true]; exact z⟩
instance i_iteNT {A B : Prop} {d : Decidable ((!true) = true)} : Stp (@ite Prop ((!true) = true) d A B) B := ⟨fun z => by rw [if_neg (show ¬ (!true) = true from Bool.false_ne_true)]; exact z⟩
instance i_iteNF {A B : Prop} {d : Decidable ((!false) = true)} : Stp (@ite Prop ((!false) = true) d A B) A := ⟨fun z => by rw [if_pos (show (!false) = true from rfl)]; exact z⟩
instance i_sl {r : V → Option Int → Option Int → Hp → VK → Prop} {tl th : TO} : Stp (tSl r ta tl th σ H Q) (ta σ H fun x H1 => tl σ H1 fun l H2 => th σ H2 fun u H3 => r x l u H3 Q) := ⟨s_sl⟩
instance i_noPart {QO : Option Int → Hp → Prop} : Stp (tNoPart σ H QO) (QO none H) := ⟨s_noPart⟩
instance i_part {QO : Option Int → Hp → Prop} : Stp (tPart ta σ H QO) (ta σ H fun x H1 => ∃ i, x = .int i ∧ QO (some i) H1) := ⟨s_part⟩
instance i_partI {R : Int → Prop} : Stp (∃ i', V.int i = .int i' ∧ R i') (R i) := ⟨s_partI⟩
instance i_nil : Stp (tNil σ H QA) (QA [] H) := ⟨s_nil⟩
instance i_cons : Stp (tCons ta tr σ H QA) (ta σ H fun x H1 => tr σ H1 fun xs H2 => QA (x :: xs) H2) := ⟨s_cons⟩
instance i_tup : Stp (tTup tr σ H Q) (tr σ H fun xs H1 => xs.length ≤ sizeLine ∧ ∀ p, H1 p = none → Q (.ref p) (upd H1 p (.tup xs))) := ⟨s_tup⟩
instance i_lst : Stp (tLst tr σ H Q) (tr σ H fun xs H1 => xs.length ≤ sizeLine ∧ ∀ p, H1 p = none → Q (.ref p) (upd H1 p (.lst xs))) := ⟨s_lst⟩
instance i_call {sp : Sp} : Stp (tCall sp [] E tr σ H Q) (tr σ H fun vs H1 => sp (vs ++ []) H1 Q E) := ⟨s_call⟩
instance (priority := low) i_callD {sp : Sp} {dvs : List V} : Stp (tCall sp dvs E tr σ H Q) (tr σ H fun vs H1 => sp (vs ++ dvs) H1 Q E) := ⟨s_callD⟩
instance i_sp1 {P : V → Hp → VK → XK → Prop} : Stp (sp1 P ([x] ++ []) H Q E) (P x H Q E) := ⟨s_sp1⟩
instance i_sp2 {P : V → V → Hp → VK → XK → Prop} : Stp (sp2 P ([x, y] ++ []) H Q E) (P x y H Q E) := ⟨s_sp2⟩
instance i_sp3 {P : V → V → V → Hp → VK → XK → Prop} : Stp (sp3 P ([x, y, v] ++ []) H Q E) (P x y v H Q E) := ⟨s_sp3⟩
instance i_sp4 {z : V} {P : V → V → V → V → Hp → VK → XK → Prop} : Stp (sp4 P ([x, y, v, z] ++ []) H Q E) (P x y v z H Q E) := ⟨s_sp4⟩
instance i_sq1 {P : V → Hp → VK → XK → Prop} : Stp (sp1 P [x] H Q E) (P x H Q E) := ⟨s_sq1⟩
instance i_sq2 {P : V → V → Hp → VK → XK → Prop} : Stp (sp2 P [x, y] H Q E) (P x y H Q E) := ⟨s_sq2⟩
instance i_sq3 {P : V → V → V → Hp → VK → XK → Prop} : Stp (sp3 P [x, y, v] H Q E) (P x y v H Q E) := ⟨s_sq3⟩
instance i_sq4 {z : V} {P : V → V → V → V → Hp → VK → XK → Prop} : Stp (sp4 P [x, y, v, z] H Q E) (P x y v z H Q E) := ⟨s_sq4⟩
instance i_sp2d {P : V → V → Hp → VK → XK → Prop} : Stp (sp2 P ([x] ++ [y]) H Q E) (P x y H Q E) := ⟨s_sp2d⟩
instance i_sp3d {P : V → V → V → Hp → VK → XK → Prop} : Stp (sp3 P ([x, y] ++ [v]) H Q E) (P x y v H Q E) := ⟨s_sp3d⟩
instance i_sm1 {P : V → Hp → VK → XK → Prop} : Stp (sp1 P (x :: ([] ++ [])) H Q E) (P x H Q E) := ⟨s_sm1⟩
instance i_sm2 {P : V → V → Hp → VK → XK → Prop} : Stp (sp2 P (x :: ([y] ++ [])) H Q E) (P x y H Q E) := ⟨s_sm2⟩
instance i_sm3 {P : V → V → V → Hp → VK → XK → Prop} : Stp (sp3 P (x :: ([y, v] ++ [])) H Q E) (P x y v H Q E) := ⟨s_sm3⟩
instance i_sm4 {z : V} {P : V → V → V → V → Hp → VK → XK → Prop} : Stp (sp4 P (x :: ([y, v, z] ++ [])) H Q E) (P x y v z H Q E) := ⟨fun h => ⟨_, _, _, _, rfl, h⟩⟩
instance i_cb {r : List V → Hp → VK → Prop} : Stp (tCB r tr σ H Q) (tr σ H fun vs H1 => r vs H1 Q) := ⟨s_cb⟩
instance i_and : Stp (tAnd tt uu σ H QB) (tt σ H fun c H1 => if c = true then uu σ H1 QB else QB false H1) := ⟨s_and⟩
instance i_or : Stp (tOr tt uu σ H QB) (tt σ H fun c H1 => if c = true then QB true H1 else uu σ H1 QB) := ⟨s_or⟩
instance i_not : Stp (tNot tt σ H QB) (tt σ H fun c H1 => QB (!c) H1) := ⟨s_not⟩
instance i_andV : Stp (tAndV ta tb σ H Q) (ta σ H fun x H1 => ∃ c, x = .bl c ∧ if c = true then tb σ H1 Q else Q (.bl false) H1) := ⟨s_andV⟩
instance i_orV : Stp (tOrV ta tb σ H Q) (ta σ H fun x H1 => ∃ c, x = .bl c ∧ if c = true then Q (.bl true) H1 else tb σ H1 Q) := ⟨s_orV⟩
instance i_notV : Stp (tNotV ta σ H Q) (ta σ H fun x H1 => ∃ c, x = .bl c ∧ Q (.bl (!c)) H1) := ⟨s_notV⟩
instance i_if : Stp (tIf tt ta tb σ H Q) (tt σ H fun c H1 => if c = true then ta σ H1 Q else tb σ H1 Q) := ⟨s_if⟩
instance i_chain {r r' : R2} : Stp (tChain r r' ta tb tc σ H Q) (ta σ H fun x H1 => tb σ H1 fun y H2 => r x y H2 fun z H3 => ∃ k, z = .bl k ∧ (if k = true then tc σ H3 fun w' H4 => r' y w' H4 Q else Q (.bl false) H3)) := ⟨s_chain⟩
instance i_tr : Stp (tTr K ta σ H QB) (ta σ H fun x H' => ∃ k, TruV K x H' k ∧ QB k H') := ⟨s_tr⟩
instance i_truB {R : Bool → Prop} : Stp (∃ k', TruV K (.bl k) H k' ∧ R k') (R k) := ⟨s_truB⟩
instance i_m1 {r : V → List V → Hp → VK → Prop} : Stp (tM1 r ta tb σ H Q) (ta σ H fun x H1 => (∃ a, x = .str a) ∧ tb σ H1 fun y H2 => r x [y] H2 Q) := ⟨s_m1⟩
instance i_m0 {r : V → List V → Hp → VK → Prop} : Stp (tM0 r ta σ H Q) (ta σ H fun x H1 => (∃ a, x = .str a) ∧ r x [] H1 Q) := ⟨s_m0⟩
instance i_isStr {C : Prop} : Stp ((∃ b, V.str a = .str b) ∧ C) C := ⟨s_isStr⟩
instance i_enum {R : It → Hp → Prop} : Stp (rEnumU K tr σ H R) (tr σ H fun vs H1 => ∃ a xs, vs = [.ref a] ∧ SqL K H1 a xs ∧ R (Ite K a) H1) := ⟨s_enum⟩
instance i_callS {sp : Sp} {EE : St → XK} : Stp (tCallS sp EE tr σ H Q) (tr σ H fun vs H1 => sp vs H1 Q (EE σ)) := ⟨s_callS⟩
instance i_aug {ti : TIp} [g : GetAt σ n x] : Stp (tAug n ta ti D σ H) (ta σ H fun y H1 => ti x y H1 fun z H2 => D.nx (σ.set n (some z)) H2) := ⟨s_aug g.h⟩
instance i_ipI : Stp (ipU (.int i) (.int j) H Q) (Q (.int (i + j)) H) := ⟨s_ipI⟩
instance i_bm {T : String} {r : V → List V → Hp → VK → Prop} : Stp (tBM K T r ta tr σ H Q) (ta σ H fun x H1 => tyV K T x H1 ∧ tr σ H1 fun xs H2 => r x xs H2 Q) := ⟨s_bm⟩
instance i_bm0 {T : String} {r : V → List V → Hp → VK → Prop} : Stp (tBM0 K T r ta σ H Q) (ta σ H fun x H1 => tyV K T x H1 ∧ r x [] H1 Q) := ⟨s_bm0⟩
instance i_lstRg {te : St → Hp → (Int → Int → Hp → Prop) → Prop} : Stp (tLstRg te σ H Q) (te σ H fun a b H1 => RgOk a b ∧ ∀ q, H1 q = none → Q (.ref q) (upd H1 q (.lst (rgV a b)))) := ⟨s_lstRg⟩
instance i_prg1 {R : Int → Int → Hp → Prop} : Stp (tRg1 ta σ H R) (ta σ H fun x H1 => ∃ b, x = .int b ∧ R 0 b H1) := ⟨s_prg1⟩
instance i_try {tb : WX → TS} {W : Ends → WX} : Stp (tTry tb W D σ H) (tb (W D) D σ H) := ⟨s_try⟩
instance i_seq {nx : St → Hp → Prop} {rt : VK} {bk ct : St → Hp → Prop} : Stp (tSeq ts us ⟨nx, rt, bk, ct⟩ σ H) (ts ⟨us ⟨nx, rt, bk, ct⟩, rt, bk, ct⟩ σ H) := ⟨s_seq⟩
instance i_next {nx : St → Hp → Prop} {rt : VK} {bk ct : St → Hp → Prop} : Stp (tNext ⟨nx, rt, bk, ct⟩ σ H) (nx σ H) := ⟨fun z => z⟩
instance i_brk {nx : St → Hp → Prop} {rt : VK} {bk ct : St → Hp → Prop} : Stp (tBreak ⟨nx, rt, bk, ct⟩ σ H) (bk σ H) := ⟨fun z => z⟩
instance i_cont {nx : St → Hp → Prop} {rt : VK} {bk ct : St → Hp → Prop} : Stp (tCont ⟨nx, rt, bk, ct⟩ σ H) (ct σ H) := ⟨fun z => z⟩
instance i_drop {nx : St → Hp → Prop} {rt : VK} {bk ct : St → Hp → Prop} : Stp (tDrop ta ⟨nx, rt, bk, ct⟩ σ H) (ta σ H fun _ H1 => nx σ H1) := ⟨fun z => z⟩
instance i_ret {nx : St → Hp → Prop} {rt : VK} {bk ct : St → Hp → Prop} : Stp (tRet ta ⟨nx, rt, bk, ct⟩ σ H) (ta σ H rt) := ⟨fun z => z⟩
instance i_retN {nx : St → Hp → Prop} {rt : VK} {bk ct : St → Hp → Prop} : Stp (tRetN ⟨nx, rt, bk, ct⟩ σ H) (rt .non H) := ⟨fun z => z⟩
instance i_ifS : Stp (tIfS tt ts us D σ H) (tt σ H fun b H1 => if b = true then ts D σ H1 else us D σ H1) := ⟨s_ifS⟩
instance i_asg {g : TG} {nx : St → Hp → Prop} {rt : VK} {bk ct : St → Hp → Prop} : Stp (tAsg ta g ⟨nx, rt, bk, ct⟩ σ H) (ta σ H fun x H1 => g x σ H1 nx) := ⟨fun z => z⟩
instance i_gName {R : St → Hp → Prop} [g : SetAt σ n (some v) σ'] : Stp (gName n v σ H R) (R σ' H) := ⟨fun z => s_gName (by rw [g.h]; exact z)⟩
instance i_gSub {R : St → Hp → Prop} {to ti : TE} {t : TSet} : Stp (gSub to ti t v σ H R) (to σ H fun o H1 => ti σ H1 fun i H2 => t o i v H2 fun H3 => R σ H3) := ⟨s_gSub⟩
instance i_gCons {R : St → Hp → Prop} {t : TG} {u : TGs} : Stp (gCons t u (x :: xs) σ H R) (t x σ H fun σ' H' => u xs σ' H' R) := ⟨s_gCons⟩
instance i_gNil {R : St → Hp → Prop} : Stp (gNil [] σ H R) (R σ H) := ⟨s_gNil⟩
instance i_nx {nx : St → Hp → Prop} {rt : VK} {bk ct : St → Hp → Prop} : Stp (Ends.nx ⟨nx, rt, bk, ct⟩ σ H) (nx σ H) := ⟨s_nx⟩
instance i_rt {nx : St → Hp → Prop} {rt : VK} {bk ct : St → Hp → Prop} : Stp (Ends.rt ⟨nx, rt, bk, ct⟩ v H) (rt v H) := ⟨s_rt⟩
instance i_abs {R : Int → Prop} : Stp (∃ i', [V.int i] = [.int i'] ∧ R i') (R i) := ⟨s_abs⟩
instance i_strS : Stp (rStrU [.str a] H Q) (Q (.str a) H) := ⟨s_strS⟩
instance i_intI : Stp (rIntU [.int i] H Q) (Q (.int i) H) := ⟨s_intI⟩
instance i_intB : Stp (rIntU [.bl k] H Q) (Q (.int (if k then 1 else 0)) H) := ⟨s_intB⟩
instance i_fld {f : Str} : Stp (tFld K ta f σ H Q) (ta σ H fun x H1 => ∃ a C dx fs v, x = .ref a ∧ H1 a = some (.ins C dx fs) ∧ Cls K C ∧ NoAttr K C f ∧ fs.lookup f = some v ∧ Q v H1) := ⟨s_fld⟩
instance i_setF {f : Str} {nx : St → Hp → Prop} {rt : VK} {bk ct : St → Hp → Prop} : Stp (sFld K ta tv f ⟨nx, rt, bk, ct⟩ σ H) (tv σ H fun y H1 => ta σ H1 fun x H2 => ∃ a C dx fs, x = .ref a ∧ H2 a = some (.ins C dx fs) ∧ Cls K C ∧ NoAttr K C f ∧ fs.length < 1000 ∧ nx σ (upd H2 a (.ins C dx (putF f y fs)))) := ⟨fun z => z⟩
instance i_meth {C : Addr} {f : Str} {sp : Sp} {dvs : List V} : Stp (tMeth C f sp dvs E ta tr σ H Q) (ta σ H fun x H1 => ∃ a dx fs, x = .ref a ∧ H1 a = some (.ins C dx fs) ∧ fs.lookup f = none ∧ tr σ H1 fun vs H2 => sp (x :: (vs ++ dvs)) H2 Q E) := ⟨s_meth⟩
instance i_make {C : Addr} {sp : Sp} {dvs : List V} : Stp (tMake C sp dvs E tr σ H Q) (tr σ H fun vs H1 => ∀ x dx, H1 x = none → H1 dx = none → dx ≠ x → sp (.ref x :: (vs ++ dvs)) (upd (upd H1 dx (.own x)) x (.ins C dx [])) (fun v H2 => v = .non ∧ Q (.ref x) H2) E) := ⟨s_make⟩
instance i_get2 {td ty tx : TE} : Stp (tDGet2 td ty tx σ H Q) (td σ H fun x H1 => ∃ a, x = .ref a ∧ IsD H1 a ∧ ty σ H1 fun y H2 => tx σ H2 fun z H3 => ∃ o, DGet H3 a y o ∧ Q (o.getD z) H3) := ⟨s_get2⟩
instance i_lc {H1 : Hp} {wi : TI} {g : TG} {tt : TT} {te : TE} {vs : List Nat} : Stp (tLc wi g tt te vs σ H1 Q) (wi σ H1 fun J H => lcB J g tt te vs σ H Q) := ⟨s_lc⟩
instance i_iStr {R : It → Hp → Prop} : Stp (iStr ta σ H R) (ta σ H fun v H => ∃ x, v = .str x ∧ R (Its x) H) := ⟨s_iStr⟩
instance i_str {R : Str → Prop} : Stp (∃ x, V.str a = .str x ∧ R x) (R a) := ⟨s_str⟩
instance i_iRng1 {R : It → Hp → Prop} : Stp (iRng1 tr σ H R) (tr σ H fun vs H => ∃ j : Int, vs = [.int j] ∧ -(2 ^ 62) ≤ j ∧ j < 2 ^ 62 ∧ R (Itr 0 j.toNat) H) := ⟨s_iRng1⟩
instance i_iList {R : It → Hp → Prop} : Stp (iList K ta σ H R) (ta σ H fun v H => ∃ a, v = .ref a ∧ (∃ xs, SqL K H a xs) ∧ R (Itl K a) H) := ⟨s_iList⟩
instance i_iTup {R : It → Hp → Prop} : Stp (iTup K ta σ H R) (ta σ H fun v H => ∃ a, v = .ref a ∧ (∃ xs, SqT K H a xs) ∧ R (Itt K a) H) := ⟨s_iTup⟩
instance i_iZipA {R : It → Hp → Prop} : Stp (iZipA K tr σ H R) (tr σ H fun vs H => ∃ a b xs ys, vs = [.ref a, .ref b] ∧ ((SqL K H a xs ∧ SqL K H b ys ∧ R (Itz K a b) H) ∨ (SqT K H a xs ∧ SqT K H b ys ∧ R (ItzT K a b) H))) := ⟨s_iZipA⟩
instance i_for {wi : TI} {g : TG} {tb : TS} : Stp (tFor wi g tb D σ H) (wi σ H fun J H => forB J g tb D σ H) := ⟨s_for⟩
instance i_par : Stp (tPar n m tr D σ H) (tr σ H fun vs H1 => ∃ v w, vs = [v, w] ∧ D.nx ((σ.set n (some v)).set m (some w)) H1) := ⟨fun z => z⟩
instance i_two {S : V → V → Prop} : Stp (∃ v w, [x, y] = [v, w] ∧ S v w) (S x y) := ⟨fun z => ⟨x, y, rfl, z⟩⟩
instance i_nxset {σ1 σ2 : St} {z u : Option V} {nx : St → Hp → Prop} {rt : VK} {bk ct : St → Hp → Prop} [g1 : SetAt σ n z σ1] [g2 : SetAt σ1 m u σ2] : Stp (Ends.nx ⟨nx, rt, bk, ct⟩ (List.set (List.set σ n z) m u) H) (nx σ2 H) := ⟨fun h => by rw [g1.h, g2.h]; exact h⟩
instance i_disp {trs : List (TE × TE)} : Stp (tDisp trs σ H Q) (∀ p, H p = none → tPairs trs σ (upd H p (.dK [])) fun ps H2 => H2 p = some (.dK []) ∧ ∃ kvs : List (Key × V), ps = kvs.map (fun kv => (kV kv.1, kv.2)) ∧ kvs.length ≤ 15 ∧ Q (.ref p) (upd H2 p (.dK (mergeK [] kvs)))) := ⟨fun z => z⟩
instance i_pair {tk tv : TE} {r : List (TE × TE)} {QP : List (V × V) → Hp → Prop} : Stp (tPairs ((tk, tv) :: r) σ H QP) (tk σ H fun x H1 => tv σ H1 fun y H2 => tPairs r σ H2 fun ps H3 => QP ((x, y) :: ps) H3) := ⟨fun z => z⟩
instance i_pair0 {QP : List (V × V) → Hp → Prop} : Stp (tPairs [] σ H QP) (QP [] H) := ⟨fun z => z⟩
instance i_yes {A B : Hp → Prop} : Stp (tYes σ H (fun b H3 => if b = true then A H3 else B H3)) (A H) := ⟨s_yes⟩
end
section
variable {H : Hp} {p a : Addr} {o u : HO}
/-- a branch over a known test -/
theorem brT {c : Prop} [Decidable c] {A B : Prop} (h : c) (z : A) : if decide c = true then A else B := by rw [if_pos (decide_eq_true h)]; exact z
theorem brF {c : Prop} [Decidable c] {A B : Prop} (h : ¬ c) (z : B) : if decide c = true then A else B := by rw [if_neg (by rw [decide_eq_false h]; exact Bool.false_ne_true)]; exact z
theorem brNT {c : Prop} [Decidable c] {A B : Prop} (h : c) (z : B) : if (!decide c) = true then A else B := by rw [if_neg (by rw [decide_eq_true h]; decide)]; exact z
theorem brNF {c : Prop} [Decidable c] {A B : Prop} (h : ¬ c) (z : A) : if (!decide c) = true then A else B := by rw [if_pos (by rw [decide_eq_false h]; rfl)]; exact z
end
class SetV (xs : List V) (n : Nat) (x : V) (ys : outParam (List V)) : Prop where
  h : xs.set n x = ys
instance setV0 {x y : V} {r : List V} : SetV (y :: r) 0 x (x :: r) := ⟨rfl⟩
instance setVS {x y : V} {r r' : List V} {n : Nat} [g : SetV r n x r'] : SetV (y :: r) (n + 1) x (y :: r') := ⟨by rw [List.set_cons_succ, g.h]⟩
theorem f_setL {H : Hp} {p : Addr} {xs ys : List V} {i : Int} {n : Nat} {v : V} {R : Hp → Prop} (h : H p = some (.lst xs)) (h1 : ixN xs.length i = some n) (g : SetV xs n v ys) (z : R (upd H p (.lst ys))) : rSetL (.ref p) (.int i) v H R := s_setL h h1 (by rw [g.h]; exact z)
theorem f_setLA {H : Hp} {p : Addr} {xs ys : List V} {i : Int} {n : Nat} {v : V} {R : Hp → Prop} (h : H p = some (.lst xs)) (h1 : ixN xs.length i = some n) (g : SetV xs n v ys) (z : R (upd H p (.lst ys))) : rSetA (.ref p) (.int i) v H R := s_setLA h h1 (by rw [g.h]; exact z)
theorem ixL_0 {x0 : V} {r : List V} : ixN (x0 :: r).length 0 = some 0 := by
  unfold ixN
  simp only [List.length_cons]
  rw [if_pos (by omega), if_pos (by omega)]
  rfl
theorem ixL_1 {x0 x1 : V} {r : List V} : ixN (x0 :: x1 :: r).length 1 = some 1 := by
  unfold ixN
  simp only [List.length_cons]
  rw [if_pos (by omega), if_pos (by omega)]
  rfl
theorem ixL_2 {x0 x1 x2 : V} {r : List V} : ixN (x0 :: x1 :: x2 :: r).length 2 = some 2 := by
  unfold ixN
  simp only [List.length_cons]
  rw [if_pos (by omega), if_pos (by omega)]
  rfl
theorem ixL_3 {x0 x1 x2 x3 : V} {r : List V} : ixN (x0 :: x1 :: x2 :: x3 :: r).length 3 = some 3 := by
  unfold ixN
  simp only [List.length_cons]
  rw [if_pos (by omega), if_pos (by omega)]
  rfl
theorem ixL_4 {x0 x1 x2 x3 x4 : V} {r : List V} : ixN (x0 :: x1 :: x2 :: x3 :: x4 :: r).length 4 = some 4 := by
  unfold ixN
  simp only [List.length_cons]
  rw [if_pos (by omega), if_pos (by omega)]
  rfl
theorem ixL_5 {x0 x1 x2 x3 x4 x5 : V} {r : List V} : ixN (x0 :: x1 :: x2 :: x3 :: x4 :: x5 :: r).length 5 = some 5 := by
  unfold ixN
  simp only [List.length_cons]
  rw [if_pos (by omega), if_pos (by omega)]
  rfl
/-! fields by their place -/
theorem look_0 {f : Str} {v : V} {r : List (Str × V)}  : ((f, v) :: r).lookup f = some v := by
  simp [List.lookup]
theorem put_0 {f : Str} {v : V} {r : List (Str × V)} {y : V}  : putF f y ((f, v) :: r) = (f, y) :: r := by
  simp [putF]
theorem new_0 {f : Str} {y : V}  : putF f y [] = [(f, y)] := by
  simp [putF]
theorem nol_0 {f : Str}  : ([] : List (Str × V)).lookup f = none := by
  simp [List.lookup]
theorem look_1 {g0 f : Str} {v0 v : V} {r : List (Str × V)} (h0 : f ≠ g0) : ((g0, v0) :: (f, v) :: r).lookup f = some v := by
  simp [List.lookup, beq_false_of_ne h0]
theorem put_1 {g0 f : Str} {v0 v : V} {r : List (Str × V)} {y : V} (h0 : f ≠ g0) : putF f y ((g0, v0) :: (f, v) :: r) = (g0, v0) :: (f, y) :: r := by
  simp [putF, h0, Ne.symm h0]
theorem new_1 {g0 f : Str} {v0 y : V} (h0 : f ≠ g0) : putF f y [(g0, v0)] = [(g0, v0), (f, y)] := by
  simp [putF, h0, Ne.symm h0]
theorem nol_1 {g0 f : Str} {v0 : V} (h0 : f ≠ g0) : ([(g0, v0)] : List (Str × V)).lookup f = none := by
  simp [List.lookup, beq_false_of_ne h0]
theorem look_2 {g0 g1 f : Str} {v0 v1 v : V} {r : List (Str × V)} (h0 : f ≠ g0) (h1 : f ≠ g1) : ((g0, v0) :: (g1, v1) :: (f, v) :: r).lookup f = some v := by
  simp [List.lookup, beq_false_of_ne h0, beq_false_of_ne h1]
theorem put_2 {g0 g1 f : Str} {v0 v1 v : V} {r : List (Str × V)} {y : V} (h0 : f ≠ g0) (h1 : f ≠ g1) : putF f y ((g0, v0) :: (g1, v1) :: (f, v) :: r) = (g0, v0) :: (g1, v1) :: (f, y) :: r := by
  simp [putF, h0, Ne.symm h0, h1, Ne.symm h1]
theorem new_2 {g0 g1 f : Str} {v0 v1 y : V} (h0 : f ≠ g0) (h1 : f ≠ g1) : putF f y [(g0, v0), (g1, v1)] = [(g0, v0), (g1, v1), (f, y)] := by
  simp [putF, h0, Ne.symm h0, h1, Ne.symm h1]
theorem nol_2 {g0 g1 f : Str} {v0 v1 : V} (h0 : f ≠ g0) (h1 : f ≠ g1) : ([(g0, v0), (g1, v1)] : List (Str × V)).lookup f = none := by
  simp [List.lookup, beq_false_of_ne h0, beq_false_of_ne h1]
theorem look_3 {g0 g1 g2 f : Str} {v0 v1 v2 v : V} {r : List (Str × V)} (h0 : f ≠ g0) (h1 : f ≠ g1) (h2 : f ≠ g2) : ((g0, v0) :: (g1, v1) :: (g2, v2) :: (f, v) :: r).lookup f = some v := by
  simp [List.lookup, beq_false_of_ne h0, beq_false_of_ne h1, beq_false_of_ne h2]
theorem put_3 {g0 g1 g2 f : Str} {v0 v1 v2 v : V} {r : List (Str × V)} {y : V} (h0 : f ≠ g0) (h1 : f ≠ g1) (h2 : f ≠ g2) : putF f y ((g0, v0) :: (g1, v1) :: (g2, v2) :: (f, v) :: r) = (g0, v0) :: (g1, v1) :: (g2, v2) :: (f, y) :: r := by
  simp [putF, h0, Ne.symm h0, h1, Ne.symm h1, h2, Ne.symm h2]
theorem new_3 {g0 g1 g2 f : Str} {v0 v1 v2 y : V} (h0 : f ≠ g0) (h1 : f ≠ g1) (h2 : f ≠ g2) : putF f y [(g0, v0), (g1, v1), (g2, v2)] = [(g0, v0), (g1, v1), (g2, v2), (f, y)] := by
  simp [putF, h0, Ne.symm h0, h1, Ne.symm h1, h2, Ne.symm h2]
theorem nol_3 {g0 g1 g2 f : Str} {v0 v1 v2 : V} (h0 : f ≠ g0) (h1 : f ≠ g1) (h2 : f ≠ g2) : ([(g0, v0), (g1, v1), (g2, v2)] : List (Str × V)).lookup f = none := by
  simp [List.lookup, beq_false_of_ne h0, beq_false_of_ne h1, beq_false_of_ne h2]
theorem look_4 {g0 g1 g2 g3 f : Str} {v0 v1 v2 v3 v : V} {r : List (Str × V)} (h0 : f ≠ g0) (h1 : f ≠ g1) (h2 : f ≠ g2) (h3 : f ≠ g3) : ((g0, v0) :: (g1, v1) :: (g2, v2) :: (g3, v3) :: (f, v) :: r).lookup f = some v := by
  simp [List.lookup, beq_false_of_ne h0, beq_false_of_ne h1, beq_false_of_ne h2, beq_false_of_ne h3]
theorem put_4 {g0 g1 g2 g3 f : Str} {v0 v1 v2 v3 v : V} {r : List (Str × V)} {y : V} (h0 : f ≠ g0) (h1 : f ≠ g1) (h2 : f ≠ g2) (h3 : f ≠ g3) : putF f y ((g0, v0) :: (g1, v1) :: (g2, v2) :: (g3, v3) :: (f, v) :: r) = (g0, v0) :: (g1, v1) :: (g2, v2) :: (g3, v3) :: (f, y) :: r := by
  simp [putF, h0, Ne.symm h0, h1, Ne.symm h1, h2, Ne.symm h2, h3, Ne.symm h3]
theorem new_4 {g0 g1 g2 g3 f : Str} {v0 v1 v2 v3 y : V} (h0 : f ≠ g0) (h1 : f ≠ g1) (h2 : f ≠ g2) (h3 : f ≠ g3) : putF f y [(g0, v0), (g1, v1), (g2, v2), (g3, v3)] = [(g0, v0), (g1, v1), (g2, v2), (g3, v3), (f, y)] := by
  simp [putF, h0, Ne.symm h0, h1, Ne.symm h1, h2, Ne.symm h2, h3, Ne.symm h3]
theorem nol_4 {g0 g1 g2 g3 f : Str} {v0 v1 v2 v3 : V} (h0 : f ≠ g0) (h1 : f ≠ g1) (h2 : f ≠ g2) (h3 : f ≠ g3) : ([(g0, v0), (g1, v1), (g2, v2), (g3, v3)] : List (Str × V)).lookup f = none := by
  simp [List.lookup, beq_false_of_ne h0, beq_false_of_ne h1, beq_false_of_ne h2, beq_false_of_ne h3]
theorem look_5 {g0 g1 g2 g3 g4 f : Str} {v0 v1 v2 v3 v4 v : V} {r : List (Str × V)} (h0 : f ≠ g0) (h1 : f ≠ g1) (h2 : f ≠ g2) (h3 : f ≠ g3) (h4 : f ≠ g4) : ((g0, v0) :: (g1, v1) :: (g2, v2) :: (g3, v3) :: (g4, v4) :: (f, v) :: r).lookup f = some v := by
  simp [List.lookup, beq_false_of_ne h0, beq_false_of_ne h1, beq_false_of_ne h2, beq_false_of_ne h3, beq_false_of_ne h4]
theorem put_5 {g0 g1 g2 g3 g4 f : Str} {v0 v1 v2 v3 v4 v : V} {r : List (Str × V)} {y : V} (h0 : f ≠ g0) (h1 : f ≠ g1) (h2 : f ≠ g2) (h3 : f ≠ g3) (h4 : f ≠ g4) : putF f y ((g0, v0) :: (g1, v1) :: (g2, v2) :: (g3, v3) :: (g4, v4) :: (f, v) :: r) = (g0, v0) :: (g1, v1) :: (g2, v2) :: (g3, v3) :: (g4, v4) :: (f, y) :: r := by
  simp [putF, h0, Ne.symm h0, h1, Ne.symm h1, h2, Ne.symm h2, h3, Ne.symm h3, h4, Ne.symm h4]
theorem new_5 {g0 g1 g2 g3 g4 f : Str} {v0 v1 v2 v3 v4 y : V} (h0 : f ≠ g0) (h1 : f ≠ g1) (h2 : f ≠ g2) (h3 : f ≠ g3) (h4 : f ≠ g4) : putF f y [(g0, v0), (g1, v1), (g2, v2), (g3, v3), (g4, v4)] = [(g0, v0), (g1, v1), (g2, v2), (g3, v3), (g4, v4), (f, y)] := by
  simp [putF, h0, Ne.symm h0, h1, Ne.symm h1, h2, Ne.symm h2, h3, Ne.symm h3, h4, Ne.symm h4]
theorem nol_5 {g0 g1 g2 g3 g4 f : Str} {v0 v1 v2 v3 v4 : V} (h0 : f ≠ g0) (h1 : f ≠ g1) (h2 : f ≠ g2) (h3 : f ≠ g3) (h4 : f ≠ g4) : ([(g0, v0), (g1, v1), (g2, v2), (g3, v3), (g4, v4)] : List (Str × V)).lookup f = none := by
  simp [List.lookup, beq_false_of_ne h0, beq_false_of_ne h1, beq_false_of_ne h2, beq_false_of_ne h3, beq_false_of_ne h4]
theorem look_6 {g0 g1 g2 g3 g4 g5 f : Str} {v0 v1 v2 v3 v4 v5 v : V} {r : List (Str × V)} (h0 : f ≠ g0) (h1 : f ≠ g1) (h2 : f ≠ g2) (h3 : f ≠ g3) (h4 : f ≠ g4) (h5 : f ≠ g5) : ((g0, v0) :: (g1, v1) :: (g2, v2) :: (g3, v3) :: (g4, v4) :: (g5, v5) :: (f, v) :: r).lookup f = some v := by
  simp [List.lookup, beq_false_of_ne h0, beq_false_of_ne h1, beq_false_of_ne h2, beq_false_of_ne h3, beq_false_of_ne h4, beq_false_of_ne h5]
theorem put_6 {g0 g1 g2 g3 g4 g5 f : Str} {v0 v1 v2 v3 v4 v5 v : V} {r : List (Str × V)} {y : V} (h0 : f ≠ g0) (h1 : f ≠ g1) (h2 : f ≠ g2) (h3 : f ≠ g3) (h4 : f ≠ g4) (h5 : f ≠ g5) : putF f y ((g0, v0) :: (g1, v1) :: (g2, v2) :: (g3, v3) :: (g4, v4) :: (g5, v5) :: (f, v) :: r) = (g0, v0) :: (g1, v1) :: (g2, v2) :: (g3, v3) :: (g4, v4) :: (g5, v5) :: (f, y) :: r := by
  simp [putF, h0, Ne.symm h0, h1, Ne.symm h1, h2, Ne.symm h2, h3, Ne.symm h3, h4, Ne.symm h4, h5, Ne.symm h5]
theorem new_6 {g0 g1 g2 g3 g4 g5 f : Str} {v0 v1 v2 v3 v4 v5 y : V} (h0 : f ≠ g0) (h1 : f ≠ g1) (h2 : f ≠ g2) (h3 : f ≠ g3) (h4 : f ≠ g4) (h5 : f ≠ g5) : putF f y [(g0, v0), (g1, v1), (g2, v2), (g3, v3), (g4, v4), (g5, v5)] = [(g0, v0), (g1, v1), (g2, v2), (g3, v3), (g4, v4), (g5, v5), (f, y)] := by
  simp [putF, h0, Ne.symm h0, h1, Ne.symm h1, h2, Ne.symm h2, h3, Ne.symm h3, h4, Ne.symm h4, h5, Ne.symm h5]
theorem nol_6 {g0 g1 g2 g3 g4 g5 f : Str} {v0 v1 v2 v3 v4 v5 : V} (h0 : f ≠ g0) (h1 : f ≠ g1) (h2 : f ≠ g2) (h3 : f ≠ g3) (h4 : f ≠ g4) (h5 : f ≠ g5) : ([(g0, v0), (g1, v1), (g2, v2), (g3, v3), (g4, v4), (g5, v5)] : List (Str × V)).lookup f = none := by
  simp [List.lookup, beq_false_of_ne h0, beq_false_of_ne h1, beq_false_of_ne h2, beq_false_of_ne h3, beq_false_of_ne h4, beq_false_of_ne h5]
theorem look_7 {g0 g1 g2 g3 g4 g5 g6 f : Str} {v0 v1 v2 v3 v4 v5 v6 v : V} {r : List (Str × V)} (h0 : f ≠ g0) (h1 : f ≠ g1) (h2 : f ≠ g2) (h3 : f ≠ g3) (h4 : f ≠ g4) (h5 : f ≠ g5) (h6 : f ≠ g6) : ((g0, v0) :: (g1, v1) :: (g2, v2) :: (g3, v3) :: (g4, v4) :: (g5, v5) :: (g6, v6) :: (f, v) :: r).lookup f = some v := by
  simp [List.lookup, beq_false_of_ne h0, beq_false_of_ne h1, beq_false_of_ne h2, beq_false_of_ne h3, beq_false_of_ne h4, beq_false_of_ne h5, beq_false_of_ne h6]
theorem put_7 {g0 g1 g2 g3 g4 g5 g6 f : Str} {v0 v1 v2 v3 v4 v5 v6 v : V} {r : List (Str × V)} {y : V} (h0 : f ≠ g0) (h1 : f ≠ g1) (h2 : f ≠ g2) (h3 : f ≠ g3) (h4 : f ≠ g4) (h5 : f ≠ g5) (h6 : f ≠ g6) : putF f y ((g0, v0) :: (g1, v1) :: (g2, v2) :: (g3, v3) :: (g4, v4) :: (g5, v5) :: (g6, v6) :: (f, v) :: r) = (g0, v0) :: (g1, v1) :: (g2, v2) :: (g3, v3) :: (g4, v4) :: (g5, v5) :: (g6, v6) :: (f, y) :: r := by
  simp [putF, h0, Ne.symm h0, h1, Ne.symm h1, h2, Ne.symm h2, h3, Ne.symm h3, h4, Ne.symm h4, h5, Ne.symm h5, h6, Ne.symm h6]
theorem new_7 {g0 g1 g2 g3 g4 g5 g6 f : Str} {v0 v1 v2 v3 v4 v5 v6 y : V} (h0 : f ≠ g0) (h1 : f ≠ g1) (h2 : f ≠ g2) (h3 : f ≠ g3) (h4 : f ≠ g4) (h5 : f ≠ g5) (h6 : f ≠ g6) : putF f y [(g0, v0), (g1, v1), (g2, v2), (g3, v3), (g4, v4), (g5, v5), (g6, v6)] = [(g0, v0), (g1, v1), (g2, v2), (g3, v3), (g4, v4), (g5, v5), (g6, v6), (f, y)] := by
  simp [putF, h0, Ne.symm h0, h1, Ne.symm h1, h2, Ne.symm h2, h3, Ne.symm h3, h4, Ne.symm h4, h5, Ne.symm h5, h6, Ne.symm h6]
theorem nol_7 {g0 g1 g2 g3 g4 g5 g6 f : Str} {v0 v1 v2 v3 v4 v5 v6 : V} (h0 : f ≠ g0) (h1 : f ≠ g1) (h2 : f ≠ g2) (h3 : f ≠ g3) (h4 : f ≠ g4) (h5 : f ≠ g5) (h6 : f ≠ g6) : ([(g0, v0), (g1, v1), (g2, v2), (g3, v3), (g4, v4), (g5, v5), (g6, v6)] : List (Str × V)).lookup f = none := by
  simp [List.lookup, beq_false_of_ne h0, beq_false_of_ne h1, beq_false_of_ne h2, beq_false_of_ne h3, beq_false_of_ne h4, beq_false_of_ne h5, beq_false_of_ne h6]
theorem look_8 {g0 g1 g2 g3 g4 g5 g6 g7 f : Str} {v0 v1 v2 v3 v4 v5 v6 v7 v : V} {r : List (Str × V)} (h0 : f ≠ g0) (h1 : f ≠ g1) (h2 : f ≠ g2) (h3 : f ≠ g3) (h4 : f ≠ g4) (h5 : f ≠ g5) (h6 : f ≠ g6) (h7 : f ≠ g7) : ((g0, v0) :: (g1, v1) :: (g2, v2) :: (g3, v3) :: (g4, v4) :: (g5, v5) :: (g6, v6) :: (g7, v7) :: (f, v) :: r).lookup f = some v := by
  simp [List.lookup, beq_false_of_ne h0, beq_false_of_ne h1, beq_false_of_ne h2, beq_false_of_ne h3, beq_false_of_ne h4, beq_false_of_ne h5, beq_false_of_ne h6, beq_false_of_ne h7]
theorem put_8 {g0 g1 g2 g3 g4 g5 g6 g7 f : Str} {v0 v1 v2 v3 v4 v5 v6 v7 v : V} {r : List (Str × V)} {y : V} (h0 : f ≠ g0) (h1 : f ≠ g1) (h2 : f ≠ g2) (h3 : f ≠ g3) (h4 : f ≠ g4) (h5 : f ≠ g5) (h6 : f ≠ g6) (h7 : f ≠ g7) : putF f y ((g0, v0) :: (g1, v1) :: (g2, v2) :: (g3, v3) :: (g4, v4) :: (g5, v5) :: (g6, v6) :: (g7, v7) :: (f, v) :: r) = (g0, v0) :: (g1, v1) :: (g2, v2) :: (g3, v3) :: (g4, v4) :: (g5, v5) :: (g6, v6) :: (g7, v7) :: (f, y) :: r := by
  simp [putF, h0, Ne.symm h0, h1, Ne.symm h1, h2, Ne.symm h2, h3, Ne.symm h3, h4, Ne.symm h4, h5, Ne.symm h5, h6, Ne.symm h6, h7, Ne.symm h7]
theorem new_8 {g0 g1 g2 g3 g4 g5 g6 g7 f : Str} {v0 v1 v2 v3 v4 v5 v6 v7 y : V} (h0 : f ≠ g0) (h1 : f ≠ g1) (h2 : f ≠ g2) (h3 : f ≠ g3) (h4 : f ≠ g4) (h5 : f ≠ g5) (h6 : f ≠ g6) (h7 : f ≠ g7) : putF f y [(g0, v0), (g1, v1), (g2, v2), (g3, v3), (g4, v4), (g5, v5), (g6, v6), (g7, v7)] = [(g0, v0), (g1, v1), (g2, v2), (g3, v3), (g4, v4), (g5, v5), (g6, v6), (g7, v7), (f, y)] := by
  simp [putF, h0, Ne.symm h0, h1, Ne.symm h1, h2, Ne.symm h2, h3, Ne.symm h3, h4, Ne.symm h4, h5, Ne.symm h5, h6, Ne.symm h6, h7, Ne.symm h7]
theorem nol_8 {g0 g1 g2 g3 g4 g5 g6 g7 f : Str} {v0 v1 v2 v3 v4 v5 v6 v7 : V} (h0 : f ≠ g0) (h1 : f ≠ g1) (h2 : f ≠ g2) (h3 : f ≠ g3) (h4 : f ≠ g4) (h5 : f ≠ g5) (h6 : f ≠ g6) (h7 : f ≠ g7) : ([(g0, v0), (g1, v1), (g2, v2), (g3, v3), (g4, v4), (g5, v5), (g6, v6), (g7, v7)] : List (Str × V)).lookup f = none := by
  simp [List.lookup, beq_false_of_ne h0, beq_false_of_ne h1, beq_false_of_ne h2, beq_false_of_ne h3, beq_false_of_ne h4, beq_false_of_ne h5, beq_false_of_ne h6, beq_false_of_ne h7]
theorem look_9 {g0 g1 g2 g3 g4 g5 g6 g7 g8 f : Str} {v0 v1 v2 v3 v4 v5 v6 v7 v8 v : V} {r : List (Str × V)} (h0 : f ≠ g0) (h1 : f ≠ g1) (h2 : f ≠ g2) (h3 : f ≠ g3) (h4 : f ≠ g4) (h5 : f ≠ g5) (h6 : f ≠ g6) (h7 : f ≠ g7) (h8 : f ≠ g8) : ((g0, v0) :: (g1, v1) :: (g2, v2) :: (g3, v3) :: (g4, v4) :: (g5, v5) :: (g6, v6) :: (g7, v7) :: (g8, v8) :: (f, v) :: r).lookup f = some v := by
  simp [List.lookup, beq_false_of_ne h0, beq_false_of_ne h1, beq_false_of_ne h2, beq_false_of_ne h3, beq_false_of_ne h4, beq_false_of_ne h5, beq_false_of_ne h6, beq_false_of_ne h7, beq_false_of_ne h8]
theorem put_9 {g0 g1 g2 g3 g4 g5 g6 g7 g8 f : Str} {v0 v1 v2 v3 v4 v5 v6 v7 v8 v : V} {r : List (Str × V)} {y : V} (h0 : f ≠ g0) (h1 : f ≠ g1) (h2 : f ≠ g2) (h3 : f ≠ g3) (h4 : f ≠ g4) (h5 : f ≠ g5) (h6 : f ≠ g6) (h7 : f ≠ g7) (h8 : f ≠ g8) : putF f y ((g0, v0) :: (g1, v1) :: (g2, v2) :: (g3, v3) :: (g4, v4) :: (g5, v5) :: (g6, v6) :: (g7, v7) :: (g8, v8) :: (f, v) :: r) = (g0, v0) :: (g1, v1) :: (g2, v2) :: (g3, v3) :: (g4, v4) :: (g5, v5) :: (g6, v6) :: (g7, v7) :: (g8, v8) :: (f, y) :: r := by
  simp [putF, h0, Ne.symm h0, h1, Ne.symm h1, h2, Ne.symm h2, h3, Ne.symm h3, h4, Ne.symm h4, h5, Ne.symm h5, h6, Ne.symm h6, h7, Ne.symm h7, h8, Ne.symm h8]
theorem new_9 {g0 g1 g2 g3 g4 g5 g6 g7 g8 f : Str} {v0 v1 v2 v3 v4 v5 v6 v7 v8 y : V} (h0 : f ≠ g0) (h1 : f ≠ g1) (h2 : f ≠ g2) (h3 : f ≠ g3) (h4 : f ≠ g4) (h5 : f ≠ g5) (h6 : f ≠ g6) (h7 : f ≠ g7) (h8 : f ≠ g8) : putF f y [(g0, v0), (g1, v1), (g2, v2), (g3, v3), (g4, v4), (g5, v5), (g6, v6), (g7, v7), (g8, v8)] = [(g0, v0), (g1, v1), (g2, v2), (g3, v3), (g4, v4), (g5, v5), (g6, v6), (g7, v7), (g8, v8), (f, y)] := by
  simp [putF, h0, Ne.symm h0, h1, Ne.symm h1, h2, Ne.symm h2, h3, Ne.symm h3, h4, Ne.symm h4, h5, Ne.symm h5, h6, Ne.symm h6, h7, Ne.symm h7, h8, Ne.symm h8]
theorem nol_9 {g0 g1 g2 g3 g4 g5 g6 g7 g8 f : Str} {v0 v1 v2 v3 v4 v5 v6 v7 v8 : V} (h0 : f ≠ g0) (h1 : f ≠ g1) (h2 : f ≠ g2) (h3 : f ≠ g3) (h4 : f ≠ g4) (h5 : f ≠ g5) (h6 : f ≠ g6) (h7 : f ≠ g7) (h8 : f ≠ g8) : ([(g0, v0), (g1, v1), (g2, v2), (g3, v3), (g4, v4), (g5, v5), (g6, v6), (g7, v7), (g8, v8)] : List (Str × V)).lookup f = none := by
  simp [List.lookup, beq_false_of_ne h0, beq_false_of_ne h1, beq_false_of_ne h2, beq_false_of_ne h3, beq_false_of_ne h4, beq_false_of_ne h5, beq_false_of_ne h6, beq_false_of_ne h7, beq_false_of_ne h8]
theorem look_10 {g0 g1 g2 g3 g4 g5 g6 g7 g8 g9 f : Str} {v0 v1 v2 v3 v4 v5 v6 v7 v8 v9 v : V} {r : List (Str × V)} (h0 : f ≠ g0) (h1 : f ≠ g1) (h2 : f ≠ g2) (h3 : f ≠ g3) (h4 : f ≠ g4) (h5 : f ≠ g5) (h6 : f ≠ g6) (h7 : f ≠ g7) (h8 : f ≠ g8) (h9 : f ≠ g9) : ((g0, v0) :: (g1, v1) :: (g2, v2) :: (g3, v3) :: (g4, v4) :: (g5, v5) :: (g6, v6) :: (g7, v7) :: (g8, v8) :: (g9, v9) :: (f, v) :: r).lookup f = some v := by
  simp [List.lookup, beq_false_of_ne h0, beq_false_of_ne h1, beq_false_of_ne h2, beq_false_of_ne h3, beq_false_of_ne h4, beq_false_of_ne h5, beq_false_of_ne h6, beq_false_of_ne h7, beq_false_of_ne h8, beq_false_of_ne h9]
theorem put_10 {g0 g1 g2 g3 g4 g5 g6 g7 g8 g9 f : Str} {v0 v1 v2 v3 v4 v5 v6 v7 v8 v9 v : V} {r : List (Str × V)} {y : V} (h0 : f ≠ g0) (h1 : f ≠ g1) (h2 : f ≠ g2) (h3 : f ≠ g3) (h4 : f ≠ g4) (h5 : f ≠ g5) (h6 : f ≠ g6) (h7 : f ≠ g7) (h8 : f ≠ g8) (h9 : f ≠ g9) : putF f y ((g0, v0) :: (g1, v1) :: (g2, v2) :: (g3, v3) :: (g4, v4) :: (g5, v5) :: (g6, v6) :: (g7, v7) :: (g8, v8) :: (g9, v9) :: (f, v) :: r) = (g0, v0) :: (g1, v1) :: (g2, v2) :: (g3, v3) :: (g4, v4) :: (g5, v5) :: (g6, v6) :: (g7, v7) :: (g8, v8) :: (g9, v9) :: (f, y) :: r := by
  simp [putF, h0, Ne.symm h0, h1, Ne.symm h1, h2, Ne.symm h2, h3, Ne.symm h3, h4, Ne.symm h4, h5, Ne.symm h5, h6, Ne.symm h6, h7, Ne.symm h7, h8, Ne.symm h8, h9, Ne.symm h9]
theorem new_10 {g0 g1 g2 g3 g4 g5 g6 g7 g8 g9 f : Str} {v0 v1 v2 v3 v4 v5 v6 v7 v8 v9 y : V} (h0 : f ≠ g0) (h1 : f ≠ g1) (h2 : f ≠ g2) (h3 : f ≠ g3) (h4 : f ≠ g4) (h5 : f ≠ g5) (h6 : f ≠ g6) (h7 : f ≠ g7) (h8 : f ≠ g8) (h9 : f ≠ g9) : putF f y [(g0, v0), (g1, v1), (g2, v2), (g3, v3), (g4, v4), (g5, v5), (g6, v6), (g7, v7), (g8, v8), (g9, v9)] = [(g0, v0), (g1, v1), (g2, v2), (g3, v3), (g4, v4), (g5, v5), (g6, v6), (g7, v7), (g8, v8), (g9, v9), (f, y)] := by
  simp [putF, h0, Ne.symm h0, h1, Ne.symm h1, h2, Ne.symm h2, h3, Ne.symm h3, h4, Ne.symm h4, h5, Ne.symm h5, h6, Ne.symm h6, h7, Ne.symm h7, h8, Ne.symm h8, h9, Ne.symm h9]
theorem nol_10 {g0 g1 g2 g3 g4 g5 g6 g7 g8 g9 f : Str} {v0 v1 v2 v3 v4 v5 v6 v7 v8 v9 : V} (h0 : f ≠ g0) (h1 : f ≠ g1) (h2 : f ≠ g2) (h3 : f ≠ g3) (h4 : f ≠ g4) (h5 : f ≠ g5) (h6 : f ≠ g6) (h7 : f ≠ g7) (h8 : f ≠ g8) (h9 : f ≠ g9) : ([(g0, v0), (g1, v1), (g2, v2), (g3, v3), (g4, v4), (g5, v5), (g6, v6), (g7, v7), (g8, v8), (g9, v9)] : List (Str × V)).lookup f = none := by
  simp [List.lookup, beq_false_of_ne h0, beq_false_of_ne h1, beq_false_of_ne h2, beq_false_of_ne h3, beq_false_of_ne h4, beq_false_of_ne h5, beq_false_of_ne h6, beq_false_of_ne h7, beq_false_of_ne h8, beq_false_of_ne h9]
section
variable {σ : St} {H : Hp} {Q : VK} {v x y : V} {i j : Int} {n k : Nat} {p q a C dx : Addr} {xs : List V} {K : PySem.W.Frag} {w : World} {f m : Str} {fs fs' : List (Str × V)}
theorem f_fld {fl : List Str} {R : V → Prop} (h : H a = some (.ins C dx fs)) (c : ClsF K C fl) (hf : f ∈ fl) (hl : fs.lookup f = some v) (z : R v) : ∃ a' C' dx' fs' v', V.ref a = .ref a' ∧ H a' = some (.ins C' dx' fs') ∧ Cls K C' ∧ NoAttr K C' f ∧ fs'.lookup f = some v' ∧ R v' := s_fldI c h hf hl z
theorem f_setF {fl : List Str} {R : Hp → Prop} (h : H a = some (.ins C dx fs)) (c : ClsF K C fl) (hf : f ∈ fl) (hl : fs.length < 1000) (hp : putF f y fs = fs') (z : R (upd H a (.ins C dx fs'))) : ∃ a' C' dx' fs', V.ref a = .ref a' ∧ H a' = some (.ins C' dx' fs') ∧ Cls K C' ∧ NoAttr K C' f ∧ fs'.length < 1000 ∧ R (upd H a' (.ins C' dx' (putF f y fs'))) := s_setFI c h hf hl (by rw [hp]; exact z)
theorem f_meth {R : Addr → Prop} (h : H a = some (.ins C dx fs)) (hl : fs.lookup m = none) (z : R a) : ∃ a' dx' fs', V.ref a = .ref a' ∧ H a' = some (.ins C dx' fs') ∧ fs'.lookup m = none ∧ R a' := s_methI h hl z
theorem f_ixL (h : H p = some (.lst xs)) (h1 : atI xs i = some v) (z : Q v H) : rIx K (.ref p) (.int i) H Q := s_ixL (SqL.of h) h1 z
theorem f_ixLA (h : H p = some (.lst xs)) (h1 : atI xs i = some v) (z : Q v H) : rIxA K w (.ref p) (.int i) H Q := s_ixA (s_ixL (SqL.of h) h1 z)
theorem f_ixTA (h : SqT K H p xs) (h1 : atI xs i = some v) (z : Q v H) : rIxA K w (.ref p) (.int i) H Q := s_ixA (s_ixT h h1 z)
theorem f_lenL {R : Nat → Prop} (h : H p = some (.lst xs)) (z : R xs.length) : ∃ x' n', [V.ref p] = [x'] ∧ LenV K x' H n' ∧ R n' := s_lenL (SqL.of h) z
theorem f_tyL {D : Prop} (h : H p = some (.lst xs)) (z : D) : tyV K "list" (.ref p) H ∧ D := s_tyL (SqL.of h) z
theorem f_sz {D : Prop} (h : Nat.ble xs.length 16777216 = true) (z : D) : xs.length ≤ sizeLine ∧ D := ⟨sz h, z⟩
end
section
variable {K : PySem.W.Frag} {σ : St} {H1 : Hp} {Q : VK} {g : TG} {te : TE} {vs : List Nat}
theorem forB_tup {a : Addr} {xs : List V} {tb : TS} {nx : St → Hp → Prop} {rt : VK} {bk ct : St → Hp → Prop} (Pv : Nat → St → Hp → Prop) (h0 : Pv 0 σ H1) (hl : ∀ i σ H, i ≤ xs.length → Pv i σ H → SqT K H a xs)
    (hs : ∀ i x σ H, xs[i]? = some x → Pv i σ H → g x σ H fun σ2 H2 => tb ⟨Pv (i + 1), rt, nx, Pv (i + 1)⟩ σ2 H2) (hd : ∀ σ H, Pv xs.length σ H → nx σ H) : forB (Itt K a) g tb ⟨nx, rt, bk, ct⟩ σ H1 := for_tup Pv h0 hl hs hd
theorem lcB_list {a : Addr} (xs : List V) {tt : TT} (S : Addr → Nat → List V → Hp → Prop) (h0 : ∀ D, H1 D = none → S D 0 [] (upd H1 D (.lst []))) (hl : ∀ D i acc H, H1 D = none → S D i acc H → SqL K H a xs)
    (hs : ∀ D i acc H x, H1 D = none → xs[i]? = some x → H D = some (.lst acc) → acc.length ≤ i → S D i acc H → g x (wipe σ vs) H fun σ2 H2 => wipe σ2 vs = wipe σ vs ∧ tt σ2 H2 fun b H3 => if b = true then te σ2 H3 (LcPost S D i) else LcSkip S D i H3)
    (hd : ∀ D acc H, H1 D = none → H D = some (.lst acc) → acc.length ≤ xs.length → S D xs.length acc H → Q (.ref D) H) : lcB (Itl K a) g tt te vs σ H1 Q :=
  lcB_of xs.length S h0 (fun D i acc H hD hi hS => ⟨xs, xs[i], hl D i acc H hD hS, List.getElem?_eq_getElem hi⟩) (fun D acc H hD hS => ⟨xs, hl D _ acc H hD hS, Nat.le_refl _⟩)
    (fun D i acc H x H' hD hi ha hlen hS ⟨e, hx⟩ => by subst e; exact hs D i acc _ x hD (hx xs (hl D i acc _ hD hS)) ha hlen hS) hd
theorem lcB_tup {a : Addr} (xs : List V) {tt : TT} (S : Addr → Nat → List V → Hp → Prop) (h0 : ∀ D, H1 D = none → S D 0 [] (upd H1 D (.lst []))) (hl : ∀ D i acc H, H1 D = none → S D i acc H → SqT K H a xs)
    (hs : ∀ D i acc H x, H1 D = none → xs[i]? = some x → H D = some (.lst acc) → acc.length ≤ i → S D i acc H → g x (wipe σ vs) H fun σ2 H2 => wipe σ2 vs = wipe σ vs ∧ tt σ2 H2 fun b H3 => if b = true then te σ2 H3 (LcPost S D i) else LcSkip S D i H3)
    (hd : ∀ D acc H, H1 D = none → H D = some (.lst acc) → acc.length ≤ xs.length → S D xs.length acc H → Q (.ref D) H) : lcB (Itt K a) g tt te vs σ H1 Q :=
  lcB_of xs.length S h0 (fun D i acc H hD hi hS => ⟨xs, xs[i], hl D i acc H hD hS, List.getElem?_eq_getElem hi⟩) (fun D acc H hD hS => ⟨xs, hl D _ acc H hD hS, Nat.le_refl _⟩)
    (fun D i acc H x H' hD hi ha hlen hS ⟨e, hx⟩ => by subst e; exact hs D i acc _ x hD (hx xs (hl D i acc _ hD hS)) ha hlen hS) hd
end
end L2.U
/-! Rec: names, figures, reckonings as trees: read from words, written as words. Own text; no program in sight. -/
namespace L2.U
open PySem PySem.Spec PyProof.Rows RZ TL
/-! ### names and figures -/
def lettersS : Str := Str.ofString "abcdefghijklmnopqrstuvwxyz"
def figuresS : Str := Str.ofString "0123456789"
def takenL : List Str := ["fun", "end", "let", "store", "say", "ask", "give", "fail", "call", "if", "else", "while", "try", "catch", "div", "mod", "and", "or", "not", "at"]
def isNm (x : Str) : Bool := decide ((1 : Int) ≤ (x.length : Nat)) && (decide (((x.length : Nat) : Int) ≤ 8) && ((x.cps.toList.map fun c => decide (c ∈ lettersS.cps.toList)).all id && !inV (.str x) (takenL.map V.str)))
def isFig (m : Int) (x : Str) : Bool := (decide ((1 : Int) ≤ (x.length : Nat)) && decide (((x.length : Nat) : Int) ≤ m)) && ((x.cps.toList.map fun c => decide (c ∈ figuresS.cps.toList)).all id && (decide (x = Str.ofString "0") || !decide (x.cps.toList.head? = some 48)))
theorem flat_strs : ∀ l : List Str, (l.map V.str).all flatV = true
  | [] => rfl
  | x :: l => by
    rw [List.map_cons, List.all_cons, flat_strs l]
    rfl
theorem inV_strs (x : Str) : ∀ l : List Str, inV (.str x) (l.map V.str) = decide (x ∈ l)
  | [] => rfl
  | y :: l => by
    have e := inV_strs x l
    unfold inV at e ⊢
    rw [List.map_cons]
    simp only [List.any_cons, List.mem_cons] at e ⊢
    rw [e]
    by_cases h : x = y
    · subst h
      simp [eqV]
    · by_cases h2 : x ∈ l <;> simp [h, h2, eqV, Ne.symm h]
theorem taken_split : Txt.split (Str.ofString "fun end let store say ask give fail call if else while try catch div mod and or not at") (Str.ofString " ") = takenL := by decide +kernel
theorem len_sz {x : Str} (h : x.length ≤ 1000) : x.length ≤ sizeLine := Nat.le_of_lt (small1000 h)
theorem fig_codes : figuresS.cps.toList = [48, 49, 50, 51, 52, 53, 54, 55, 56, 57] := by decide +kernel
def numOf (x : Str) : Nat := NumText.digitsVal (tl x)
structure FigF (m : Int) (x : Str) : Prop where
  l0 : 1 ≤ (tl x).length
  l1 : ((tl x).length : Int) ≤ m
  dg : NumText.AllDigits (tl x)
  hd : tl x = [48] ∨ ∃ c r, tl x = c :: r ∧ 49 ≤ c
theorem isFig_of {m : Int} {x : Str} (h : isFig m x = true) : FigF m x := by
  unfold isFig at h
  simp only [Bool.and_eq_true, decide_eq_true_eq, Bool.or_eq_true, List.all_map, List.all_eq_true, Function.comp, id, Bool.not_eq_true', decide_eq_false_iff_not] at h
  obtain ⟨⟨h1, h2⟩, h3, h4⟩ := h
  have e : x.length = (tl x).length := len_tl x
  have dg : NumText.AllDigits (tl x) := fun c hc => by
    have := h3 c hc
    rw [fig_codes] at this
    simp only [List.mem_cons, List.not_mem_nil, or_false] at this
    omega
  refine ⟨by omega, by omega, dg, ?_⟩
  rcases h4 with h4 | h4
  · left
    rw [h4]
    rfl
  · right
    cases q : tl x with
    | nil => rw [q] at e; rw [e] at h1; simp at h1
    | cons c r =>
      refine ⟨c, r, rfl, ?_⟩
      have h5 := dg c (by rw [q]; exact List.mem_cons_self)
      have h6 : c ≠ 48 := fun z => h4 (by show (tl x).head? = some 48; rw [q, z]; rfl)
      omega
theorem isFig_int {m : Int} {x : Str} (h : isFig m x = true) (hm : m ≤ 600) : PySem.intText? x = some ((numOf x : Nat) : Int) := by
  have F := isFig_of h
  exact intText_digits F.dg (fun e => by have := F.l0; rw [show tl x = x.cps.toList from rfl, e] at this; simp at this) (by rw [len_tl]; have := F.l1; omega)
theorem chars_back : ∀ l : List Nat, NumText.AllDigits l → (l.map Char.ofNat).map Char.toNat = l
  | [], _ => rfl
  | c :: r, h => by
    rw [List.map_cons, List.map_cons, chars_back r h.tail]
    have := h.head
    congr 1
    have : c = 48 ∨ c = 49 ∨ c = 50 ∨ c = 51 ∨ c = 52 ∨ c = 53 ∨ c = 54 ∨ c = 55 ∨ c = 56 ∨ c = 57 := by omega
    rcases this with rfl | rfl | rfl | rfl | rfl | rfl | rfl | rfl | rfl | rfl <;> rfl
theorem isFig_back {m : Int} {x : Str} (h : isFig m x = true) : Str.ofString (toString ((numOf x : Nat) : Int)) = x := by
  have F := isFig_of h
  refine ext_tl ?_
  rw [tl_num]
  unfold numL numOf
  have e : (tl x).length = ((tl x).length - 1) + 1 := by have := F.l0; omega
  rw [NumText.toDigits_digitsVal _ _ e F.dg ?_]
  · exact chars_back _ F.dg
  · rcases F.hd with z | z
    · left
      rw [z]
      rfl
    · exact .inr z
theorem digits_lt : ∀ (l : List Nat), NumText.AllDigits l → NumText.digitsVal l < 10 ^ l.length := by
  intro l h
  have : ∀ (l : List Nat) (a : Nat), NumText.AllDigits l → l.foldl (fun acc c => acc * 10 + (c - 48)) a < (a + 1) * 10 ^ l.length := by
    intro l
    induction l with
    | nil => intro a _; simp
    | cons c r ih =>
      intro a h
      have h1 := ih (a * 10 + (c - 48)) h.tail
      have h2 := h.head
      rw [List.foldl_cons, List.length_cons, Nat.pow_succ]
      refine Nat.lt_of_lt_of_le h1 ?_
      rw [show (a + 1) * (10 ^ r.length * 10) = ((a + 1) * 10) * 10 ^ r.length by rw [Nat.mul_comm (10 ^ r.length) 10, Nat.mul_assoc]]
      exact Nat.mul_le_mul_right _ (by omega)
  have := this l 0 h
  rw [Nat.zero_add, Nat.one_mul] at this
  exact this
theorem isFig_lt {x : Str} (h : isFig 6 x = true) : numOf x < 1000000 := by
  have F := isFig_of h
  refine Nat.lt_of_lt_of_le (digits_lt _ F.dg) ?_
  have := F.l1
  exact Nat.le_trans (Nat.pow_le_pow_right (by decide) (show (tl x).length ≤ 6 by omega)) (by decide)
/-! ### trees -/
inductive Tr
  | nu (n : Nat) | nm (x : Str) | one (w : Str) (a : Tr) | two (w : Str) (a b : Tr)
def oneL : List Str := ["not", "at"]
def twoL : List Str := ["+", "-", "*", "div", "mod", "<", "=", "and", "or"]
def numS (n : Nat) : Str := Str.ofString (toString ((n : Nat) : Int))
def dTr : Tr → PyData
  | .nu n => .tuple [.str "number", .int n]
  | .nm x => .tuple [.str "name", .str x]
  | .one w a => .tuple [.str w, dTr a]
  | .two w a b => .tuple [.str w, dTr a, dTr b]
def tw : Tr → List Str
  | .nu n => [numS n]
  | .nm x => [x]
  | .one w a => w :: tw a
  | .two w a b => w :: (tw a ++ tw b)
def dep : Tr → Nat
  | .nu _ => 0
  | .nm _ => 0
  | .one _ a => dep a + 1
  | .two _ a b => max (dep a) (dep b) + 1
/-- the kinds of a tree -/
def TrOk : Tr → Prop
  | .nu n => n < 1000000
  | .nm x => isNm x = true
  | .one w a => w ∈ oneL ∧ TrOk a
  | .two w a b => w ∈ twoL ∧ TrOk a ∧ TrOk b
theorem dTr_noL : ∀ t : Tr, noL (dTr t) = true
  | .nu _ => rfl
  | .nm _ => rfl
  | .one w a => by simp [dTr, noL, noLAll, dTr_noL a]
  | .two w a b => by simp [dTr, noL, noLAll, dTr_noL a, dTr_noL b]
theorem dep_tw : ∀ t : Tr, dep t < (tw t).length
  | .nu _ => by simp [dep, tw]
  | .nm _ => by simp [dep, tw]
  | .one w a => by
    have := dep_tw a
    simp [dep, tw]
    omega
  | .two w a b => by
    have h1 := dep_tw a
    have h2 := dep_tw b
    simp [dep, tw]
    omega
theorem okD_tr : ∀ (n : Nat) (t : Tr), dep t + 2 ≤ n → OkD n (dTr t)
  | 0, t, h => by omega
  | 1, t, h => by omega
  | n + 2, .nu k, h => ⟨by simp, by intro d hd; simp at hd; rcases hd with rfl | rfl <;> trivial⟩
  | n + 2, .nm k, h => ⟨by simp, by intro d hd; simp at hd; rcases hd with rfl | rfl <;> trivial⟩
  | n + 2, .one w a, h => ⟨by simp, by
    intro d hd
    simp at hd
    rcases hd with rfl | rfl
    · trivial
    · exact okD_tr (n + 1) a (by simp [dep] at h; omega)⟩
  | n + 2, .two w a b, h => ⟨by simp, by
    intro d hd
    simp at hd
    rcases hd with rfl | rfl | rfl
    · trivial
    · exact okD_tr (n + 1) a (by simp [dep] at h; omega)
    · exact okD_tr (n + 1) b (by simp [dep] at h; omega)⟩
/-! ### reading -/
def parse : Nat → List Str → Option (Tr × List Str)
  | 0, _ => none
  | _ + 1, [] => none
  | n + 1, x :: r =>
    if isFig 6 x = true then some (.nu (numOf x), r)
    else if isNm x = true then some (.nm x, r)
    else if x ∈ oneL then
      match parse n r with
      | none => none
      | some (a, r1) => some (.one x a, r1)
    else if x ∈ twoL then
      match parse n r with
      | none => none
      | some (a, r1) =>
        match parse n r1 with
        | none => none
        | some (b, r2) => some (.two x a b, r2)
    else none
/-- the words of a tree: short, not empty, without a blank -/
def WdOk (w : Str) : Prop := 1 ≤ w.length ∧ w.length ≤ 8 ∧ 32 ∉ tl w ∧ PyData.strOk w = true
instance (w : Str) : Decidable (WdOk w) := by unfold WdOk; infer_instance
theorem strOk_of {w : Str} (h : ∀ c ∈ tl w, c < 1114112) : PyData.strOk w = true := by
  unfold PyData.strOk
  rw [← Array.all_toList, List.all_eq_true]
  exact fun c hc => decide_eq_true (h c hc)
theorem oneL_len : ∀ w ∈ oneL, WdOk w := by decide +kernel
theorem twoL_len : ∀ w ∈ twoL, WdOk w := by decide +kernel
theorem letters_no : 32 ∉ lettersS.cps.toList := by decide +kernel
theorem letters_lt : ∀ c ∈ lettersS.cps.toList, c < 1114112 := by decide +kernel
theorem isNm_len {x : Str} (h : isNm x = true) : WdOk x := by
  unfold isNm at h
  simp only [Bool.and_eq_true, decide_eq_true_eq, List.all_map, List.all_eq_true, Function.comp, id] at h
  obtain ⟨h1, h2, h3, _⟩ := h
  refine ⟨by omega, by omega, fun m => letters_no (h3 32 m), strOk_of fun c hc => letters_lt c (h3 c hc)⟩
theorem numS_len {n : Nat} (h : n < 1000000) : WdOk (numS n) := by
  unfold numS WdOk
  rw [len_tl, tl_num]
  have h1 : numL n ≠ [] := numL_ne n
  have h2 := numL_len (n := n) (k := 6) (by decide) h
  exact ⟨List.length_pos_iff.mpr h1, by omega, numL_free (.inl (by decide)), strOk_of fun c hc => by
    rw [tl_num] at hc
    have := numL_digits n c hc
    omega⟩
theorem tw_ok : ∀ t : Tr, TrOk t → ∀ w ∈ tw t, WdOk w
  | .nu n, h, w, hw => by
    rw [List.mem_singleton.mp hw]
    exact numS_len h
  | .nm x, h, w, hw => by
    rw [List.mem_singleton.mp hw]
    exact isNm_len h
  | .one v a, h, w, hw => by
    rcases List.mem_cons.mp hw with rfl | hw
    · exact oneL_len _ h.1
    · exact tw_ok a h.2 w hw
  | .two v a b, h, w, hw => by
    rcases List.mem_cons.mp hw with rfl | hw
    · exact twoL_len _ h.1
    · rcases List.mem_append.mp hw with hw | hw
      · exact tw_ok a h.2.1 w hw
      · exact tw_ok b h.2.2 w hw
theorem parse_spec : ∀ (n : Nat) (ws : List Str) (t : Tr) (r : List Str), parse n ws = some (t, r) → TrOk t ∧ ws = tw t ++ r
  | 0, _, _, _, h => by simp [parse] at h
  | _ + 1, [], _, _, h => by simp [parse] at h
  | n + 1, x :: ws, t, r, h => by
    unfold parse at h
    by_cases h1 : isFig 6 x = true
    · rw [if_pos h1] at h
      cases h
      exact ⟨isFig_lt h1, by show x :: ws = [numS (numOf x)] ++ ws; rw [numS, isFig_back h1]; rfl⟩
    · rw [if_neg h1] at h
      by_cases h2 : isNm x = true
      · rw [if_pos h2] at h
        cases h
        exact ⟨h2, rfl⟩
      · rw [if_neg h2] at h
        by_cases h3 : x ∈ oneL
        · rw [if_pos h3] at h
          cases q : parse n ws with
          | none => rw [q] at h; cases h
          | some p =>
            obtain ⟨a, r1⟩ := p
            rw [q] at h
            cases h
            obtain ⟨k1, k2⟩ := parse_spec n ws a r q
            exact ⟨⟨h3, k1⟩, by rw [k2]; rfl⟩
        · rw [if_neg h3] at h
          by_cases h4 : x ∈ twoL
          · rw [if_pos h4] at h
            cases q : parse n ws with
            | none => rw [q] at h; cases h
            | some p =>
              obtain ⟨a, r1⟩ := p
              rw [q] at h
              dsimp only at h
              cases q2 : parse n r1 with
              | none => rw [q2] at h; cases h
              | some p2 =>
                obtain ⟨b, r2⟩ := p2
                rw [q2] at h
                cases h
                obtain ⟨k1, k2⟩ := parse_spec n ws a r1 q
                obtain ⟨k3, k4⟩ := parse_spec n r1 b r q2
                exact ⟨⟨h4, k1, k3⟩, by rw [k2, k4]; show x :: (tw a ++ (tw b ++ r)) = x :: (tw a ++ tw b) ++ r; simp⟩
          · rw [if_neg h4] at h
            cases h
theorem parse_len {n : Nat} {ws : List Str} {t : Tr} {r : List Str} (h : parse n ws = some (t, r)) : r.length < ws.length := by
  rw [(parse_spec n ws t r h).2, List.length_append]
  have := dep_tw t
  omega
/-- a text's tree -/
def readW (ws : List Str) : Option Tr := match parse 21 (ws.take 20) with
  | none => none
  | some (t, r) => if r = [] ∧ ws.length ≤ 20 then some t else none
theorem readW_some {ws : List Str} {t : Tr} (h : readW ws = some t) : TrOk t ∧ ws = tw t ∧ (tw t).length ≤ 20 ∧ parse 21 (ws.take 20) = some (t, []) := by
  unfold readW at h
  cases q : parse 21 (ws.take 20) with
  | none => rw [q] at h; cases h
  | some p =>
    obtain ⟨a, r⟩ := p
    rw [q] at h
    dsimp only at h
    split at h
    · rename_i c
      cases h
      obtain ⟨k1, k2⟩ := parse_spec _ _ _ _ q
      rw [List.take_of_length_le c.2, c.1, List.append_nil] at k2
      exact ⟨k1, k2, by rw [← k2]; exact c.2, by rw [c.1]⟩
    · cases h
theorem readW_blank {ws : List Str} (h : Str.ofString "" ∈ ws) : readW ws = none := by
  cases q : readW ws with
  | none => rfl
  | some t =>
    obtain ⟨k1, k2, _⟩ := readW_some q
    rw [k2] at h
    have := (tw_ok t k1 _ h).1
    exact absurd this (by decide)
/-! ### joined words -/
def blankS : Str := Str.ofString " "
theorem joinL_le (S : List Nat) (k : Nat) (hS : S.length ≤ 1) : ∀ ps : List (List Nat), (∀ p ∈ ps, p.length ≤ k) → (joinL S ps).length ≤ (k + 1) * ps.length
  | [], _ => by simp [joinL]
  | [p], h => by
    have := h p List.mem_cons_self
    simp [joinL]
    omega
  | p :: q :: r, h => by
    have h1 := joinL_le S k hS (q :: r) fun z hz => h z (List.mem_cons_of_mem _ hz)
    have h2 := h p List.mem_cons_self
    show (p ++ (S ++ joinL S (q :: r))).length ≤ _
    rw [List.length_append, List.length_append, List.length_cons (a := p), Nat.mul_add]
    omega
theorem join_len (k : Nat) (ws : List Str) (h : ∀ w ∈ ws, w.length ≤ k) : (Txt.join blankS ws).length ≤ (k + 1) * ws.length := by
  rw [len_tl, join_eq, tl_join]
  have := joinL_le (tl blankS) k (by decide) (ws.map tl) fun p hp => by
    obtain ⟨w, hw, rfl⟩ := List.mem_map.mp hp
    rw [← len_tl]
    exact h w hw
  rwa [List.length_map] at this
theorem sum_le (k : Nat) : ∀ ws : List Str, (∀ w ∈ ws, w.length ≤ k) → (ws.map (·.length)).sum ≤ k * ws.length
  | [], _ => by simp
  | w :: r, h => by
    have h1 := sum_le k r fun z hz => h z (List.mem_cons_of_mem _ hz)
    have h2 := h w List.mem_cons_self
    rw [List.map_cons, List.sum_cons, List.length_cons, Nat.mul_add]
    omega
theorem split_blank {ws : List Str} (hn : ws ≠ []) (h : ∀ w ∈ ws, 32 ∉ tl w) : Txt.split (Txt.join blankS ws) blankS = ws := split_join (s := 32) (S := []) (by decide) (by decide +kernel) hn h
theorem joinL_cons (S p : List Nat) {ps : List (List Nat)} (h : ps ≠ []) : joinL S (p :: ps) = p ++ (S ++ joinL S ps) := by
  cases ps with
  | nil => exact absurd rfl h
  | cons q r => rfl
theorem joinL_app (S : List Nat) : ∀ {ps qs : List (List Nat)}, ps ≠ [] → qs ≠ [] → joinL S (ps ++ qs) = joinL S ps ++ (S ++ joinL S qs)
  | [], _, h, _ => absurd rfl h
  | [p], qs, _, h => by
    rw [List.singleton_append, joinL_cons S p h]
    rfl
  | p :: q :: r, qs, _, h => by
    rw [List.cons_append, joinL_cons S p (by simp), joinL_cons S p (by simp), joinL_app S (ps := q :: r) (by simp) h]
    simp
theorem tw_ne (t : Tr) : tw t ≠ [] := by cases t <;> simp [tw]
theorem join_one (w : Str) : Txt.join blankS [w] = w := ext_tl (by rw [join_eq, tl_join]; rfl)
theorem join_tw1 (w : Str) (a : Tr) : Txt.join blankS [w, Txt.join blankS (tw a)] = Txt.join blankS (w :: tw a) := by
  refine ext_tl ?_
  simp only [join_eq, tl_join, List.map_cons, List.map_nil]
  rw [joinL_cons (tl blankS) (tl w) (ps := [_]) (by simp), joinL_cons (tl blankS) (tl w) (ps := List.map tl (tw a)) (by simpa using tw_ne a)]
  rfl
theorem join_tw2 (w : Str) (a b : Tr) : Txt.join blankS [w, Txt.join blankS (tw a), Txt.join blankS (tw b)] = Txt.join blankS (w :: (tw a ++ tw b)) := by
  refine ext_tl ?_
  simp only [join_eq, tl_join, List.map_cons, List.map_nil]
  rw [joinL_cons (tl blankS) (tl w) (ps := [_, _]) (by simp), joinL_cons (tl blankS) (joinL _ _) (ps := [_]) (by simp), joinL_cons (tl blankS) (tl w) (ps := List.map tl (tw a ++ tw b)) (by simp [tw_ne a]), List.map_append, joinL_app _ (by simpa using tw_ne a) (by simpa using tw_ne b)]
  rfl
theorem dpApp {K : PySem.W.Frag} {H : Hp} : ∀ {xs ys : List V} {ds es : List PyData}, DpAll K H xs ds → DpAll K H ys es → DpAll K H (xs ++ ys) (ds ++ es)
  | _, _, _, _, .nil, h => h
  | _, _, _, _, .cons h1 h2, h => .cons h1 (dpApp h2 h)
theorem dpOne {K : PySem.W.Frag} {H : Hp} {v : V} {d : PyData} (h : Dp K H v d) : DpAll K H [v] [d] := .cons h .nil
theorem atI_0 {α : Type} (c : α) (r : List α) : atI (c :: r) 0 = some c := by
  unfold atI ixN
  rw [if_pos (Int.le_refl 0), if_pos (by simp)]
  rfl
theorem dpStrs {K : PySem.W.Frag} {H : Hp} : ∀ l : List Str, DpAll K H (l.map V.str) (l.map PyData.str)
  | [] => .nil
  | x :: l => .cons (.str x) (dpStrs l)
theorem canLay_strs : ∀ l : List Str, (∀ w ∈ l, PyData.strOk w = true) → PyData.canLayAll0 (l.map PyData.str) = true
  | [], _ => by simp [PyData.canLayAll0]
  | p :: t, h => by
    have h1 := h p List.mem_cons_self
    have h2 := canLay_strs t fun w hw => h w (List.mem_cons_of_mem _ hw)
    rw [List.map_cons, PyData.canLayAll0, h2, Bool.and_true, PyData.canLay0]
    exact h1
theorem depth_strs : ∀ l : List Str, PyData.depthAll (l.map PyData.str) ≤ 1
  | [] => by simp [PyData.depthAll]
  | p :: t => by
    have := depth_strs t
    simp [PyData.depthAll, PyData.depth]
    omega
theorem shaped_strs {l : List Str} (hl : ∀ w ∈ l, PyData.strOk w = true) : SeqAt.shaped (.list (l.map PyData.str)) = true := by
  have h := depth_strs l
  unfold SeqAt.shaped
  rw [PyData.canLay0, canLay_strs l hl, Bool.true_and, PyData.depth]
  exact decide_eq_true (by omega)
/-! ### texts -/
structure TxOk (m : Nat) (ws : List Str) : Prop where
  ne : ws ≠ []
  le : ws.length ≤ m
  wd : ∀ w ∈ ws, 32 ∉ tl w ∧ w.length ≤ 10 ∧ PyData.strOk w = true
theorem TxOk.len {m : Nat} {ws : List Str} (h : TxOk m ws) : (Txt.join blankS ws).length ≤ 11 * m := Nat.le_trans (join_len 10 ws fun w hw => (h.wd w hw).2.1) (Nat.mul_le_mul_left _ h.le)
theorem TxOk.tw {t : Tr} {m : Nat} (h : TrOk t) (hm : (tw t).length ≤ m) : TxOk m (tw t) := ⟨tw_ne t, hm, fun w hw => by
  have := tw_ok t h w hw
  exact ⟨this.2.2.1, by have := this.2.1; omega, this.2.2.2⟩⟩
/-! ### a tree's parts -/
structure Nd (t : Tr) (x : Str) (ks : List Tr) : Prop where
  d : dTr t = .tuple (.str x :: ks.map dTr)
  w1 : x ∉ ([Str.ofString "name", Str.ofString "number"] : List Str)
  wl : WdOk x
  dp : ∀ k ∈ ks, dep k < dep t
  ok : ∀ k ∈ ks, TrOk k
  le : ∀ k ∈ ks, (L2.U.tw k).length ≤ (L2.U.tw t).length
  jn : Txt.join blankS (x :: ks.map fun k => Txt.join blankS (L2.U.tw k)) = Txt.join blankS (L2.U.tw t)
  kl : ks.length ≤ 2
  k0 : 0 < ks.length
theorem leaf_no : ∀ w ∈ oneL ++ twoL, w ∉ ([Str.ofString "name", Str.ofString "number"] : List Str) := by decide +kernel
theorem tr_cases (t : Tr) (h : TrOk t) : (∃ n, t = .nu n) ∨ (∃ x, t = .nm x) ∨ ∃ x ks, Nd t x ks := by
  cases t with
  | nu n => exact .inl ⟨n, rfl⟩
  | nm x => exact .inr (.inl ⟨x, rfl⟩)
  | one x a =>
    refine .inr (.inr ⟨x, [a], rfl, leaf_no x (List.mem_append_left _ h.1), oneL_len x h.1, ?_, ?_, ?_, join_tw1 x a, by simp, by simp⟩)
    · intro k hk
      rw [List.mem_singleton.mp hk]
      simp [dep]
    · intro k hk
      rw [List.mem_singleton.mp hk]
      exact h.2
    · intro k hk
      rw [List.mem_singleton.mp hk]
      simp [L2.U.tw]
  | two x a b =>
    refine .inr (.inr ⟨x, [a, b], rfl, leaf_no x (List.mem_append_right _ h.1), twoL_len x h.1, ?_, ?_, ?_, join_tw2 x a b, by simp, by simp⟩)
    · intro k hk
      simp at hk
      rcases hk with rfl | rfl <;> simp [dep] <;> omega
    · intro k hk
      simp at hk
      rcases hk with rfl | rfl
      · exact h.2.1
      · exact h.2.2
    · intro k hk
      simp at hk
      rcases hk with rfl | rfl <;> simp [L2.U.tw] <;> omega
theorem tw_len9 {t : Tr} (h : TrOk t) : (Txt.join blankS (L2.U.tw t)).length ≤ 9 * (L2.U.tw t).length := join_len 8 _ fun w hw => (tw_ok t h w hw).2.1
theorem Nd.sum {t : Tr} {x : Str} {ks : List Tr} (N : Nd t x ks) : ((x :: ks.map fun k => Txt.join blankS (L2.U.tw k)).map (·.length)).sum ≤ 8 + 2 * (9 * (L2.U.tw t).length) := by
  have h1 := N.wl.2.1
  rw [List.map_cons, List.sum_cons]
  have : ((ks.map fun k => Txt.join blankS (L2.U.tw k)).map (·.length)).sum ≤ (9 * (L2.U.tw t).length) * (ks.map fun k => Txt.join blankS (L2.U.tw k)).length := sum_le _ _ fun w hw => by
    obtain ⟨k, hk, rfl⟩ := List.mem_map.mp hw
    exact Nat.le_trans (tw_len9 (N.ok k hk)) (Nat.mul_le_mul_left _ (N.le k hk))
  rw [List.length_map] at this
  have h2 : (9 * (L2.U.tw t).length) * ks.length ≤ (9 * (L2.U.tw t).length) * 2 := Nat.mul_le_mul_left _ N.kl
  omega
theorem Dp.tup_of {K : PySem.W.Frag} {H : Hp} {v : V} {ds : List PyData} (h : Dp K H v (.tuple ds)) : ∃ a us, v = .ref a ∧ SqT K H a us ∧ DpAll K H us ds := by
  cases h with
  | tup hs ha => exact ⟨_, _, rfl, hs, ha⟩
theorem Dp.lst_of {K : PySem.W.Frag} {H : Hp} {v : V} {ds : List PyData} (h : Dp K H v (.list ds)) : ∃ a us, v = .ref a ∧ SqL K H a us ∧ DpAll K H us ds := by
  cases h with
  | lst hs ha => exact ⟨_, _, rfl, hs, ha⟩
theorem DpAll.cons_of {K : PySem.W.Frag} {H : Hp} {us : List V} {d : PyData} {ds : List PyData} (h : DpAll K H us (d :: ds)) : ∃ v vs, us = v :: vs ∧ Dp K H v d ∧ DpAll K H vs ds := by
  cases h with
  | cons h1 h2 => exact ⟨_, _, rfl, h1, h2⟩
theorem Dp.str_of {K : PySem.W.Frag} {H : Hp} {v : V} {x : Str} (h : Dp K H v (.str x)) : v = .str x := by cases h; rfl
theorem Dp.int_of {K : PySem.W.Frag} {H : Hp} {v : V} {x : Int} (h : Dp K H v (.int x)) : v = .int x := by cases h; rfl
theorem Dp.node_of {K : PySem.W.Frag} {H : Hp} {v : V} {x : Str} {ds : List PyData} (h : Dp K H v (.tuple (.str x :: ds))) : ∃ a us, v = .ref a ∧ SqT K H a (.str x :: us) ∧ DpAll K H us ds := by
  obtain ⟨a, us, rfl, hs, ha⟩ := Dp.tup_of h
  obtain ⟨w, vs, rfl, h1, h2⟩ := DpAll.cons_of ha
  rw [Dp.str_of h1] at hs
  exact ⟨a, vs, rfl, hs, h2⟩
/-! ### one tree behind another -/
def parseK (n : Nat) : Nat → List Str → Option (List Tr × List Str)
  | 0, ws => some ([], ws)
  | k + 1, ws => (parseK n k ws).bind fun p => (parse n p.2).map fun q => (p.1 ++ [q.1], q.2)
def signMany (x : Str) : Nat := if x ∈ twoL then 2 else if x ∈ oneL then 1 else 0
theorem one_two : ∀ w ∈ oneL, w ∉ twoL := by decide +kernel
theorem parseK_len {n : Nat} : ∀ (k : Nat) {ws : List Str} {ts : List Tr} {r : List Str}, parseK n k ws = some (ts, r) → ts.length = k ∧ r.length ≤ ws.length ∧ ∀ w ∈ r, w ∈ ws
  | 0, ws, ts, r, h => by
    cases h
    exact ⟨rfl, Nat.le_refl _, fun w h => h⟩
  | k + 1, ws, ts, r, h => by
    unfold parseK at h
    cases q : parseK n k ws with
    | none => rw [q] at h; cases h
    | some p =>
      rw [q] at h
      obtain ⟨a, b⟩ := p
      have ih := parseK_len k q
      cases q2 : parse n b with
      | none => simp [q2] at h
      | some p2 =>
        obtain ⟨c, d⟩ := p2
        simp [q2] at h
        obtain ⟨rfl, rfl⟩ := h
        have h1 := parse_len q2
        have h2 := (parse_spec _ _ _ _ q2).2
        exact ⟨by rw [List.length_append, ih.1]; rfl, by omega, fun w hw => ih.2.2 w (by rw [h2]; exact List.mem_append_right _ hw)⟩
theorem parse_op {n : Nat} {x : Str} {r : List Str} (nf : isFig 6 x = false) (nn : isNm x = false) : (signMany x = 0 → parse (n + 1) (x :: r) = none) ∧
    (signMany x ≠ 0 → (∀ ts r1, parseK n (signMany x) r = some (ts, r1) → ∃ t, parse (n + 1) (x :: r) = some (t, r1) ∧ dTr t = .tuple (.str x :: ts.map dTr)) ∧ (∀ k, k ≤ signMany x → parseK n k r = none → parse (n + 1) (x :: r) = none)) := by
  have e : parse (n + 1) (x :: r) = if x ∈ oneL then (parse n r).map (fun p => (.one x p.1, p.2)) else if x ∈ twoL then (parse n r).bind fun p => (parse n p.2).map fun q => (.two x p.1 q.1, q.2) else none := by
    conv => lhs; unfold parse
    rw [if_neg (by rw [nf]; decide), if_neg (by rw [nn]; decide)]
    split
    · cases parse n r <;> rfl
    · split
      · cases q : parse n r with
        | none => rfl
        | some p =>
          dsimp only
          cases q2 : parse n p.2 <;> simp [q2]
      · rfl
  rw [e]
  unfold signMany
  by_cases h1 : x ∈ oneL
  · rw [if_neg (one_two x h1), if_pos h1, if_pos h1]
    refine ⟨fun z => (nomatch z), fun _ => ⟨fun ts r1 h => ?_, fun k hk h => ?_⟩⟩
    · cases q : parse n r with
      | none => simp [parseK, q] at h
      | some p =>
        simp [parseK, q] at h
        obtain ⟨rfl, rfl⟩ := h
        exact ⟨_, rfl, rfl⟩
    · cases q : parse n r with
      | none => rfl
      | some p =>
        have : k = 0 ∨ k = 1 := by omega
        rcases this with rfl | rfl <;> simp [parseK, q] at h
  · rw [if_neg h1, if_neg h1]
    by_cases h2 : x ∈ twoL
    · rw [if_pos h2, if_pos h2]
      refine ⟨fun z => (nomatch z), fun _ => ⟨fun ts r1 h => ?_, fun k hk h => ?_⟩⟩
      · cases q : parse n r with
        | none => simp [parseK, q] at h
        | some p =>
          cases q2 : parse n p.2 with
          | none => simp [parseK, q, q2] at h
          | some p2 =>
            simp [parseK, q, q2] at h
            obtain ⟨rfl, rfl⟩ := h
            exact ⟨.two x p.1 p2.1, by simp [q2], rfl⟩
      · cases q : parse n r with
        | none => rfl
        | some p =>
          cases q2 : parse n p.2 with
          | none => simp [q2]
          | some p2 =>
            have : k = 0 ∨ k = 1 ∨ k = 2 := by omega
            rcases this with rfl | rfl | rfl <;> simp [parseK, q, q2] at h
    · rw [if_neg h2, if_neg h2]
      exact ⟨fun _ => rfl, fun z => absurd rfl z⟩
/-! ### promises -/
abbrev spLread (K : PySem.W.Frag) : Sp := sp1 fun v H Q E => ∃ (ws : List Str) (m : Nat), v = .str (Txt.join blankS ws) ∧ TxOk m ws ∧ m ≤ 1000 ∧
  (∀ t, readW ws = some t → ∀ H' v, Same H H' → Dp K H' v (dTr t) → Q v H') ∧ (readW ws = none → ∀ H', Same H H' → Q .non H')
abbrev spName : Sp := sp1 fun v H Q _ => ∃ x : Str, v = .str x ∧ x.length ≤ 1000 ∧ ∀ H', Same H H' → Q (.bl (isNm x)) H'
abbrev spNum : Sp := sp2 fun v k H Q _ => ∃ (x : Str) (m : Int), v = .str x ∧ k = .int m ∧ x.length ≤ 1000 ∧ ∀ H', Same H H' → Q (.bl (isFig m x)) H'
abbrev spWordsOf (K : PySem.W.Frag) : Sp := sp1 fun v H Q _ => ∃ (ws : List Str) (m : Nat), v = .str (Txt.join blankS ws) ∧ TxOk m ws ∧ m ≤ 1000 ∧ (Str.ofString "" ∈ ws → ∀ H', Same H H' → Q .non H') ∧
  (Str.ofString "" ∉ ws → ∀ H' l, Same H H' → H l = none → H' l = some (.lst (ws.map V.str)) → Q (.ref l) H')
/-- a tree and the words behind it -/
structure TkR (K : PySem.W.Frag) (H : Hp) (T : Addr) (t : Tr) (r : List Str) (v : V) (l : Addr) : Prop where
  pr : SqT K H T [v, .ref l]
  tr : Dp K H v (dTr t)
  rs : H l = some (.lst (r.map V.str))
abbrev spTaken (K : PySem.W.Frag) (c : Addr) (n : Nat) : Sp := sp1 fun v H Q E => ∃ (b : Addr) (ws : List Str), v = .ref b ∧ SqL K H b (ws.map V.str) ∧ ws.length < n ∧ n ≤ 1000 ∧ (∀ w ∈ ws, w.length ≤ 100) ∧
  (∀ t r, parse n ws = some (t, r) → ∀ H' T v l, Same H H' → H l = none → TkR K H' T t r v l → Q (.ref T) H') ∧ (parse n ws = none → ∀ H', Same H H' → E (.ref c) none H')
abbrev spFirst (K : PySem.W.Frag) (n : Nat) : Sp := sp1 fun v H Q E => ∃ (b : Addr) (ws : List Str), v = .ref b ∧ SqL K H b (ws.map V.str) ∧ ws.length < n ∧ n ≤ 1000 ∧ (∀ w ∈ ws, w.length ≤ 100 ∧ PyData.strOk w = true) ∧
  (∀ t r, parse n ws = some (t, r) → ∀ H' T v l, Same H H' → H l = none → TkR K H' T t r v l → Q (.ref T) H') ∧ (parse n ws = none → ∀ H', Same H H' → Q .non H')
/-- the first tree of at most twenty words, and the words behind -/
def parseN (ws : List Str) : Option (Tr × List Str) := match parse 21 (ws.take 20) with
  | none => none
  | some (t, r) => some (t, r ++ ws.drop 20)
abbrev spNext (K : PySem.W.Frag) (c : Addr) : Sp := sp1 fun v H Q E => ∃ (b : Addr) (ws : List Str), v = .ref b ∧ H b = some (.lst (ws.map V.str)) ∧ ws.length ≤ 1000 ∧ (∀ w ∈ ws, w.length ≤ 100) ∧
  (∀ t r, parseN ws = some (t, r) → ∀ H' T v l, Same H H' → H l = none → TkR K H' T t r v l → Q (.ref T) H') ∧ (parseN ws = none → ∀ H', Same H H' → E (.ref c) none H')
def parseAll : Nat → List Str → Option (List Tr × List Str)
  | 0, ws => some ([], ws)
  | n + 1, ws => match parseN ws with
    | none => none
    | some (t, r) => match parseAll n r with
      | none => none
      | some (ts, r2) => some (t :: ts, r2)
/-- so many trees and no more -/
def readAll (n : Nat) (ws : List Str) : Option (List Tr) := match parseAll n ws with
  | some (ts, []) => some ts
  | _ => none
abbrev spAllR (K : PySem.W.Frag) (c : Addr) : Sp := sp2 fun v m H Q E => ∃ (b : Addr) (ws : List Str) (n : Nat), v = .ref b ∧ m = .int (n : Nat) ∧ n ≤ 1000 ∧ H b = some (.lst (ws.map V.str)) ∧ ws.length ≤ 1000 ∧ (∀ w ∈ ws, w.length ≤ 100) ∧
  (∀ ts, readAll n ws = some ts → ∀ H' l vs, Same H H' → H l = none → H' l = some (.lst vs) → DpAll K (hid [l] H') vs (ts.map dTr) → Q (.ref l) H') ∧ (readAll n ws = none → ∀ H', Same H H' → E (.ref c) none H')
abbrev spRead (K : PySem.W.Frag) (c : Addr) : Sp := sp1 fun v H Q E => ∃ (ws : List Str) (m : Nat), v = .str (Txt.join blankS ws) ∧ TxOk m ws ∧ m ≤ 1000 ∧
  (∀ t, readW ws = some t → ∀ H' v, Same H H' → Dp K H' v (dTr t) → Q v H') ∧ (readW ws = none → ∀ H', Same H H' → E (.ref c) none H')
abbrev spText (K : PySem.W.Frag) (n : Nat) : Sp := sp1 fun v H Q _ => ∃ t : Tr, Dp K H v (dTr t) ∧ dep t < n ∧ TrOk t ∧ (tw t).length ≤ 100000 ∧ ∀ H', Same H H' → Q (.str (Txt.join blankS (tw t))) H'
theorem parseN_len {ws : List Str} {t : Tr} {r : List Str} (h : parseN ws = some (t, r)) : r.length ≤ ws.length ∧ ∀ w ∈ r, w ∈ ws := by
  unfold parseN at h
  cases q : parse 21 (ws.take 20) with
  | none => rw [q] at h; cases h
  | some p =>
    obtain ⟨a, r1⟩ := p
    rw [q] at h
    cases h
    obtain ⟨_, k⟩ := parse_spec _ _ _ _ q
    have e : ws = tw t ++ (r1 ++ ws.drop 20) := by
      rw [← List.append_assoc, ← k, List.take_append_drop]
    refine ⟨?_, fun w hw => ?_⟩
    · have := congrArg List.length e
      rw [List.length_append (as := tw t)] at this
      omega
    · rw [e]
      exact List.mem_append_right _ hw
theorem readAll_one (ws : List Str) : readAll 1 ws = (readW ws).map fun t => [t] := by
  unfold readAll parseAll parseN readW
  cases q : parse 21 (ws.take 20) with
  | none => rfl
  | some p =>
    obtain ⟨t, r⟩ := p
    dsimp only
    unfold parseAll
    dsimp only
    cases r with
    | nil =>
      by_cases h : ws.length ≤ 20
      · rw [List.drop_eq_nil_of_le h, if_pos ⟨rfl, h⟩]
        rfl
      · rw [if_neg fun z => h z.2]
        cases q2 : ws.drop 20 with
        | nil =>
          have := List.drop_eq_nil_iff.mp q2
          exact absurd this h
        | cons _ _ => rfl
    | cons x r =>
      rw [if_neg fun z => nomatch z.1]
      rfl
/-! ### the law's own trees -/
abbrev pTree (K : PySem.W.Frag) (n : Nat) : V → V → V → Hp → VK → XK → Prop := fun d nv kv H Q _ => ∃ (p a b : Addr) (nms : List Str) (k : Nat), d = .ref p ∧ nv = .ref b ∧ kv = .int (k : Nat) ∧ k < n ∧ n ≤ 100 ∧ b ≠ p ∧ SqL K H b (nms.map V.str) ∧ nms ≠ [] ∧ nms.length ≤ 1000 ∧ (∀ x ∈ nms, isNm x = true) ∧ Draw H p a ∧
  ∀ H' v t, Keep p H H' → Draw H' p a → Dp K (hid [p] H') v (dTr t) → TrOk t → dep t ≤ k → (tw t).length + 1 ≤ 2 ^ (k + 1) → Q v H'
abbrev spTree (K : PySem.W.Frag) (n : Nat) : Sp := sp3 (pTree K n)
def treeNums : List Int := [0, 1, 2, 3, 5, 15, 16, 999999]
theorem treeNums_ok : ∀ z ∈ treeNums, ∃ n : Nat, z = n ∧ n < 1000000 := fun z hz => by
  simp only [treeNums, List.mem_cons, List.not_mem_nil, or_false] at hz
  exact ⟨z.toNat, by omega, by omega⟩
def treeSigns : List Str := ["+", "-", "*", "+", "-", "div", "mod", "<", "=", "and", "or"]
theorem treeSigns_ok : ∀ w ∈ treeSigns, w ∈ twoL := by decide +kernel
def dBad : PyData := .list [.str "bad", .bool true, .bool true]
abbrev spTold (K : PySem.W.Frag) : Sp := sp1 fun v H Q E => ∃ (ws : List Str) (m : Nat), v = .str (Txt.join blankS ws) ∧ TxOk m ws ∧ m ≤ 1000 ∧
  (∀ t, readW ws = some t → ∀ H' v, Same H H' → Dp K H' v (dTr t) → Q v H') ∧ (readW ws = none → ∀ H' l, Same H H' → SqL K H' l [.str "bad", .bl true, .bl true] → Q (.ref l) H')
abbrev spLaw (K : PySem.W.Frag) : Sp := sp1 fun v H Q _ => ∃ (a : Addr) (ns : List Int), v = .ref a ∧ SqL K H a (ns.map V.int) ∧ ns.length ≤ 63 ∧ ∀ H', Q (.bl true) H'
theorem eraseIdx_map' : ∀ (l : List Str) (i : Nat), (l.eraseIdx i).map V.str = (l.map V.str).eraseIdx i
  | [], _ => rfl
  | _ :: _, 0 => rfl
  | x :: l, i + 1 => by
    rw [List.eraseIdx_cons_succ, List.map_cons, eraseIdx_map' l i, List.map_cons, List.eraseIdx_cons_succ]
def k02names : List Str := ["x", "y", "main", "abcdefgh"]
theorem dTr_ref {K : PySem.W.Frag} {H : Hp} {v : V} {t : Tr} (h : Dp K H v (dTr t)) : ∃ a us, v = .ref a ∧ SqT K H a us := by
  cases t <;> (obtain ⟨a, us, e, hs, _⟩ := Dp.tup_of h; exact ⟨a, us, e, hs⟩)
/-! ### bent words -/
abbrev spBentWords : Sp := sp2 fun d tv H Q _ => ∃ (p a : Addr) (ws : List Str) (m : Nat), d = .ref p ∧ tv = .str (Txt.join blankS ws) ∧ TxOk m ws ∧ m ≤ 400 ∧ Draw H p a ∧
  ∀ H' us, Keep p H H' → Draw H' p a → TxOk (2 * m + 1) us → Q (.str (Txt.join blankS us)) H'
def oddL : List Str := ["+", "not", "at", "x", "7", "", "07", "1000000", "div", "end", "main", "X", "abcdefghi", "-1", "=", "a1", "\n"]
theorem oddL_ok : ∀ w ∈ oddL, 32 ∉ tl w ∧ w.length ≤ 10 ∧ PyData.strOk w = true := by decide +kernel
/-- an emptied list of words joins as one empty word -/
theorem TxOk.bent {m : Nat} {us : List Str} (hl : us.length ≤ m) (hm : 1 ≤ m) (hw : ∀ w ∈ us, 32 ∉ tl w ∧ w.length ≤ 10 ∧ PyData.strOk w = true) : ∃ us', TxOk m us' ∧ Txt.join blankS us' = Txt.join blankS us := by
  cases us with
  | nil => exact ⟨[Str.ofString ""], ⟨by simp, hm, fun w h => by rw [List.mem_singleton.mp h]; decide +kernel⟩, by decide +kernel⟩
  | cons x r => exact ⟨x :: r, ⟨by simp, hl, hw⟩, rfl⟩
end L2.U
/-! Wk: what reckonings come to. Own text; no program in sight. -/
namespace L2.U
open PySem PySem.Spec PyProof.Rows RZ TL
def great : Int := 1000000000000
def big : Nat := 1267650600228229401496703205376
/-- a worth of the machine: less than 2 ^ 100 in size -/
def Sm (i : Int) : Prop := i.natAbs < 2 ^ 100
instance (i : Int) : Decidable (Sm i) := by unfold Sm; infer_instance
def bnd (z : Int) : Except Int Int := if -great < z ∧ z < great then .ok z else .error (-3)
def b01 (b : Bool) : Int := if b then 1 else 0
def pairV (w : Str) (a b : Int) : Except Int Int :=
  if w = Str.ofString "<" then .ok (b01 (decide (a < b)))
  else if w = Str.ofString "=" then .ok (b01 (decide (a = b)))
  else if w = Str.ofString "and" then .ok (b01 (decide (a ≠ 0 ∧ b ≠ 0)))
  else if w = Str.ofString "or" then .ok (b01 (decide (a ≠ 0 ∨ b ≠ 0)))
  else if w = Str.ofString "+" then bnd (a + b)
  else if w = Str.ofString "-" then bnd (a - b)
  else if w = Str.ofString "*" then bnd (a * b)
  else if b = 0 then .error (-1)
  else if w = Str.ofString "div" then .ok (a.fdiv b) else .ok (a.fmod b)
theorem pairV_div {a b : Int} (e0 : b ≠ 0) : pairV (Str.ofString "div") a b = .ok (a.fdiv b) := by
  unfold pairV
  rw [if_neg (by decide +kernel), if_neg (by decide +kernel), if_neg (by decide +kernel), if_neg (by decide +kernel), if_neg (by decide +kernel), if_neg (by decide +kernel), if_neg (by decide +kernel), if_neg e0, if_pos rfl]
theorem pairV_mod {a b : Int} (e0 : b ≠ 0) : pairV (Str.ofString "mod") a b = .ok (a.fmod b) := by
  unfold pairV
  rw [if_neg (by decide +kernel), if_neg (by decide +kernel), if_neg (by decide +kernel), if_neg (by decide +kernel), if_neg (by decide +kernel), if_neg (by decide +kernel), if_neg (by decide +kernel), if_neg e0, if_neg (by decide +kernel)]
inductive Plc
  | nm (x : Str) | cell (i : Nat)
deriving DecidableEq
def dPlc : Plc → PyData
  | .nm x => .tuple [.str "name", .str x]
  | .cell i => .tuple [.str "cell", .int (i : Nat)]
def see (s : List Plc) (p : Plc) : List Plc := if p ∈ s then s else s ++ [p]
def oneV (cs : List Int) (w : Str) (v : Int) : Except Int Int :=
  if w = Str.ofString "at" then (if 0 ≤ v ∧ v < 16 then .ok (cs.getD v.toNat 0) else .error (-2)) else .ok (b01 (decide (v = 0)))
def oneS (w : Str) (v : Int) : List Plc := if w = Str.ofString "at" ∧ 0 ≤ v ∧ v < 16 then [.cell v.toNat] else []
/-- what a tree comes to -/
def val (nv : Str → Int) (cs : List Int) : Tr → Except Int Int
  | .nu n => .ok (n : Nat)
  | .nm x => .ok (nv x)
  | .one w a => match val nv cs a with
    | .error f => .error f
    | .ok v => oneV cs w v
  | .two w a b => match val nv cs a with
    | .error f => .error f
    | .ok v => match val nv cs b with
      | .error f => .error f
      | .ok u => pairV w v u
/-- the places that are looked at -/
def vis (nv : Str → Int) (cs : List Int) : Tr → List Plc
  | .nu _ => []
  | .nm x => [.nm x]
  | .one w a => vis nv cs a ++ (match val nv cs a with
    | .error _ => []
    | .ok v => oneS w v)
  | .two w a b => vis nv cs a ++ (match val nv cs a with
    | .error _ => []
    | .ok _ => vis nv cs b)
def seeAll (s : List Plc) (l : List Plc) : List Plc := l.foldl see s
theorem seeAll_app (s a b : List Plc) : seeAll s (a ++ b) = seeAll (seeAll s a) b := List.foldl_append
theorem see_len (s : List Plc) (p : Plc) : (see s p).length ≤ s.length + 1 := by
  unfold see
  split
  · omega
  · rw [List.length_append]
    simp
theorem seeAll_len : ∀ (l s : List Plc), (seeAll s l).length ≤ s.length + l.length
  | [], s => Nat.le_refl _
  | p :: l, s => by
    have h1 := seeAll_len l (see s p)
    have h2 := see_len s p
    show (seeAll (see s p) l).length ≤ _
    rw [List.length_cons]
    omega
theorem vis_len (nv : Str → Int) (cs : List Int) : ∀ t : Tr, (vis nv cs t).length ≤ (tw t).length
  | .nu _ => by simp [vis]
  | .nm _ => by simp [vis, tw]
  | .one w a => by
    have h := vis_len nv cs a
    have h2 : ∀ v, (oneS w v).length ≤ 1 := fun v => by unfold oneS; split <;> simp
    unfold vis
    rw [List.length_append]
    show _ ≤ (tw a).length + 1
    cases val nv cs a with
    | error f => simp; omega
    | ok v => have := h2 v; show _ + (oneS w v).length ≤ _; omega
  | .two w a b => by
    have h1 := vis_len nv cs a
    have h2 := vis_len nv cs b
    unfold vis
    rw [List.length_append]
    show _ ≤ (tw a ++ tw b).length + 1
    rw [List.length_append]
    cases val nv cs a with
    | error f => simp; omega
    | ok v => show _ + (vis nv cs b).length ≤ _; omega
theorem beq_dec {α : Type} [BEq α] [LawfulBEq α] [DecidableEq α] (x y : α) : (x == y) = decide (x = y) := by
  by_cases h : x = y
  · rw [decide_eq_true h, h]
    exact beq_self_eq_true y
  · rw [decide_eq_false h]
    exact beq_eq_false_iff_ne.mpr h
theorem plc_eqv (p q : Plc) : PyData.eqv (dPlc p) (dPlc q) = decide (p = q) := by
  cases p with
  | nm x =>
    cases q with
    | nm y => simp [dPlc, PyData.eqv, PyData.eqvAll, beq_dec]
    | cell j => simp [dPlc, PyData.eqv, PyData.eqvAll]
  | cell i =>
    cases q with
    | nm y => simp [dPlc, PyData.eqv, PyData.eqvAll]
    | cell j =>
      simp [dPlc, PyData.eqv, PyData.eqvAll, beq_dec]
      omega
theorem any_plc (p : Plc) : ∀ l : List Plc, ((l.map dPlc).any fun z => PyData.eqv z (dPlc p)) = decide (p ∈ l)
  | [] => rfl
  | q :: l => by
    rw [List.map_cons, List.any_cons, any_plc p l, plc_eqv]
    by_cases h : q = p
    · subst h; simp
    · by_cases h2 : p ∈ l <;> simp [h, h2, Ne.symm h]
/-! ### a node's parts -/
def valL (nv : Str → Int) (cs : List Int) : List Tr → Except Int (List Int)
  | [] => .ok []
  | k :: r => match val nv cs k with
    | .error f => .error f
    | .ok v => match valL nv cs r with
      | .error f => .error f
      | .ok vs => .ok (v :: vs)
def visL (nv : Str → Int) (cs : List Int) : List Tr → List Plc
  | [] => []
  | k :: r => vis nv cs k ++ (match val nv cs k with
    | .error _ => []
    | .ok _ => visL nv cs r)
theorem valL_ok {nv : Str → Int} {cs : List Int} : ∀ {ks : List Tr} {i : Nat} {vs : List Int} {k : Tr} {v : Int}, valL nv cs (ks.take i) = .ok vs → ks[i]? = some k → val nv cs k = .ok v → valL nv cs (ks.take (i + 1)) = .ok (vs ++ [v]) ∧ visL nv cs (ks.take (i + 1)) = visL nv cs (ks.take i) ++ vis nv cs k
  | [], _, _, _, _, _, h, _ => by simp at h
  | q :: r, 0, vs, k, v, h1, h2, h3 => by
    cases h2
    cases h1
    simp [valL, visL, h3]
  | q :: r, i + 1, vs, k, v, h1, h2, h3 => by
    rw [List.take_succ_cons] at h1
    unfold valL at h1
    cases e : val nv cs q with
    | error f => rw [e] at h1; cases h1
    | ok z =>
      rw [e] at h1
      dsimp only at h1
      cases e2 : valL nv cs (r.take i) with
      | error f => rw [e2] at h1; cases h1
      | ok us =>
        rw [e2] at h1
        cases h1
        obtain ⟨a1, a2⟩ := valL_ok (ks := r) e2 h2 h3
        rw [List.take_succ_cons, List.take_succ_cons]
        unfold valL visL
        rw [e]
        dsimp only
        rw [a1, a2]
        exact ⟨rfl, by rw [List.append_assoc]⟩
theorem valL_bad {nv : Str → Int} {cs : List Int} : ∀ {ks : List Tr} {i : Nat} {vs : List Int} {k : Tr} {f : Int}, valL nv cs (ks.take i) = .ok vs → ks[i]? = some k → val nv cs k = .error f → valL nv cs ks = .error f ∧ visL nv cs ks = visL nv cs (ks.take i) ++ vis nv cs k
  | [], _, _, _, _, _, h, _ => by simp at h
  | q :: r, 0, vs, k, v, h1, h2, h3 => by
    cases h2
    cases h1
    simp [valL, visL, h3]
  | q :: r, i + 1, vs, k, v, h1, h2, h3 => by
    rw [List.take_succ_cons] at h1
    unfold valL at h1
    cases e : val nv cs q with
    | error f => rw [e] at h1; cases h1
    | ok z =>
      rw [e] at h1
      dsimp only at h1
      cases e2 : valL nv cs (r.take i) with
      | error f => rw [e2] at h1; cases h1
      | ok us =>
        rw [e2] at h1
        cases h1
        obtain ⟨a1, a2⟩ := valL_bad (ks := r) e2 h2 h3
        rw [List.take_succ_cons]
        unfold valL visL
        rw [e]
        dsimp only
        rw [a1, a2]
        exact ⟨rfl, by rw [List.append_assoc]⟩
structure Kd (t : Tr) (x : Str) (ks : List Tr) : Prop where
  d : dTr t = .tuple (.str x :: ks.map dTr)
  n1 : x ≠ Str.ofString "number"
  n2 : x ≠ Str.ofString "name"
  dp : ∀ k ∈ ks, dep k < dep t
  ok : ∀ k ∈ ks, TrOk k
  tl : (ks.map fun k => (tw k).length).sum + 1 = (tw t).length
  kl : ks.length ≤ 2
  or : (∃ a, t = .one x a ∧ ks = [a] ∧ x ∈ oneL) ∨ (∃ a b, t = .two x a b ∧ ks = [a, b] ∧ x ∈ twoL)
theorem no_leaf : ∀ w ∈ oneL ++ twoL, w ≠ Str.ofString "number" ∧ w ≠ Str.ofString "name" := by decide +kernel
theorem tr_kids (t : Tr) (h : TrOk t) : (∃ n, t = .nu n) ∨ (∃ x, t = .nm x) ∨ ∃ x ks, Kd t x ks := by
  cases t with
  | nu n => exact .inl ⟨n, rfl⟩
  | nm x => exact .inr (.inl ⟨x, rfl⟩)
  | one x a =>
    have n := no_leaf x (List.mem_append_left _ h.1)
    exact .inr (.inr ⟨x, [a], rfl, n.1, n.2, fun k hk => by rw [List.mem_singleton.mp hk]; simp [dep], fun k hk => by rw [List.mem_singleton.mp hk]; exact h.2, by simp [tw], by simp, .inl ⟨a, rfl, rfl, h.1⟩⟩)
  | two x a b =>
    have n := no_leaf x (List.mem_append_right _ h.1)
    exact .inr (.inr ⟨x, [a, b], rfl, n.1, n.2, fun k hk => by
      simp at hk
      rcases hk with rfl | rfl <;> simp [dep] <;> omega, fun k hk => by
      simp at hk
      rcases hk with rfl | rfl
      · exact h.2.1
      · exact h.2.2, by simp [tw], by simp, .inr ⟨a, b, rfl, rfl, h.1⟩⟩)
/-- the lengths of the parts ahead of the i-th -/
def twsum (ks : List Tr) (i : Nat) : Nat := ((ks.take i).map fun k => (tw k).length).sum
theorem twsum_succ {ks : List Tr} {i : Nat} {k : Tr} (h : ks[i]? = some k) : twsum ks (i + 1) = twsum ks i + (tw k).length := by
  unfold twsum
  rw [List.take_add_one, h]
  simp
theorem twsum_le (ks : List Tr) (i : Nat) : twsum ks i ≤ (ks.map fun k => (tw k).length).sum := by
  unfold twsum
  have : ks.map (fun k => (tw k).length) = (ks.take i).map (fun k => (tw k).length) ++ (ks.drop i).map (fun k => (tw k).length) := by rw [← List.map_append, List.take_append_drop]
  rw [this, List.sum_append]
  omega
theorem visL_len (nv : Str → Int) (cs : List Int) : ∀ ks : List Tr, (visL nv cs ks).length ≤ (ks.map fun k => (tw k).length).sum
  | [] => by simp [visL]
  | k :: r => by
    have h1 := vis_len nv cs k
    have h2 := visL_len nv cs r
    unfold visL
    rw [List.length_append, List.map_cons, List.sum_cons]
    cases val nv cs k with
    | error f => simp; omega
    | ok v => show _ + (visL nv cs r).length ≤ _; omega
theorem kd_bad {nv : Str → Int} {cs : List Int} {t : Tr} {x : Str} {ks : List Tr} (N : Kd t x ks) {f : Int} {l : List Plc} (h1 : valL nv cs ks = .error f) (h2 : visL nv cs ks = l) : val nv cs t = .error f ∧ vis nv cs t = l := by
  rcases N.or with ⟨a, rfl, rfl, _⟩ | ⟨a, b, rfl, rfl, _⟩
  · unfold valL at h1
    unfold visL at h2
    unfold val vis
    cases e : val nv cs a with
    | error g =>
      rw [e] at h1 h2
      cases h1
      exact ⟨rfl, h2⟩
    | ok v => rw [e] at h1; cases h1
  · unfold valL at h1
    unfold visL at h2
    unfold val vis
    cases e : val nv cs a with
    | error g =>
      rw [e] at h1 h2
      cases h1
      exact ⟨rfl, h2⟩
    | ok v =>
      rw [e] at h1 h2
      dsimp only at h1 h2 ⊢
      unfold valL at h1
      unfold visL at h2
      cases e2 : val nv cs b with
      | error g =>
        rw [e2] at h1 h2
        cases h1
        refine ⟨rfl, ?_⟩
        simpa using h2
      | ok u => rw [e2] at h1; cases h1
/-! ### sizes -/
theorem sm_small {z : Int} (h : -great ≤ z ∧ z ≤ great) : Sm z := by
  unfold Sm great at *
  omega
theorem sm_b01 (b : Bool) : Sm (b01 b) := by cases b <;> decide
theorem natAbs_fdiv_le (a b : Int) : (a.fdiv b).natAbs ≤ a.natAbs := by
  rw [Int.fdiv_eq_ediv]
  have h1 := Int.natAbs_ediv_le_natAbs a b
  split
  · simpa using h1
  · rename_i h
    by_cases hb : b = 0
    · subst hb; simp at h
    · have hneg : ¬ 0 ≤ b := fun z => h (.inl z)
      have hnd : ¬ b ∣ a := fun z => h (.inr z)
      have e1 := Int.mul_ediv_add_emod a b
      have r0 := Int.emod_nonneg a hb
      have r1 : a % b ≠ 0 := fun z => hnd (Int.dvd_of_emod_eq_zero z)
      have r2 := Int.emod_lt a hb
      have q2 : (a / b).natAbs ≤ a.natAbs := h1
      by_cases hz : a / b ≤ 0
      · by_cases hq : (a / b).natAbs < a.natAbs
        · omega
        · have he : (a / b).natAbs = a.natAbs := by omega
          -- |q| = |a|: then b = -1 or a small
          have hb2 : b ≤ -1 := by omega
          by_cases hb1 : b = -1
          · subst hb1
            exact absurd (Int.neg_dvd.mpr (Int.one_dvd a)) hnd
          · have hbb : b ≤ -2 := by omega
            have m : b * (a / b) ≥ 2 * (-(a / b)) := by
              have : 0 ≤ (-2 - b) * (-(a / b)) := Int.mul_nonneg (by omega) (by omega)
              have e : (-2 - b) * (-(a / b)) = b * (a / b) - 2 * (-(a / b)) := by
                rw [Int.sub_mul, Int.mul_neg, Int.mul_neg, Int.neg_mul_eq_neg_mul]
                omega
              omega
            omega
      · omega
theorem sm_fdiv {a b : Int} (h : Sm a) : Sm (a.fdiv b) := Nat.lt_of_le_of_lt (natAbs_fdiv_le a b) h
theorem sm_fmod {a b : Int} (h : Sm b) (h0 : b ≠ 0) : Sm (a.fmod b) := by
  unfold Sm at *
  rcases Int.lt_or_gt_of_ne h0 with hb | hb
  · have e1 : a.fmod b = -((-a).fmod (-b)) := by rw [Int.neg_fmod_neg, Int.neg_neg]
    have h1 := Int.fmod_nonneg_of_pos (-a) (show 0 < -b by omega)
    have h2 := Int.fmod_lt_of_pos (-a) (show 0 < -b by omega)
    omega
  · have h1 := Int.fmod_nonneg_of_pos a hb
    have h2 := Int.fmod_lt_of_pos a hb
    omega
theorem sm_bnd {z v : Int} (h : bnd z = .ok v) : Sm v := by
  unfold bnd at h
  split at h
  · cases h
    exact sm_small (by omega)
  · cases h
theorem sm_pair {w : Str} {a b v : Int} (ha : Sm a) (hb : Sm b) (h : pairV w a b = .ok v) : Sm v := by
  unfold pairV at h
  repeat' split at h
  all_goals first
    | exact sm_bnd h
    | (cases h; first | exact sm_b01 _ | exact sm_fdiv ha | (refine sm_fmod hb ?_; assumption))
    | cases h
theorem sm_val {nv : Str → Int} {cs : List Int} (hn : ∀ x, Sm (nv x)) (hc : ∀ c ∈ cs, Sm c) : ∀ (t : Tr) (v : Int), TrOk t → val nv cs t = .ok v → Sm v
  | .nu n, v, ht, h => by
    cases h
    exact sm_small (by unfold great; have : n < 1000000 := ht; omega)
  | .nm x, v, _, h => by
    cases h
    exact hn x
  | .one w a, v, ht, h => by
    unfold val at h
    cases q : val nv cs a with
    | error f => rw [q] at h; cases h
    | ok u =>
      rw [q] at h
      dsimp only at h
      unfold oneV at h
      split at h
      · split at h
        · cases h
          rw [List.getD_eq_getElem?_getD]
          cases e : cs[u.toNat]? with
          | none => decide
          | some c => exact hc c (List.mem_of_getElem? e)
        · cases h
      · cases h
        exact sm_b01 _
  | .two w a b, v, ht, h => by
    unfold val at h
    cases q : val nv cs a with
    | error f => rw [q] at h; cases h
    | ok u =>
      cases q2 : val nv cs b with
      | error f => rw [q, q2] at h; cases h
      | ok u2 =>
        rw [q, q2] at h
        exact sm_pair (sm_val hn hc a u ht.2.1 q) (sm_val hn hc b u2 ht.2.2 q2) h
theorem sm_mulW {a b : Int} (ha : Sm a) (hb : Sm b) : CMulW a b := wide_mul ha hb (by decide) (by decide) (by decide)
theorem sm_divV {b : Int} (hb : Sm b) (h0 : b ≠ 0) : b ≠ 0 ∧ b.natAbs.log2 < 9000 := ⟨h0, Nat.lt_of_lt_of_le (PySem.Flt.log2_lt_of (by decide) hb) (by decide)⟩
/-- the law's remainder -/
theorem fmod_def' (a b : Int) : a - a.fdiv b * b = a.fmod b := by
  have := Int.mul_fdiv_add_fmod a b
  rw [Int.mul_comm] at this
  omega
/-! ### as data -/
def dRes : Except Int Int → PyData
  | .ok v => .tuple [.int v, .none]
  | .error f => .tuple [.none, .int f]
/-- what a dict of names gives -/
def nvOf (kvs : List (Key × V)) (x : Str) : Int := match valV kvs (Sum.inr x) with
  | some (.int i) => i
  | _ => 0
def AllInt (kvs : List (Key × V)) : Prop := ∀ p ∈ kvs, ∃ i : Int, p.2 = .int i ∧ Sm i
theorem nvOf_sm {kvs : List (Key × V)} (h : AllInt kvs) (x : Str) : Sm (nvOf kvs x) := by
  unfold nvOf
  cases e : valV kvs (Sum.inr x) with
  | none => decide
  | some v =>
    unfold valV at e
    obtain ⟨p, hp, rfl⟩ := Option.map_eq_some_iff.mp e
    obtain ⟨i, hi, hs⟩ := h p (List.mem_of_find?_eq_some hp)
    rw [hi]
    exact hs
theorem nvOf_get {kvs : List (Key × V)} (h : AllInt kvs) (x : Str) : (valV kvs (Sum.inr x)).getD (.int 0) = .int (nvOf kvs x) := by
  unfold nvOf
  cases e : valV kvs (Sum.inr x) with
  | none => rfl
  | some v =>
    unfold valV at e
    obtain ⟨p, hp, rfl⟩ := Option.map_eq_some_iff.mp e
    obtain ⟨i, hi, hs⟩ := h p (List.mem_of_find?_eq_some hp)
    rw [hi]
    rfl
end L2.U
/-! Rk: promises about reckoners. Own text. -/
namespace L2.U
open PySem PySem.Spec PyProof.Rows RZ TL
/-! ### data without lists stays where a list changes -/
section
variable {K : PySem.W.Frag} {H H' : Hp} {p : Addr} {ys : List V}
theorem SqT.keepL {a : Addr} {xs : List V} (k : Keep p H H') (hp : H p = some (.lst ys)) (h : SqT K H a xs) : SqT K H' a xs := Same.sqT hid_same (Same.sqT (Keep.hid k (by simp)) (SqT.avoid hp h))
theorem Dp.keepL {d : PyData} {v : V} (k : Keep p H H') (hp : H p = some (.lst ys)) (n : noL d = true) (h : Dp K H v d) : Dp K H' v d := Dp.same hid_same _ _ (Dp.same (Keep.hid k (by simp)) _ _ (Dp.avoid hp _ _ n h))
theorem DpAll.keepL {ds : List PyData} {vs : List V} (k : Keep p H H') (hp : H p = some (.lst ys)) (n : noLAll ds = true) (h : DpAll K H vs ds) : DpAll K H' vs ds := Dp.sameAll hid_same _ _ (Dp.sameAll (Keep.hid k (by simp)) _ _ (Dp.avoidAll hp _ _ n h))
theorem DpAll.snoc {v : V} {d : PyData} (h2 : Dp K H v d) : ∀ {vs : List V} {ds : List PyData}, DpAll K H vs ds → DpAll K H (vs ++ [v]) (ds ++ [d])
  | _, _, .nil => .cons h2 .nil
  | _, _, .cons h1 h => .cons h1 (DpAll.snoc h2 h)
end
theorem plc_noL (p : Plc) : noL (dPlc p) = true := by cases p <;> rfl
theorem plcs_noL : ∀ l : List Plc, noLAll (l.map dPlc) = true
  | [] => rfl
  | p :: l => by rw [List.map_cons]; simp [noLAll, plc_noL p, plcs_noL l]
theorem res_noL (r : Except Int Int) : noL (dRes r) = true := by cases r <;> rfl
/-! ### kinds: data that can be compared -/
mutual
def OkS : Nat → PyData → Prop
  | 0, _ => False
  | n + 1, .list ds => ds.length ≤ 1000000 ∧ OkSAll n ds
  | n + 1, .tuple ds => ds.length ≤ 1000000 ∧ OkSAll n ds
  | _ + 1, .dict _ => False
  | _ + 1, .str x => PyData.strOk x = true
  | _ + 1, .none => True
  | _ + 1, .bool _ => True
  | _ + 1, .int _ => True
def OkSAll : Nat → List PyData → Prop
  | _, [] => True
  | n, d :: ds => OkS n d ∧ OkSAll n ds
end
theorem OkSAll.of {n : Nat} : ∀ {ds : List PyData}, (∀ d ∈ ds, OkS n d) → OkSAll n ds
  | [], _ => by simp [OkSAll]
  | d :: ds, h => by
    simp only [OkSAll]
    exact ⟨h d List.mem_cons_self, OkSAll.of fun e he => h e (List.mem_cons_of_mem _ he)⟩
mutual
theorem OkS.lay : ∀ (n : Nat) (d : PyData), OkS n d → d.canLay0 = true ∧ d.depth ≤ n
  | 0, d, h => by cases d <;> exact absurd h (by simp [OkS])
  | n + 1, .list ds, h => by
    simp only [OkS] at h
    have := OkSAll.lay n ds h.2
    rw [PyData.canLay0, PyData.depth]
    exact ⟨this.1, by omega⟩
  | n + 1, .tuple ds, h => by
    simp only [OkS] at h
    have := OkSAll.lay n ds h.2
    rw [PyData.canLay0, PyData.depth]
    exact ⟨this.1, by omega⟩
  | n + 1, .dict _, h => by simp [OkS] at h
  | n + 1, .str x, h => by
    simp only [OkS] at h
    rw [PyData.canLay0, PyData.depth]
    exact ⟨h, by omega⟩
  | n + 1, .none, h => ⟨by simp [PyData.canLay0], by simp [PyData.depth]⟩
  | n + 1, .bool _, h => ⟨by simp [PyData.canLay0], by simp [PyData.depth]⟩
  | n + 1, .int _, h => ⟨by simp [PyData.canLay0], by simp [PyData.depth]⟩
theorem OkSAll.lay : ∀ (n : Nat) (ds : List PyData), OkSAll n ds → PyData.canLayAll0 ds = true ∧ PyData.depthAll ds ≤ n
  | n, [], h => ⟨by simp [PyData.canLayAll0], by simp [PyData.depthAll]⟩
  | n, d :: ds, h => by
    simp only [OkSAll] at h
    have h1 := OkS.lay n d h.1
    have h2 := OkSAll.lay n ds h.2
    simp [PyData.canLayAll0, PyData.depthAll, h1.1, h2.1]
    omega
end
theorem OkS.shaped {n : Nat} {d : PyData} (h : OkS n d) (hn : n ≤ 64) : SeqAt.shaped d = true := by
  have := OkS.lay n d h
  unfold SeqAt.shaped
  rw [this.1, Bool.true_and]
  exact decide_eq_true (by omega)
theorem OkSAll.mem {n : Nat} : ∀ {ds : List PyData} {d : PyData}, OkSAll n ds → d ∈ ds → OkS n d
  | e :: ds, d, h, hd => by
    simp only [OkSAll] at h
    rcases List.mem_cons.mp hd with rfl | hd
    · exact h.1
    · exact OkSAll.mem h.2 hd
theorem OkS.okD : ∀ (n : Nat) (d : PyData), OkS n d → OkD n d := by
  intro n
  induction n with
  | zero => intro d h; cases d <;> exact absurd h (by simp [OkS])
  | succ n ih =>
    intro d h
    cases d with
    | list ds =>
      simp only [OkS] at h
      exact ⟨h.1, fun e he => ih e (h.2.mem he)⟩
    | tuple ds =>
      simp only [OkS] at h
      exact ⟨h.1, fun e he => ih e (h.2.mem he)⟩
    | dict _ => simp [OkS] at h
    | _ => trivial
theorem OkS.tup2 {n : Nat} {d e : PyData} (h1 : OkS n d) (h2 : OkS n e) : OkS (n + 1) (.tuple [d, e]) := by
  simp only [OkS, OkSAll]
  exact ⟨by simp, h1, h2, trivial⟩
theorem OkS.int (n : Nat) (i : Int) : OkS (n + 1) (.int i) := by simp only [OkS]
theorem OkS.none (n : Nat) : OkS (n + 1) .none := by simp only [OkS]
theorem OkS.str {n : Nat} {x : Str} (h : PyData.strOk x = true) : OkS (n + 1) (.str x) := by simp only [OkS]; exact h
/-- places that can be compared -/
def PlcOk : Plc → Prop
  | .nm x => PyData.strOk x = true
  | .cell _ => True
theorem okS_plc {p : Plc} (h : PlcOk p) (n : Nat) : OkS (n + 2) (dPlc p) := by
  cases p with
  | nm x => exact .tup2 (.str (by decide +kernel)) (.str h)
  | cell i => exact .tup2 (.str (by decide +kernel)) (.int n _)
theorem okS_plcs {l : List Plc} (h : ∀ p ∈ l, PlcOk p) (hl : l.length ≤ 1000000) (n : Nat) : OkS (n + 3) (.list (l.map dPlc)) := by
  simp only [OkS]
  refine ⟨by rw [List.length_map]; exact hl, OkSAll.of fun d hd => ?_⟩
  obtain ⟨p, hp, rfl⟩ := List.mem_map.mp hd
  exact okS_plc (h p hp) n
theorem okS_res (r : Except Int Int) (n : Nat) : OkS (n + 2) (dRes r) := by
  cases r with
  | ok v => exact .tup2 (.int n _) (.none n)
  | error f => exact .tup2 (.none n) (.int n _)
theorem vis_ok {nv : Str → Int} {cs : List Int} : ∀ (t : Tr), TrOk t → ∀ p ∈ vis nv cs t, PlcOk p
  | .nu _, _, p, hp => by simp [vis] at hp
  | .nm x, h, p, hp => by
    rw [show p = .nm x by simpa [vis] using hp]
    exact (isNm_len h).2.2.2
  | .one w a, h, p, hp => by
    unfold vis at hp
    rcases List.mem_append.mp hp with hp | hp
    · exact vis_ok a h.2 p hp
    · split at hp
      · cases hp
      · unfold oneS at hp
        split at hp
        · rw [List.mem_singleton.mp hp]
          trivial
        · cases hp
  | .two w a b, h, p, hp => by
    unfold vis at hp
    rcases List.mem_append.mp hp with hp | hp
    · exact vis_ok a h.2.1 p hp
    · split at hp
      · cases hp
      · exact vis_ok b h.2.2 p hp
theorem seeAll_ok : ∀ (l s : List Plc), (∀ p ∈ s, PlcOk p) → (∀ p ∈ l, PlcOk p) → ∀ p ∈ seeAll s l, PlcOk p
  | [], s, hs, _ => hs
  | q :: l, s, hs, hl => seeAll_ok l (see s q) (fun p hp => by
      unfold see at hp
      split at hp
      · exact hs p hp
      · rcases List.mem_append.mp hp with hp | hp
        · exact hs p hp
        · rw [List.mem_singleton.mp hp]
          exact hl q List.mem_cons_self) fun p hp => hl p (List.mem_cons_of_mem _ hp)
/-! ### the reckoner -/
structure RkSt (K : PySem.W.Frag) (C : Addr) (H : Hp) (me dx W R S : Addr) (kvs : List (Key × V)) (cs : List Int) (vs : List V) (ps : List Plc) : Prop where
  o : H me = some (.ins C dx [("worths", .ref W), ("rooms", .ref R), ("seen", .ref S)])
  w : H W = some (.dK kvs)
  r : H R = some (.lst (cs.map V.int))
  s : H S = some (.lst vs)
  sp : DpAll K H vs (ps.map dPlc)
  ne : R ≠ S
  ai : AllInt kvs
  cl : cs.length = 16
  cm : ∀ c ∈ cs, Sm c
  po : ∀ p ∈ ps, PlcOk p
section
variable {K : PySem.W.Frag} {C : Addr} {H H' : Hp} {me dx W R S : Addr} {kvs : List (Key × V)} {cs : List Int} {vs vs' : List V} {ps ps' : List Plc}
theorem RkSt.meS (h : RkSt K C H me dx W R S kvs cs vs ps) : me ≠ S := ne_of h.o h.s (fun z => by cases z)
theorem RkSt.wS (h : RkSt K C H me dx W R S kvs cs vs ps) : W ≠ S := ne_of h.w h.s (fun z => by cases z)
theorem RkSt.to (h : RkSt K C H me dx W R S kvs cs vs ps) (k : Keep S H H') (e : H' S = some (.lst vs')) (d : DpAll K H' vs' (ps'.map dPlc)) (po : ∀ p ∈ ps', PlcOk p) : RkSt K C H' me dx W R S kvs cs vs' ps' :=
  ⟨k _ _ h.meS h.o, k _ _ h.wS h.w, k _ _ h.ne h.r, e, d, h.ne, h.ai, h.cl, h.cm, po⟩
theorem RkSt.same (h : RkSt K C H me dx W R S kvs cs vs ps) (s : Same H H') : RkSt K C H' me dx W R S kvs cs vs ps := h.to (Same.keep s) (s _ _ h.s) (Dp.sameAll s _ _ h.sp) h.po
theorem RkSt.len (h : RkSt K C H me dx W R S kvs cs vs ps) : vs.length = ps.length := by rw [DpAll.length h.sp, List.length_map]
end
/-! ### promises -/
abbrev pSaw (K : PySem.W.Frag) (C : Addr) : V → V → Hp → VK → XK → Prop := fun self pv H Q _ => ∃ (me dx W R S : Addr) (kvs : List (Key × V)) (cs : List Int) (vs : List V) (ps : List Plc) (p : Plc), self = .ref me ∧ RkSt K C H me dx W R S kvs cs vs ps ∧ Dp K H pv (dPlc p) ∧ PlcOk p ∧ ps.length < 1000000 ∧
  ∀ H' vs', Keep S H H' → RkSt K C H' me dx W R S kvs cs vs' (see ps p) → Q .non H'
abbrev pCell (K : PySem.W.Frag) (C : Addr) : V → V → Hp → VK → XK → Prop := fun self nv H Q _ => ∃ (me dx W R S : Addr) (kvs : List (Key × V)) (cs : List Int) (vs : List V) (ps : List Plc) (i : Int), self = .ref me ∧ nv = .int i ∧ RkSt K C H me dx W R S kvs cs vs ps ∧ ps.length < 1000000 ∧
  ∀ H' v vs', Keep S H H' → RkSt K C H' me dx W R S kvs cs vs' (seeAll ps (oneS "at" i)) → Dp K H' v (dRes (oneV cs "at" i)) → Q v H'
abbrev pOf (K : PySem.W.Frag) (C : Addr) (n : Nat) : V → V → Hp → VK → XK → Prop := fun self tv H Q _ => ∃ (me dx W R S : Addr) (kvs : List (Key × V)) (cs : List Int) (vs : List V) (ps : List Plc) (t : Tr), self = .ref me ∧ RkSt K C H me dx W R S kvs cs vs ps ∧ Dp K H tv (dTr t) ∧ dep t < n ∧ TrOk t ∧ ps.length + (tw t).length ≤ 900000 ∧
  ∀ H' v vs', Keep S H H' → RkSt K C H' me dx W R S kvs cs vs' (seeAll ps (vis (nvOf kvs) cs t)) → Dp K H' v (dRes (val (nvOf kvs) cs t)) → Q v H'
abbrev spPaired (K : PySem.W.Frag) : Sp := sp3 fun wv av bv H Q _ => ∃ (w : Str) (a b : Int), wv = .str w ∧ av = .int a ∧ bv = .int b ∧ w ∈ twoL ∧ Sm a ∧ Sm b ∧ ∀ H' v, Same H H' → Dp K H' v (dRes (pairV w a b)) → Q v H'
abbrev spII (f : Int → Int → Int) : Sp := sp2 fun av bv H Q _ => ∃ a b : Int, av = .int a ∧ bv = .int b ∧ Sm a ∧ Sm b ∧ Q (.int (f a b)) H
abbrev spRkInit (C : Addr) : Sp := sp3 fun self n c H Q _ => ∃ me dx : Addr, self = .ref me ∧ H me = some (.ins C dx []) ∧ ∀ H' S, Keep me H H' → H S = none → H' me = some (.ins C dx [("worths", n), ("rooms", c), ("seen", .ref S)]) → H' S = some (.lst []) → Q .non H'
/-- worth(tree, names, cells) -/
abbrev pWorth (K : PySem.W.Frag) (n : Nat) : V → V → V → Hp → VK → XK → Prop := fun tv wv cv H Q _ => ∃ (W R : Addr) (kvs : List (Key × V)) (cs : List Int) (t : Tr), wv = .ref W ∧ cv = .ref R ∧ H W = some (.dK kvs) ∧ H R = some (.lst (cs.map V.int)) ∧ AllInt kvs ∧ cs.length = 16 ∧ (∀ c ∈ cs, Sm c) ∧ Dp K H tv (dTr t) ∧ dep t < n ∧ TrOk t ∧ (tw t).length ≤ 900000 ∧
  ∀ H' v, Same H H' → Dp K H' v (dRes (val (nvOf kvs) cs t)) → Q v H'
abbrev spWorth (K : PySem.W.Frag) (n : Nat) : Sp := sp3 (pWorth K n)
end L2.U
/-! Lk: promises of the laws' own helpers about worths. Own text. -/
namespace L2.U
open PySem PySem.Spec PyProof.Rows RZ TL
theorem putK_fst (kvs : List (Key × V)) (k : Key) (v : V) : (k ∈ kvs.map (·.1) ∧ (putK kvs k v).map (·.1) = kvs.map (·.1)) ∨ (k ∉ kvs.map (·.1) ∧ (putK kvs k v).map (·.1) = kvs.map (·.1) ++ [k]) := by
  unfold putK
  by_cases h : (kvs.any fun kv => decide (kv.1 = k)) = true
  · left
    rw [if_pos h]
    refine ⟨?_, ?_⟩
    · obtain ⟨kv, h1, h2⟩ := List.any_eq_true.mp h
      exact List.mem_map.mpr ⟨kv, h1, of_decide_eq_true h2⟩
    · rw [List.map_map]
      apply List.map_congr_left
      intro kv _
      show (if kv.1 = k then (kv.1, v) else kv).1 = kv.1
      split <;> rfl
  · right
    rw [if_neg h]
    refine ⟨fun m => ?_, by rw [List.map_append]; rfl⟩
    obtain ⟨kv, h1, h2⟩ := List.mem_map.mp m
    exact h (List.any_eq_true.mpr ⟨kv, h1, decide_eq_true h2⟩)
theorem nodup_putK {kvs : List (Key × V)} (k : Key) (v : V) (h : (kvs.map (·.1)).Nodup) : ((putK kvs k v).map (·.1)).Nodup := by
  rcases putK_fst kvs k v with ⟨_, e⟩ | ⟨n, e⟩
  · rw [e]
    exact h
  · rw [e]
    exact nd_snoc h n
theorem putK_len (kvs : List (Key × V)) (k : Key) (v : V) : (putK kvs k v).length ≤ kvs.length + 1 := by
  have h : ((putK kvs k v).map (·.1)).length ≤ kvs.length + 1 := by
    rcases putK_fst kvs k v with ⟨_, e⟩ | ⟨n, e⟩ <;> rw [e] <;> simp
  simpa using h
theorem allInt_put {kvs : List (Key × V)} {k : Key} {i : Int} (h : AllInt kvs) (hi : Sm i) : AllInt (putK kvs k (.int i)) := by
  unfold putK
  split
  · intro p hp
    obtain ⟨q, hq, rfl⟩ := List.mem_map.mp hp
    by_cases e : q.1 = k
    · rw [if_pos e]
      exact ⟨i, rfl, hi⟩
    · rw [if_neg e]
      exact h q hq
  · intro p hp
    rcases List.mem_append.mp hp with hp | hp
    · exact h p hp
    · rw [List.mem_singleton.mp hp]
      exact ⟨i, rfl, hi⟩
theorem valV_self {kvs : List (Key × V)} (h : (kvs.map (·.1)).Nodup) : ∀ z ∈ kvs, valV kvs z.1 = some z.2 := by
  induction kvs with
  | nil => intro z hz; cases hz
  | cons p r ih =>
    intro z hz
    rw [List.map_cons, List.nodup_cons] at h
    rcases List.mem_cons.mp hz with rfl | hz
    · exact valV_pos rfl
    · rw [valV_neg (fun e => h.1 (by rw [e]; exact List.mem_map_of_mem hz))]
      exact ih h.2 z hz
theorem allInt_flat {kvs : List (Key × V)} (h : AllInt kvs) : ∀ z ∈ kvs, flatB z.2 = true := by
  intro z hz
  obtain ⟨i, e, _⟩ := h z hz
  rw [e]
  rfl
theorem Draw.keepN {H H' : Hp} {p a q : Addr} (d : Draw H p a) (k : Keep q H H') (n : p ≠ q) (m : a ≠ q) : Draw H' p a := by
  obtain ⟨ns, c, h, t, e, hS, r⟩ := d.ex
  exact ⟨ns, c, h, t, k _ _ n e, k _ _ m hS, r⟩
theorem two_last : ∀ x ∈ twoL, x ∉ (["div", "mod"] : List Str) → x ∉ (["+", "-", "*"] : List Str) → x ∉ (["<", "="] : List Str) → x = Str.ofString "and" ∨ x = Str.ofString "or" := by decide +kernel
/-- a number of the law's own, within the machine's size -/
abbrev spFarS : Sp := sp1 fun d H Q _ => ∃ p a : Addr, d = .ref p ∧ Draw H p a ∧ ∀ H' n, Keep p H H' → Draw H' p a → Sm n → Q (.int n) H'
abbrev pLreck (K : PySem.W.Frag) (n : Nat) : V → V → V → V → Hp → VK → XK → Prop := fun tv wv cv sv H Q _ => ∃ (W R S : Addr) (kvs : List (Key × V)) (cs : List Int) (vs : List V) (ps : List Plc) (t : Tr), wv = .ref W ∧ cv = .ref R ∧ sv = .ref S ∧ H W = some (.dK kvs) ∧ H R = some (.lst (cs.map V.int)) ∧ H S = some (.lst vs) ∧ R ≠ S ∧ AllInt kvs ∧ cs.length = 16 ∧ (∀ c ∈ cs, Sm c) ∧ DpAll K H vs (ps.map dPlc) ∧ Dp K H tv (dTr t) ∧ dep t < n ∧ TrOk t ∧ ps.length + (tw t).length ≤ 900000 ∧
  ∀ H' v vs', Keep S H H' → H' S = some (.lst vs') → DpAll K H' vs' ((ps ++ vis (nvOf kvs) cs t).map dPlc) → Dp K H' v (dRes (val (nvOf kvs) cs t)) → Q v H'
abbrev spLreck (K : PySem.W.Frag) (n : Nat) : Sp := sp4 (pLreck K n)
abbrev spWorths (K : PySem.W.Frag) : Sp := sp2 fun d nv H Q _ => ∃ (p a b : Addr) (nms : List Str), d = .ref p ∧ nv = .ref b ∧ b ≠ p ∧ SqL K H b (nms.map V.str) ∧ nms.length ≤ 1000 ∧ Draw H p a ∧
  ∀ H' r kvs, Keep p H H' → Draw H' p a → H r = none → H' r = some (.dK kvs) → AllInt kvs → (kvs.map (·.1)).Nodup → kvs.length ≤ nms.length → Q (.ref r) H'
abbrev spRooms : Sp := sp1 fun d H Q _ => ∃ p a : Addr, d = .ref p ∧ Draw H p a ∧
  ∀ H' r (cs : List Int), Keep p H H' → Draw H' p a → H r = none → H' r = some (.lst (cs.map V.int)) → cs.length = 16 → (∀ c ∈ cs, Sm c) → Q (.ref r) H'
end L2.U
/-! Tab: tables of lines: the mathematics, how they lie in the heap. Own text. -/
namespace L2.U
open PySem PySem.Spec PyProof.Rows RZ
abbrev Tab := List (Int × Int)
def rowAt (t : Tab) (i : Nat) : Int := (t.getD i (0, 0)).1
def lineAt (t : Tab) (i : Nat) : Int := (t.getD i (0, 0)).2
def dPair (p : Int × Int) : PyData := .tuple [.int p.1, .int p.2]
def dTab (t : Tab) : PyData := .list (t.map dPair)
def dInts (ns : List Int) : PyData := .list (ns.map .int)
section
variable {K : PySem.W.Frag} {H : Hp} {v : V}
theorem DpAll.ints_of : ∀ {ns : List Int} {xs : List V}, DpAll K H xs (ns.map .int) → xs = ns.map V.int
  | [], _, h => by cases h; rfl
  | n :: ns, _, h => by
    cases h with
    | cons h1 h2 =>
      cases h1
      rw [DpAll.ints_of h2]
      rfl
theorem DpAll.ints : ∀ ns : List Int, DpAll K H (ns.map V.int) (ns.map .int)
  | [] => .nil
  | n :: ns => .cons (.int n) (DpAll.ints ns)
theorem Dp.ints {a : Addr} {ns : List Int} (h : SqL K H a (ns.map V.int)) : Dp K H (.ref a) (dInts ns) := .lst h (DpAll.ints ns)
theorem Dp.ints_of {ns : List Int} (h : Dp K H v (dInts ns)) : ∃ a, v = .ref a ∧ SqL K H a (ns.map V.int) := by
  cases h with
  | lst hs ha =>
    rw [DpAll.ints_of ha] at hs
    exact ⟨_, rfl, hs⟩
theorem Dp.tab_of {t : Tab} (h : Dp K H v (dTab t)) : ∃ a xs, v = .ref a ∧ SqL K H a xs ∧ DpAll K H xs (t.map dPair) := by
  cases h with
  | lst hs ha => exact ⟨_, _, rfl, hs, ha⟩
theorem getD_of {t : Tab} {i : Nat} {p : Int × Int} (h : t[i]? = some p) : t.getD i (0, 0) = p := by rw [List.getD_eq_getElem?_getD, h]; rfl
theorem Dp.pair_of {p : Int × Int} (h : Dp K H v (dPair p)) : ∃ b, v = .ref b ∧ SqT K H b [.int p.1, .int p.2] := by
  cases h with
  | tup hs ha =>
    cases ha with
    | cons h1 h2 =>
      cases h2 with
      | cons h3 h4 =>
        cases h1
        cases h3
        cases h4
        exact ⟨_, rfl, hs⟩
theorem DpAll.pair {t : Tab} {xs : List V} {i : Nat} {x : V} (h : DpAll K H xs (t.map dPair)) (hi : xs[i]? = some x) : ∃ b, x = .ref b ∧ SqT K H b [.int (rowAt t i), .int (lineAt t i)] := by
  obtain ⟨d, e, hd⟩ := DpAll.get h hi
  rw [List.getElem?_map] at e
  obtain ⟨p, e1, rfl⟩ := Option.map_eq_some_iff.mp e
  obtain ⟨b, rfl, hs⟩ := Dp.pair_of hd
  refine ⟨b, rfl, ?_⟩
  unfold rowAt lineAt
  rw [getD_of e1]
  exact hs
theorem Dp.pair {b : Addr} {r l : Int} (h : SqT K H b [.int r, .int l]) : Dp K H (.ref b) (dPair (r, l)) := .tup h (.cons (.int r) (.cons (.int l) .nil))
theorem DpAll.app : ∀ {xs ys : List V} {ds es : List PyData}, DpAll K H xs ds → DpAll K H ys es → DpAll K H (xs ++ ys) (ds ++ es)
  | _, _, _, _, .nil, h => h
  | _, _, _, _, .cons h1 h2, h => .cons h1 (DpAll.app h2 h)
theorem DpAll.one {d : PyData} (h : Dp K H v d) : DpAll K H [v] [d] := .cons h .nil
theorem DpAll.at {xs : List V} {ds : List PyData} {i : Nat} {d : PyData} (h : DpAll K H xs ds) (hi : ds[i]? = some d) : ∃ x, xs[i]? = some x ∧ Dp K H x d := by
  have hl := DpAll.length h
  have hlt := (List.getElem?_eq_some_iff.mp hi).1
  obtain ⟨d', e1, e2⟩ := DpAll.get h (List.getElem?_eq_getElem (show i < xs.length by omega))
  rw [hi] at e1
  cases e1
  exact ⟨_, List.getElem?_eq_getElem (by omega), e2⟩
end
/-! ### good data -/
theorem canLayAll_ints : ∀ ns : List Int, PyData.canLayAll0 (ns.map .int) = true
  | [] => by simp [PyData.canLayAll0]
  | n :: ns => by simp only [List.map_cons, PyData.canLayAll0, PyData.canLay0, canLayAll_ints ns, Bool.and_self]
theorem depthAll_ints : ∀ ns : List Int, PyData.depthAll (ns.map .int) = 0
  | [] => by simp [PyData.depthAll]
  | n :: ns => by simp [PyData.depthAll, PyData.depth, depthAll_ints ns]
theorem shaped_ints (ns : List Int) : SeqAt.shaped (dInts ns) = true := by
  unfold SeqAt.shaped dInts
  rw [PyData.canLay0, canLayAll_ints, PyData.depth, depthAll_ints]
  rfl
theorem eqvAll_ints : ∀ ns ms : List Int, PyData.eqvAll (ns.map .int) (ms.map .int) = decide (ns = ms)
  | [], [] => by simp [PyData.eqvAll]
  | [], _ :: _ => by simp [PyData.eqvAll]
  | _ :: _, [] => by simp [PyData.eqvAll]
  | n :: ns, m :: ms => by
    simp only [List.map_cons, PyData.eqvAll, PyData.eqv, eqvAll_ints ns ms]
    by_cases h1 : n = m <;> by_cases h2 : ns = ms <;> simp [h1, h2]
theorem eqv_ints (ns ms : List Int) : PyData.eqv (dInts ns) (dInts ms) = decide (ns = ms) := by
  unfold dInts
  rw [PyData.eqv, eqvAll_ints]
theorem okD_ints {ns : List Int} (h : ns.length ≤ 1000000) (n : Nat) : OkD (n + 2) (dInts ns) := ⟨by rw [List.length_map]; exact h, fun d hd => by
  obtain ⟨i, _, rfl⟩ := List.mem_map.mp hd
  trivial⟩
theorem okD_pair (p : Int × Int) (n : Nat) : OkD (n + 2) (dPair p) := ⟨Nat.le_of_ble_eq_true rfl, fun d hd => by
  simp only [List.mem_cons, List.not_mem_nil, or_false] at hd
  rcases hd with rfl | rfl <;> trivial⟩
theorem okD_tab {t : Tab} (h : t.length ≤ 1000000) (n : Nat) : OkD (n + 3) (dTab t) := ⟨by rw [List.length_map]; exact h, fun d hd => by
  obtain ⟨p, _, rfl⟩ := List.mem_map.mp hd
  exact okD_pair p n⟩
/-! ### packing -/
def packTo (ls : List Int) : Nat → Tab
  | 0 => []
  | i + 1 => packTo ls i ++ (if i = 0 ∨ ls.getD i 0 ≠ ls.getD (i - 1) 0 then [((i : Int), ls.getD i 0)] else [])
def pack (ls : List Int) : Tab := packTo ls ls.length
/-! ### good tables -/
def GoodAt (t : Tab) (m : Int) (i : Nat) : Prop := 0 ≤ lineAt t i ∧ rowAt t i < m ∧ (i = 0 ∨ (rowAt t (i - 1) < rowAt t i ∧ lineAt t i ≠ lineAt t (i - 1)))
def Good (t : Tab) (m : Int) : Prop := 1 ≤ m ∧ m ≤ 400 ∧ 0 < t.length ∧ rowAt t 0 = 0 ∧ ∀ i, i < t.length → GoodAt t m i
theorem Good.row {t : Tab} {m : Int} (g : Good t m) : ∀ i, i < t.length → 0 ≤ rowAt t i ∧ rowAt t i < m := by
  intro i
  induction i with
  | zero => exact fun h => ⟨by rw [g.2.2.2.1]; exact Int.le_refl _, (g.2.2.2.2 0 h).2.1⟩
  | succ i ih =>
    intro h
    obtain ⟨_, h2, h3⟩ := g.2.2.2.2 (i + 1) h
    have h0 := ih (by omega)
    rcases h3 with h3 | ⟨h3, _⟩
    · cases h3
    · rw [Nat.add_sub_cancel] at h3
      exact ⟨by omega, h2⟩
theorem Good.rising {t : Tab} {m : Int} (g : Good t m) {i : Nat} (h : i + 1 < t.length) : rowAt t i < rowAt t (i + 1) := by
  obtain ⟨_, _, h3⟩ := g.2.2.2.2 (i + 1) h
  rcases h3 with h3 | ⟨h3, _⟩
  · cases h3
  · exact h3
/-! ### unpacking -/
def nextRow : Tab → Int → Int
  | [], m => m
  | p :: _, _ => p.1
def unpackL : Tab → Int → List Int
  | [], _ => []
  | p :: rest, m => List.replicate (nextRow rest m - p.1).toNat p.2 ++ unpackL rest m
theorem nextRow_drop (t : Tab) (m : Int) (i : Nat) : nextRow (t.drop i) m = if i < t.length then rowAt t i else m := by
  by_cases h : i < t.length
  · rw [if_pos h, List.drop_eq_getElem_cons h]
    show t[i].1 = _
    unfold rowAt
    rw [getD_of (List.getElem?_eq_getElem h)]
  · rw [if_neg h, List.drop_eq_nil_of_le (by omega)]
    rfl
theorem unpackL_drop (t : Tab) (m : Int) {i : Nat} (h : i < t.length) : unpackL (t.drop i) m = List.replicate ((if i + 1 < t.length then rowAt t (i + 1) else m) - rowAt t i).toNat (lineAt t i) ++ unpackL (t.drop (i + 1)) m := by
  have e : t.drop i = t[i] :: t.drop (i + 1) := List.drop_eq_getElem_cons h
  have e1 := getD_of (List.getElem?_eq_getElem h)
  rw [e, ← nextRow_drop]
  unfold rowAt lineAt
  rw [e1]
  rfl
theorem unpackL_snoc (m l : Int) : ∀ t : Tab, unpackL (t ++ [(m, l)]) (m + 1) = unpackL t m ++ [l]
  | [] => by
    show List.replicate (m + 1 - m).toNat l ++ [] = [] ++ [l]
    rw [show (m + 1 - m).toNat = 1 by omega]
    rfl
  | p :: rest => by
    have e : nextRow (rest ++ [(m, l)]) (m + 1) = nextRow rest m := by cases rest <;> rfl
    show List.replicate (nextRow (rest ++ [(m, l)]) (m + 1) - p.1).toNat p.2 ++ unpackL (rest ++ [(m, l)]) (m + 1) = (List.replicate (nextRow rest m - p.1).toNat p.2 ++ unpackL rest m) ++ [l]
    rw [e, unpackL_snoc m l rest, List.append_assoc]
theorem unpackL_more (m : Int) : ∀ t : Tab, t ≠ [] → rowAt t (t.length - 1) ≤ m → unpackL t (m + 1) = unpackL t m ++ [lineAt t (t.length - 1)]
  | [], h, _ => absurd rfl h
  | [p], _, h => by
    have h' : p.1 ≤ m := h
    show List.replicate (m + 1 - p.1).toNat p.2 ++ [] = (List.replicate (m - p.1).toNat p.2 ++ []) ++ [p.2]
    rw [List.append_nil, List.append_nil, show (m + 1 - p.1).toNat = (m - p.1).toNat + 1 by omega, List.replicate_succ']
  | p :: q :: rest, _, h => by
    have ih := unpackL_more m (q :: rest) (by simp) h
    show List.replicate (q.1 - p.1).toNat p.2 ++ unpackL (q :: rest) (m + 1) = (List.replicate (q.1 - p.1).toNat p.2 ++ unpackL (q :: rest) m) ++ [lineAt (q :: rest) ((q :: rest).length - 1)]
    rw [ih, List.append_assoc]
theorem getD_app_lt {t : Tab} {p : Int × Int} {j : Nat} (h : j < t.length) : (t ++ [p]).getD j (0, 0) = t.getD j (0, 0) := by
  rw [List.getD_eq_getElem?_getD, List.getD_eq_getElem?_getD, List.getElem?_append_left h]
theorem getD_app_eq {t : Tab} {p : Int × Int} : (t ++ [p]).getD t.length (0, 0) = p := by
  rw [List.getD_eq_getElem?_getD, List.getElem?_append_right (Nat.le_refl _), Nat.sub_self]
  rfl
/-- what a packing keeps -/
theorem packTo_keeps (ls : List Int) (hp : ∀ x ∈ ls, 0 ≤ x) : ∀ i, i < ls.length →
    (packTo ls (i + 1)) ≠ [] ∧ (packTo ls (i + 1)).length ≤ i + 1 ∧ rowAt (packTo ls (i + 1)) 0 = 0 ∧ (∀ j, j < (packTo ls (i + 1)).length → GoodAt (packTo ls (i + 1)) (i + 1 : Nat) j) ∧
      lineAt (packTo ls (i + 1)) ((packTo ls (i + 1)).length - 1) = ls.getD i 0 ∧ rowAt (packTo ls (i + 1)) ((packTo ls (i + 1)).length - 1) ≤ i ∧ unpackL (packTo ls (i + 1)) (i + 1 : Nat) = ls.take (i + 1) := by
  intro i
  have pos : ∀ j, j < ls.length → 0 ≤ ls.getD j 0 := fun j hj => by
    rw [List.getD_eq_getElem?_getD, List.getElem?_eq_getElem hj]
    exact hp _ (List.getElem_mem hj)
  have tk : ∀ j, j < ls.length → ls.take (j + 1) = ls.take j ++ [ls.getD j 0] := fun j hj => by
    rw [List.take_add_one, List.getElem?_eq_getElem hj, List.getD_eq_getElem?_getD, List.getElem?_eq_getElem hj]
    rfl
  induction i with
  | zero =>
    intro hi
    have e : packTo ls 1 = [(0, ls.getD 0 0)] := by
      show [] ++ (if (0 = 0 ∨ _) then _ else _) = _
      rw [if_pos (.inl rfl)]
      rfl
    rw [e]
    refine ⟨by simp, Nat.le_refl 1, rfl, fun j hj => ?_, rfl, Int.le_refl _, ?_⟩
    · have : j = 0 := by simp at hj; omega
      subst this
      exact ⟨pos 0 hi, by show (0 : Int) < 1; decide, .inl rfl⟩
    · rw [tk 0 hi]
      rfl
  | succ i ih =>
    intro hi
    obtain ⟨h1, h2, h3, h4, h5, h6, h7⟩ := ih (by omega)
    have hl : 0 < (packTo ls (i + 1)).length := List.length_pos_iff.mpr h1
    have ec : ((i + 1 + 1 : Nat) : Int) = ((i + 1 : Nat) : Int) + 1 := by omega
    have estep : packTo ls (i + 1 + 1) = packTo ls (i + 1) ++ (if i + 1 = 0 ∨ ls.getD (i + 1) 0 ≠ ls.getD (i + 1 - 1) 0 then [(((i + 1 : Nat) : Int), ls.getD (i + 1) 0)] else []) := rfl
    by_cases hne : ls.getD (i + 1) 0 ≠ ls.getD i 0
    · have e : packTo ls (i + 1 + 1) = packTo ls (i + 1) ++ [(((i + 1 : Nat) : Int), ls.getD (i + 1) 0)] := by
        rw [estep, if_pos (.inr (by rw [Nat.add_sub_cancel]; exact hne))]
      rw [e]
      generalize packTo ls (i + 1) = t at *
      have el : (t ++ [(((i + 1 : Nat) : Int), ls.getD (i + 1) 0)]).length = t.length + 1 := by simp
      refine ⟨by simp, by rw [el]; omega, ?_, fun j hj => ?_, ?_, ?_, ?_⟩
      · unfold rowAt
        rw [getD_app_lt hl]
        exact h3
      · rw [el] at hj
        by_cases hj2 : j < t.length
        · obtain ⟨g1, g2, g3⟩ := h4 j hj2
          unfold GoodAt rowAt lineAt at *
          rw [getD_app_lt hj2, getD_app_lt (show j - 1 < t.length by omega)]
          exact ⟨g1, by omega, g3⟩
        · have : j = t.length := by omega
          subst this
          unfold GoodAt rowAt lineAt at *
          rw [getD_app_eq, getD_app_lt (show t.length - 1 < t.length by omega)]
          exact ⟨pos (i + 1) hi, by show ((i + 1 : Nat) : Int) < _; omega, .inr ⟨by show _ < ((i + 1 : Nat) : Int); omega, by rw [h5]; exact hne⟩⟩
      · rw [el, Nat.add_sub_cancel]
        unfold lineAt
        rw [getD_app_eq]
      · rw [el, Nat.add_sub_cancel]
        unfold rowAt
        rw [getD_app_eq]
        exact Int.le_refl _
      · rw [ec, unpackL_snoc, h7, tk (i + 1) hi]
    · have hne' : ls.getD (i + 1) 0 = ls.getD i 0 := Decidable.not_not.mp hne
      have e : packTo ls (i + 1 + 1) = packTo ls (i + 1) := by
        rw [estep, if_neg (by rw [Nat.add_sub_cancel]; rintro (z | z); cases z; exact hne z), List.append_nil]
      rw [e]
      generalize packTo ls (i + 1) = t at *
      refine ⟨h1, by omega, h3, fun j hj => ?_, by rw [h5, hne'], by omega, ?_⟩
      · obtain ⟨g1, g2, g3⟩ := h4 j hj
        exact ⟨g1, by omega, g3⟩
      · rw [ec, unpackL_more _ _ h1 (by omega), h7, tk (i + 1) hi, h5, hne']
theorem pack_good {ls : List Int} (hp : ∀ x ∈ ls, 0 ≤ x) (h1 : 0 < ls.length) (h2 : ls.length ≤ 400) : Good (pack ls) ls.length ∧ unpackL (pack ls) ls.length = ls ∧ (pack ls).length ≤ ls.length := by
  obtain ⟨n, hn⟩ : ∃ n, ls.length = n + 1 := ⟨ls.length - 1, by omega⟩
  obtain ⟨a1, a2, a3, a4, _, _, a7⟩ := packTo_keeps ls hp n (by omega)
  unfold pack
  rw [hn]
  refine ⟨⟨by omega, by omega, List.length_pos_iff.mpr a1, a3, a4⟩, ?_, a2⟩
  rw [a7, ← hn, List.take_length]
theorem unpackL_len {t : Tab} {m : Int} (g : Good t m) : ∀ k i, i + k = t.length → ((unpackL (t.drop i) m).length : Int) = m - (if i < t.length then rowAt t i else m)
  | 0, i, h => by
    rw [List.drop_eq_nil_of_le (by omega), if_neg (by omega)]
    show (0 : Int) = _
    omega
  | k + 1, i, h => by
    have ih := unpackL_len g k (i + 1) (by omega)
    have hi : i < t.length := by omega
    rw [unpackL_drop t m hi, List.length_append, List.length_replicate, if_pos hi]
    have r1 := g.row i hi
    by_cases h2 : i + 1 < t.length
    · rw [if_pos h2] at ih ⊢
      have r2 := g.rising h2
      omega
    · rw [if_neg h2] at ih ⊢
      omega
theorem unpackL_len0 {t : Tab} {m : Int} (g : Good t m) : ((unpackL t m).length : Int) = m := by
  have h := unpackL_len g t.length 0 (by omega)
  rw [List.drop_zero, if_pos g.2.2.1, g.2.2.2.1] at h
  omega
theorem unpackL_split {t : Tab} {m : Int} (g : Good t m) : ∀ i, i ≤ t.length → ∃ X, unpackL t m = X ++ unpackL (t.drop i) m ∧ (X.length : Int) = (if i < t.length then rowAt t i else m)
  | 0, _ => ⟨[], rfl, by rw [if_pos g.2.2.1, g.2.2.2.1]; rfl⟩
  | i + 1, h => by
    obtain ⟨X, e, l⟩ := unpackL_split g i (by omega)
    have hi : i < t.length := by omega
    rw [if_pos hi] at l
    rw [unpackL_drop t m hi] at e
    refine ⟨X ++ List.replicate ((if i + 1 < t.length then rowAt t (i + 1) else m) - rowAt t i).toNat (lineAt t i), by rw [e, List.append_assoc], ?_⟩
    rw [List.length_append, List.length_replicate]
    have r1 := g.row i hi
    by_cases h2 : i + 1 < t.length
    · rw [if_pos h2]
      have r2 := g.rising h2
      omega
    · rw [if_neg h2]
      omega
/-- a row's line, by the pair whose rows it is among -/
theorem unpackL_at {t : Tab} {m : Int} (g : Good t m) {i : Nat} (hi : i < t.length) {r : Int} (h1 : rowAt t i ≤ r) (h2 : r < if i + 1 < t.length then rowAt t (i + 1) else m) : (unpackL t m)[r.toNat]? = some (lineAt t i) := by
  obtain ⟨X, e, l⟩ := unpackL_split g i (by omega)
  rw [if_pos hi] at l
  have r1 := g.row i hi
  rw [e, List.getElem?_append_right (by omega), unpackL_drop t m hi, List.getElem?_append_left (by rw [List.length_replicate]; omega), List.getElem?_replicate, if_pos (by omega)]
theorem flat_rep {α : Type} (x : α) : ∀ n, (List.replicate n [x]).flatten = List.replicate n x
  | 0 => rfl
  | n + 1 => by rw [List.replicate_succ, List.flatten_cons, flat_rep x n]; rfl
/-! ### promises -/
abbrev spPacked (K : PySem.W.Frag) : Sp := sp1 fun v H Q _ => ∃ (b : Addr) (ns : List Int), v = .ref b ∧ SqL K H b (ns.map V.int) ∧ ns.length ≤ 1000 ∧
  ∀ H' r xs, Same H H' → H r = none → H' r = some (.lst xs) → DpAll K (hid [r] H') xs ((pack ns).map dPair) → Q (.ref r) H'
abbrev spNeed (K : PySem.W.Frag) (cT : Addr) : Sp := sp2 fun t m H Q E => ∃ (tab : Tab) (many : Int), m = .int many ∧ Dp K H t (dTab tab) ∧ tab.length ≤ 1000 ∧
  (Good tab many → ∀ H', Same H H' → Q .non H') ∧ (¬ Good tab many → ∀ H', Same H H' → E (.ref cT) none H')
abbrev spUnpacked (K : PySem.W.Frag) (cT : Addr) : Sp := sp2 fun t m H Q E => ∃ (tab : Tab) (many : Int), m = .int many ∧ Dp K H t (dTab tab) ∧ tab.length ≤ 1000 ∧
  (Good tab many → ∀ H' r, Same H H' → H r = none → H' r = some (.lst ((unpackL tab many).map V.int)) → Q (.ref r) H') ∧ (¬ Good tab many → ∀ H', Same H H' → E (.ref cT) none H')
abbrev spLineAt (K : PySem.W.Frag) (cT cP : Addr) : Sp := sp3 fun t m r H Q E => ∃ (tab : Tab) (many row : Int), m = .int many ∧ r = .int row ∧ Dp K H t (dTab tab) ∧ tab.length ≤ 1000 ∧
  (Good tab many → ∀ H' v, Same H H' → 0 ≤ row → row < many → (unpackL tab many)[row.toNat]? = some v → Q (.int v) H') ∧ (¬ Good tab many → ∀ H', Same H H' → E (.ref cT) none H') ∧ (Good tab many → ¬ (0 ≤ row ∧ row < many) → ∀ H', Same H H' → E (.ref cP) none H')
/-- the rows of a line among those below n -/
def rowsOf (ls : List Int) (line : Int) : Nat → List Int
  | 0 => []
  | i + 1 => rowsOf ls line i ++ (if ls.getD i 0 = line then [(i : Int)] else [])
abbrev spRowsOf (K : PySem.W.Frag) (cT : Addr) : Sp := sp3 fun t m l H Q E => ∃ (tab : Tab) (many line : Int), m = .int many ∧ l = .int line ∧ Dp K H t (dTab tab) ∧ tab.length ≤ 1000 ∧
  (Good tab many → ∀ H' r, Same H H' → H r = none → H' r = some (.lst ((rowsOf (unpackL tab many) line (unpackL tab many).length).map V.int)) → Q (.ref r) H') ∧ (¬ Good tab many → ∀ H', Same H H' → E (.ref cT) none H')
end L2.U
namespace L2.U
open PySem PySem.Spec PyProof.Rows RZ TL
def topS (i : Nat) : Stmt := PySem.Challenge.pw_hindstep_k05_bounds_of_sums.main.body.getD i (.Pass ⟨0, 0, 0, 0⟩)
abbrev s_plus : Stmt := topS 6
theorem sc_plus : FnScope ["one", "other"] ["one", "other"] (defScope s_plus) := ⟨rfl, rfl, rfl, by decide +kernel, rfl, by decide +kernel, by decide +kernel⟩
abbrev s_minus : Stmt := topS 7
theorem sc_minus : FnScope ["one", "other"] ["one", "other"] (defScope s_minus) := ⟨rfl, rfl, rfl, by decide +kernel, rfl, by decide +kernel, by decide +kernel⟩
abbrev s_times : Stmt := topS 8
theorem sc_times : FnScope ["one", "other"] ["one", "other"] (defScope s_times) := ⟨rfl, rfl, rfl, by decide +kernel, rfl, by decide +kernel, by decide +kernel⟩
abbrev s_less : Stmt := topS 9
theorem sc_less : FnScope ["one", "other"] ["one", "other"] (defScope s_less) := ⟨rfl, rfl, rfl, by decide +kernel, rfl, by decide +kernel, by decide +kernel⟩
abbrev s_same : Stmt := topS 10
theorem sc_same : FnScope ["one", "other"] ["one", "other"] (defScope s_same) := ⟨rfl, rfl, rfl, by decide +kernel, rfl, by decide +kernel, by decide +kernel⟩
abbrev s_both : Stmt := topS 11
theorem sc_both : FnScope ["one", "other"] ["one", "other"] (defScope s_both) := ⟨rfl, rfl, rfl, by decide +kernel, rfl, by decide +kernel, by decide +kernel⟩
abbrev s_either : Stmt := topS 12
theorem sc_either : FnScope ["one", "other"] ["one", "other"] (defScope s_either) := ⟨rfl, rfl, rfl, by decide +kernel, rfl, by decide +kernel, by decide +kernel⟩
abbrev s_Reckoner___init__ : Stmt := inClass (topS 15) 0
theorem sc_Reckoner___init__ : FnScope ["self", "names", "cells"] ["self", "names", "cells"] (defScope s_Reckoner___init__) := ⟨rfl, rfl, rfl, by decide +kernel, rfl, by decide +kernel, by decide +kernel⟩
abbrev s_Reckoner_saw : Stmt := inClass (topS 15) 1
theorem sc_Reckoner_saw : FnScope ["self", "place"] ["self", "place"] (defScope s_Reckoner_saw) := ⟨rfl, rfl, rfl, by decide +kernel, rfl, by decide +kernel, by decide +kernel⟩
abbrev s_Reckoner_of : Stmt := inClass (topS 15) 2
theorem sc_Reckoner_of : FnScope ["self", "tree", "word", "parts", "things", "part", "thing", "fault"] ["self", "tree"] (defScope s_Reckoner_of) := ⟨rfl, rfl, rfl, by decide +kernel, rfl, by decide +kernel, by decide +kernel⟩
abbrev s_Reckoner_at_cell : Stmt := inClass (topS 15) 3
theorem sc_Reckoner_at_cell : FnScope ["self", "number"] ["self", "number"] (defScope s_Reckoner_at_cell) := ⟨rfl, rfl, rfl, by decide +kernel, rfl, by decide +kernel, by decide +kernel⟩
abbrev s_paired : Stmt := topS 16
theorem sc_paired : FnScope ["word", "one", "other", "deed", "made"] ["word", "one", "other"] (defScope s_paired) := ⟨rfl, rfl, rfl, by decide +kernel, rfl, by decide +kernel, by decide +kernel⟩
abbrev s_worth : Stmt := topS 17
theorem sc_worth : FnScope ["tree", "names", "cells"] ["tree", "names", "cells"] (defScope s_worth) := ⟨rfl, rfl, rfl, by decide +kernel, rfl, by decide +kernel, by decide +kernel⟩
abbrev s_law_begin : Stmt := topS 19
theorem sc_law_begin : FnScope ["_law_script"] ["_law_script"] (defScope s_law_begin) := ⟨rfl, rfl, rfl, by decide +kernel, rfl, by decide +kernel, by decide +kernel⟩
abbrev s_law_take : Stmt := topS 20
theorem sc_law_take : FnScope ["_law_draw", "_law_sides", "_law_cell", "_law_got"] ["_law_draw", "_law_sides"] (defScope s_law_take) := ⟨rfl, rfl, rfl, by decide +kernel, rfl, by decide +kernel, by decide +kernel⟩
abbrev s_law_same : Stmt := topS 21
theorem sc_law_same : FnScope ["_law_found", "_law_due", "_law_one_here", "_law_other"] ["_law_found", "_law_due"] (defScope s_law_same) := ⟨rfl, rfl, rfl, by decide +kernel, rfl, by decide +kernel, by decide +kernel⟩
abbrev s_law_far : Stmt := topS 22
theorem sc_law_far : FnScope ["_law_draw", "_law_number"] ["_law_draw"] (defScope s_law_far) := ⟨rfl, rfl, rfl, by decide +kernel, rfl, by decide +kernel, by decide +kernel⟩
abbrev s_law_one : Stmt := topS 23
theorem sc_law_one : FnScope ["_law_draw", "_law_row"] ["_law_draw", "_law_row"] (defScope s_law_one) := ⟨rfl, rfl, rfl, by decide +kernel, rfl, by decide +kernel, by decide +kernel⟩
abbrev s_law_rooms : Stmt := topS 24
theorem sc_law_rooms : FnScope ["_law_draw", "_law_k"] ["_law_draw"] (defScope s_law_rooms) := ⟨rfl, rfl, rfl, by decide +kernel, rfl, by decide +kernel, by decide +kernel⟩
abbrev s_law : Stmt := topS 25
theorem sc_law : FnScope ["_law_script", "_law_draw", "_law_edge", "_law_cells", "_law_k", "_law_some", "_law_near", "_law_names", "_law_rows", "_law_sign", "_law_one_here", "_law_other", "_law_made", "_law_due", "_law_square", "_law_below", "_law_pair", "_law_found", "_law_at", "_law_name"] ["_law_script"] (defScope s_law) := ⟨rfl, rfl, rfl, by decide +kernel, rfl, by decide +kernel, by decide +kernel⟩
structure Blt (mg : Str → Option Value) : Prop where
  abs : mg "abs" = none
  all : mg "all" = none
  bool : mg "bool" = none
  int : mg "int" = none
  isinstance : mg "isinstance" = none
  len : mg "len" = none
  list : mg "list" = none
  range : mg "range" = none
  str : mg "str" = none
  tuple : mg "tuple" = none
  zip : mg "zip" = none
section
variable {P : Program} {w : World} {K : PySem.W.Frag} {mg : Str → Option Value} {base : Heap}
local macro_rules | `(tactic| walk_at "hq") => `(tactic| with_reducible first
  | assumption
  | exact upd_same
  | (refine Same.get (by assumption) ?_; walk_at "hq"))
local macro_rules | `(tactic| walk_at "ne") => `(tactic| with_reducible first
  | assumption
  | (refine Ne.symm ?_; assumption)
  | (refine ne_of_none ?_ (by assumption); walk_at "hq")
  | (refine Ne.symm ?_; refine ne_of_none ?_ (by assumption); walk_at "hq"))
local macro_rules | `(tactic| walk_at "hp") => `(tactic| with_reducible first
  | assumption
  | exact upd_same
  | (refine upd_get (by walk_at "ne") ?_; walk_at "hp")
  | (refine Same.get (by assumption) ?_; walk_at "hp")
  | (refine Keep.get (by assumption) (by walk_at "ne") ?_; walk_at "hp"))
local macro_rules | `(tactic| walk_at "st") => `(tactic| with_reducible first
  | assumption
  | exact SqT.of (by walk_at "hp")
  | (refine Same.sqT (by assumption) ?_; walk_at "st"))
local macro_rules | `(tactic| walk_at "look") => `(tactic| with_reducible first | exact look_0 | exact look_1 (by decide +kernel) | exact look_2 (by decide +kernel) (by decide +kernel) | exact look_3 (by decide +kernel) (by decide +kernel) (by decide +kernel) | exact look_4 (by decide +kernel) (by decide +kernel) (by decide +kernel) (by decide +kernel) | exact look_5 (by decide +kernel) (by decide +kernel) (by decide +kernel) (by decide +kernel) (by decide +kernel) | exact look_6 (by decide +kernel) (by decide +kernel) (by decide +kernel) (by decide +kernel) (by decide +kernel) (by decide +kernel) | exact look_7 (by decide +kernel) (by decide +kernel) (by decide +kernel) (by decide +kernel) (by decide +kernel) (by decide +kernel) (by decide +kernel) | exact look_8 (by decide +kernel) (by decide +kernel) (by decide +kernel) (by decide +kernel) (by decide +kernel) (by decide +kernel) (by decide +kernel) (by decide +kernel) | exact look_9 (by decide +kernel) (by decide +kernel) (by decide +kernel) (by decide +kernel) (by decide +kernel) (by decide +kernel) (by decide +kernel) (by decide +kernel) (by decide +kernel))
local macro_rules | `(tactic| walk_at "put") => `(tactic| with_reducible first | exact put_0 | exact new_0 | exact put_1 (by decide +kernel) | exact new_1 (by decide +kernel) | exact put_2 (by decide +kernel) (by decide +kernel) | exact new_2 (by decide +kernel) (by decide +kernel) | exact put_3 (by decide +kernel) (by decide +kernel) (by decide +kernel) | exact new_3 (by decide +kernel) (by decide +kernel) (by decide +kernel) | exact put_4 (by decide +kernel) (by decide +kernel) (by decide +kernel) (by decide +kernel) | exact new_4 (by decide +kernel) (by decide +kernel) (by decide +kernel) (by decide +kernel) | exact put_5 (by decide +kernel) (by decide +kernel) (by decide +kernel) (by decide +kernel) (by decide +kernel) | exact new_5 (by decide +kernel) (by decide +kernel) (by decide +kernel) (by decide +kernel) (by decide +kernel) | exact put_6 (by decide +kernel) (by decide +kernel) (by decide +kernel) (by decide +kernel) (by decide +kernel) (by decide +kernel) | exact new_6 (by decide +kernel) (by decide +kernel) (by decide +kernel) (by decide +kernel) (by decide +kernel) (by decide +kernel) | exact put_7 (by decide +kernel) (by decide +kernel) (by decide +kernel) (by decide +kernel) (by decide +kernel) (by decide +kernel) (by decide +kernel) | exact new_7 (by decide +kernel) (by decide +kernel) (by decide +kernel) (by decide +kernel) (by decide +kernel) (by decide +kernel) (by decide +kernel) | exact put_8 (by decide +kernel) (by decide +kernel) (by decide +kernel) (by decide +kernel) (by decide +kernel) (by decide +kernel) (by decide +kernel) (by decide +kernel) | exact new_8 (by decide +kernel) (by decide +kernel) (by decide +kernel) (by decide +kernel) (by decide +kernel) (by decide +kernel) (by decide +kernel) (by decide +kernel) | exact put_9 (by decide +kernel) (by decide +kernel) (by decide +kernel) (by decide +kernel) (by decide +kernel) (by decide +kernel) (by decide +kernel) (by decide +kernel) (by decide +kernel) | exact new_9 (by decide +kernel) (by decide +kernel) (by decide +kernel) (by decide +kernel) (by decide +kernel) (by decide +kernel) (by decide +kernel) (by decide +kernel) (by decide +kernel))
local macro_rules | `(tactic| walk_at "nol") => `(tactic| with_reducible first | exact nol_0 | exact nol_1 (by decide +kernel) | exact nol_2 (by decide +kernel) (by decide +kernel) | exact nol_3 (by decide +kernel) (by decide +kernel) (by decide +kernel) | exact nol_4 (by decide +kernel) (by decide +kernel) (by decide +kernel) (by decide +kernel) | exact nol_5 (by decide +kernel) (by decide +kernel) (by decide +kernel) (by decide +kernel) (by decide +kernel) | exact nol_6 (by decide +kernel) (by decide +kernel) (by decide +kernel) (by decide +kernel) (by decide +kernel) (by decide +kernel) | exact nol_7 (by decide +kernel) (by decide +kernel) (by decide +kernel) (by decide +kernel) (by decide +kernel) (by decide +kernel) (by decide +kernel) | exact nol_8 (by decide +kernel) (by decide +kernel) (by decide +kernel) (by decide +kernel) (by decide +kernel) (by decide +kernel) (by decide +kernel) (by decide +kernel) | exact nol_9 (by decide +kernel) (by decide +kernel) (by decide +kernel) (by decide +kernel) (by decide +kernel) (by decide +kernel) (by decide +kernel) (by decide +kernel) (by decide +kernel) | exact nol_10 (by decide +kernel) (by decide +kernel) (by decide +kernel) (by decide +kernel) (by decide +kernel) (by decide +kernel) (by decide +kernel) (by decide +kernel) (by decide +kernel) (by decide +kernel))
local macro_rules | `(tactic| walk_at "at") => `(tactic| with_reducible first | exact atI_0 _ _ | exact atI_1 | exact atI_2 | exact atI_3)
local macro_rules | `(tactic| walk_at "ixn") => `(tactic| with_reducible first | exact ixL_0 | exact ixL_1 | exact ixL_2 | exact ixL_3 | exact ixL_4 | exact ixL_5)
local macro_rules | `(tactic| walk_at "auto") => `(tactic| with_reducible first
  | (apply f_sz; (with_unfolding_all exact rfl))
  | (apply brT; (first | exact rfl | decide +kernel))
  | (apply brF; (decide +kernel))
  | (apply brNT; (first | exact rfl | decide +kernel))
  | (apply brNF; (decide +kernel))
  | (apply f_fld; (walk_at "hp"); (assumption); (simp); (walk_at "look"))
  | (apply f_setF; (walk_at "hp"); (assumption); (simp); (with_unfolding_all exact Nat.le_of_ble_eq_true rfl); (walk_at "put"))
  | (apply f_meth; (walk_at "hp"); (walk_at "nol"))
  | (apply s_callH; (with_unfolding_all exact rfl); (assumption))
  | (apply f_ixL; (walk_at "hp"); (walk_at "at"))
  | (apply f_ixLA; (walk_at "hp"); (walk_at "at"))
  | (apply s_ixT; (walk_at "st"); (walk_at "at"))
  | (apply f_ixTA; (walk_at "st"); (walk_at "at"))
  | (apply f_setL; (walk_at "hp"); (walk_at "ixn"); (exact inferInstance))
  | (apply f_setLA; (walk_at "hp"); (walk_at "ixn"); (exact inferInstance))
  | (apply f_lenL; (walk_at "hp"))
  | (apply f_tyL; (walk_at "hp")))
local macro_rules | `(tactic| walk_at "rd") => `(tactic| repeat (first | with_reducible refine Stp.of ?_ | walk_at "auto"))
theorem ok_plus (D : DefAt K mg "plus" s_plus ["one", "other"]) (B : Blt mg) : OkF P w K mg base CX0 1 "plus" ["one", "other"] (spII fun a b => a + b) := by
  refine D.ok sc_plus len2 (fun f cdv A outer s H vs Q E hr h => ?_)
  obtain ⟨_, _, rfl, a, b, rfl, rfl, ha, hb, q⟩ := h
  refine ⟨_, (pss_one (ps_ret (pe_op (o_add (K := K)) (pv 0) (pv 1)))), ?_⟩
  refine s_start (σ' := [some (.int a), some (.int b)]) rfl ?_
  walk_at "rd"
  exact q
theorem ok_minus (D : DefAt K mg "minus" s_minus ["one", "other"]) (B : Blt mg) : OkF P w K mg base CX0 1 "minus" ["one", "other"] (spII fun a b => a - b) := by
  refine D.ok sc_minus len2 (fun f cdv A outer s H vs Q E hr h => ?_)
  obtain ⟨_, _, rfl, a, b, rfl, rfl, ha, hb, q⟩ := h
  refine ⟨_, (pss_one (ps_ret (pe_op o_sub (pv 0) (pv 1)))), ?_⟩
  refine s_start (σ' := [some (.int a), some (.int b)]) rfl ?_
  walk_at "rd"
  exact q
theorem ok_times (D : DefAt K mg "times" s_times ["one", "other"]) (B : Blt mg) : OkF P w K mg base CX0 1 "times" ["one", "other"] (spII fun a b => a * b) := by
  refine D.ok sc_times len2 (fun f cdv A outer s H vs Q E hr h => ?_)
  obtain ⟨_, _, rfl, a, b, rfl, rfl, ha, hb, q⟩ := h
  refine ⟨_, (pss_one (ps_ret (pe_op o_mulA (pv 0) (pv 1)))), ?_⟩
  refine s_start (σ' := [some (.int a), some (.int b)]) rfl ?_
  walk_at "rd"
  refine s_mulW (sm_mulW ha hb) ?_
  exact q
theorem ok_less (D : DefAt K mg "less" s_less ["one", "other"]) (B : Blt mg) : OkF P w K mg base CX0 1 "less" ["one", "other"] (spII fun a b => b01 (decide (a < b))) := by
  refine D.ok sc_less len2 (fun f cdv A outer s H vs Q E hr h => ?_)
  obtain ⟨_, _, rfl, a, b, rfl, rfl, ha, hb, q⟩ := h
  refine ⟨_, (pss_one (ps_ret (pe_callTy call_intU (by rfl) B.int (by decide +kernel) (pa_cons (pe_cmpR o_lt (pv 0) (pv 1) (nomark _)) pa_nil)))), ?_⟩
  refine s_start (σ' := [some (.int a), some (.int b)]) rfl ?_
  walk_at "rd"
  exact q
theorem ok_psame (D : DefAt K mg "same" s_same ["one", "other"]) (B : Blt mg) : OkF P w K mg base CX0 1 "same" ["one", "other"] (spII fun a b => b01 (decide (a = b))) := by
  refine D.ok sc_same len2 (fun f cdv A outer s H vs Q E hr h => ?_)
  obtain ⟨_, _, rfl, a, b, rfl, rfl, ha, hb, q⟩ := h
  refine ⟨_, (pss_one (ps_ret (pe_callTy call_intU (by rfl) B.int (by decide +kernel) (pa_cons (pe_cmpR (o_eq (K := K) hr.units) (pv 0) (pv 1) (nomark _)) pa_nil)))), ?_⟩
  refine s_start (σ' := [some (.int a), some (.int b)]) rfl ?_
  walk_at "rd"
  exact q
theorem ok_both (D : DefAt K mg "both" s_both ["one", "other"]) (B : Blt mg) : OkF P w K mg base CX0 1 "both" ["one", "other"] (spII fun a b => b01 (decide (a ≠ 0 ∧ b ≠ 0))) := by
  refine D.ok sc_both len2 (fun f cdv A outer s H vs Q E hr h => ?_)
  obtain ⟨_, _, rfl, a, b, rfl, rfl, ha, hb, q⟩ := h
  refine ⟨_, (pss_one (ps_ret (pe_callTy call_intU (by rfl) B.int (by decide +kernel) (pa_cons (pe_and (pe_cmpR (o_ne (K := K) hr.units) (pv 0) pe_int (nomark _)) (pe_one (pe_cmpR (o_ne (K := K) hr.units) (pv 1) pe_int (nomark _)))) pa_nil)))), ?_⟩
  refine s_start (σ' := [some (.int a), some (.int b)]) rfl ?_
  walk_at "rd"
  refine brN (fun z1 => ?_) (fun z1 => ?_)
  · walk_at "rd"
    have e1 : a ≠ 0 := z1
    rw [show (!decide (b = 0)) = decide (a ≠ 0 ∧ b ≠ 0) by by_cases z : b = 0 <;> simp [z, e1]]
    exact q
  · walk_at "rd"
    have e1 : a = 0 := z1
    rw [show false = decide (a ≠ 0 ∧ b ≠ 0) by simp [e1]]
    exact q
theorem ok_either (D : DefAt K mg "either" s_either ["one", "other"]) (B : Blt mg) : OkF P w K mg base CX0 1 "either" ["one", "other"] (spII fun a b => b01 (decide (a ≠ 0 ∨ b ≠ 0))) := by
  refine D.ok sc_either len2 (fun f cdv A outer s H vs Q E hr h => ?_)
  obtain ⟨_, _, rfl, a, b, rfl, rfl, ha, hb, q⟩ := h
  refine ⟨_, (pss_one (ps_ret (pe_callTy call_intU (by rfl) B.int (by decide +kernel) (pa_cons (pe_or (pe_cmpR (o_ne (K := K) hr.units) (pv 0) pe_int (nomark _)) (pe_one (pe_cmpR (o_ne (K := K) hr.units) (pv 1) pe_int (nomark _)))) pa_nil)))), ?_⟩
  refine s_start (σ' := [some (.int a), some (.int b)]) rfl ?_
  walk_at "rd"
  refine brN (fun z1 => ?_) (fun z1 => ?_)
  · walk_at "rd"
    have e1 : a ≠ 0 := z1
    refine (show b01 (decide (a ≠ 0 ∨ b ≠ 0)) = 1 by simp [e1, b01]) ▸ q
  · walk_at "rd"
    have e1 : a = 0 := z1
    rw [show (!decide (b = 0)) = decide (a ≠ 0 ∨ b ≠ 0) by by_cases z : b = 0 <;> simp [z, e1]]
    exact q
structure OpsAt (P : Program) (w : World) (K : PySem.W.Frag) (mg : Str → Option Value) (base : Heap) (aP aB : Addr) : Prop where
  gP : mg "PLAIN" = some (.ref aP)
  gB : mg "BOUNDED" = some (.ref aB)
  no : ∀ x ∈ twoL, KHas K w aP x (decide (x ∈ (["<", "=", "and", "or"] : List Str)))
  nb : ∀ x ∈ twoL, KHas K w aB x (decide (x ∈ (["+", "-", "*"] : List Str)))
  lt : ∃ f, KDct K w aP "<" (.ref f) ∧ Held P w K mg base 1 f (spII fun a b => b01 (decide (a < b)))
  eq : ∃ f, KDct K w aP "=" (.ref f) ∧ Held P w K mg base 1 f (spII fun a b => b01 (decide (a = b)))
  an : ∃ f, KDct K w aP "and" (.ref f) ∧ Held P w K mg base 1 f (spII fun a b => b01 (decide (a ≠ 0 ∧ b ≠ 0)))
  or : ∃ f, KDct K w aP "or" (.ref f) ∧ Held P w K mg base 1 f (spII fun a b => b01 (decide (a ≠ 0 ∨ b ≠ 0)))
  pl : ∃ f, KDct K w aB "+" (.ref f) ∧ Held P w K mg base 1 f (spII fun a b => a + b)
  mi : ∃ f, KDct K w aB "-" (.ref f) ∧ Held P w K mg base 1 f (spII fun a b => a - b)
  ti : ∃ f, KDct K w aB "*" (.ref f) ∧ Held P w K mg base 1 f (spII fun a b => a * b)
theorem OpsAt.plain {aP aB : Addr} (O : OpsAt P w K mg base aP aB) {x : Str} (h : x ∈ (["<", "=", "and", "or"] : List Str)) : ∃ f g, KDct K w aP x (.ref f) ∧ Held P w K mg base 1 f (spII g) ∧ ∀ a b, pairV x a b = .ok (g a b) := by
  simp only [List.mem_cons, List.not_mem_nil, or_false] at h
  rcases h with rfl | rfl | rfl | rfl
  · obtain ⟨f, h1, h2⟩ := O.lt
    exact ⟨f, _, h1, h2, fun a b => rfl⟩
  · obtain ⟨f, h1, h2⟩ := O.eq
    exact ⟨f, _, h1, h2, fun a b => rfl⟩
  · obtain ⟨f, h1, h2⟩ := O.an
    exact ⟨f, _, h1, h2, fun a b => rfl⟩
  · obtain ⟨f, h1, h2⟩ := O.or
    exact ⟨f, _, h1, h2, fun a b => rfl⟩
theorem OpsAt.bounded {aP aB : Addr} (O : OpsAt P w K mg base aP aB) {x : Str} (h : x ∈ (["+", "-", "*"] : List Str)) : ∃ f g, KDct K w aB x (.ref f) ∧ Held P w K mg base 1 f (spII g) ∧ ∀ a b, pairV x a b = bnd (g a b) := by
  simp only [List.mem_cons, List.not_mem_nil, or_false] at h
  rcases h with rfl | rfl | rfl
  · obtain ⟨f, h1, h2⟩ := O.pl
    exact ⟨f, _, h1, h2, fun a b => rfl⟩
  · obtain ⟨f, h1, h2⟩ := O.mi
    exact ⟨f, _, h1, h2, fun a b => rfl⟩
  · obtain ⟨f, h1, h2⟩ := O.ti
    exact ⟨f, _, h1, h2, fun a b => rfl⟩
theorem two_rest : ∀ x ∈ twoL, x ∉ (["<", "=", "and", "or"] : List Str) → x ∉ (["+", "-", "*"] : List Str) → x = Str.ofString "div" ∨ x = Str.ofString "mod" := by decide +kernel
theorem ok_paired {a_PLAIN a_BOUNDED : Addr} (D : DefAt K mg "paired" s_paired ["word", "one", "other"]) (B : Blt mg) (O : OpsAt P w K mg base a_PLAIN a_BOUNDED) {t_G t_TG t_N : Tok} (C_GREAT : mg "GREAT" = some (.int 1000000000000 t_G)) (C_TOO_GREAT : mg "TOO_GREAT" = some (.int (-3) t_TG)) (C_NOUGHT : mg "NOUGHT" = some (.int (-1) t_N)) :
    OkF P w K mg base CX0 2 "paired" ["word", "one", "other"] (spPaired K) := by
  have C_PLAIN := O.gP
  have C_BOUNDED := O.gB
  refine D.ok sc_paired len3 (fun f cdv A outer s H vs Q E hr h => ?_)
  obtain ⟨_, _, _, rfl, x, a, b, rfl, rfl, rfl, hx, ha, hb, q⟩ := h
  refine ⟨_, (pss_cons (ps_if (pt_cmpR (o_inA (K := K) (w := w) (Room.un65 hr)) (pv 0) (pe_glob (v := .ref a_PLAIN) (by rfl) C_PLAIN rfl) (by with_unfolding_all rfl)) (pss_cons (ps_set (i := 3) sc_paired.nd rfl (by first | exact .inl rfl | exact .inr rfl) (pe_ix (u_ixA (K := K) (w := w) hr.units) (pe_glob (v := .ref a_PLAIN) (by rfl) C_PLAIN rfl) (pv 0) (fun _ _ => rfl)))
    (pss_one (ps_ret (pe_tup (pa_cons (pe_callH (P := P) (w := w) (K := K) (mg := mg) (base := base) (k := 1) (i := 3) (hr.mono (by omega)) rfl (by first | exact Or.inl rfl | exact Or.inr (Or.inl rfl) | exact Or.inr (Or.inr rfl)) (pa_cons (pv 1) (pa_cons (pv 2) pa_nil))) (pa_cons pe_non pa_nil)))))) pss_nil)
    (pss_cons (ps_if (pt_cmpR (o_inA (K := K) (w := w) (Room.un65 hr)) (pv 0) (pe_glob (v := .ref a_BOUNDED) (by rfl) C_BOUNDED rfl) (by with_unfolding_all rfl)) (pss_cons (ps_set (i := 3) sc_paired.nd rfl (by first | exact .inl rfl | exact .inr rfl) (pe_ix (u_ixA (K := K) (w := w) hr.units) (pe_glob (v := .ref a_BOUNDED) (by rfl) C_BOUNDED rfl) (pv 0) (fun _ _ => rfl)))
    (pss_cons (ps_set (i := 4) sc_paired.nd rfl (by first | exact .inl rfl | exact .inr rfl) (pe_callH (P := P) (w := w) (K := K) (mg := mg) (base := base) (k := 1) (i := 3) (hr.mono (by omega)) rfl (by first | exact Or.inl rfl | exact Or.inr (Or.inl rfl) | exact Or.inr (Or.inr rfl)) (pa_cons (pv 1) (pa_cons (pv 2) pa_nil))))
    (pss_one (ps_ret (pe_ifExp (pt_chain o_lt o_lt (pe_un un_neg (pe_glob (v := .int (1000000000000)) (by rfl) C_GREAT ⟨_, rfl⟩)) (pv 4) (pe_glob (v := .int (1000000000000)) (by rfl) C_GREAT ⟨_, rfl⟩)) (pe_tup (pa_cons (pv 4) (pa_cons pe_non pa_nil))) (pe_tup (pa_cons pe_non (pa_cons (pe_glob (v := .int (-3)) (by rfl) C_TOO_GREAT ⟨_, rfl⟩) pa_nil)))))))) pss_nil)
    (pss_cons (ps_if (pt_cmpR (o_eqA (K := K) hr.units) (pv 2) pe_int (nomark _)) (pss_one (ps_ret (pe_tup (pa_cons pe_non (pa_cons (pe_glob (v := .int (-1)) (by rfl) C_NOUGHT ⟨_, rfl⟩) pa_nil))))) pss_nil)
    (pss_one (ps_ret (pe_tup (pa_cons (pe_ifExp (pt_cmpR (o_eqA (K := K) hr.units) (pv 0) pe_str (nomark _)) (pe_op o_divA (pv 1) (pv 2)) (pe_op o_mod (pv 1) (pv 2))) (pa_cons pe_non pa_nil)))))))), ?_⟩
  refine s_start (σ' := [some (.str x), some (.int a), some (.int b), none, none]) rfl ?_
  walk_at "rd"
  refine s_inK (O.no x hx) ?_
  walk_at "rd"
  refine br (fun h1 => ?_) (fun h1 => ?_)
  · obtain ⟨f, g, k1, k2, k3⟩ := O.plain h1
    walk_at "rd"
    refine s_ixK k1 ?_
    walk_at "rd"
    refine ⟨a, b, rfl, rfl, ha, hb, ?_⟩
    walk_at "rd"
    intro l nl
    refine q _ _ (same_upd nl) ?_
    rw [k3]
    exact .tup (SqT.of upd_same) (.cons (.int _) (.cons .non .nil))
  · walk_at "rd"
    refine s_inK (O.nb x hx) ?_
    walk_at "rd"
    refine br (fun h2 => ?_) (fun h2 => ?_)
    · obtain ⟨f, g, k1, k2, k3⟩ := O.bounded h2
      walk_at "rd"
      refine s_ixK k1 ?_
      walk_at "rd"
      refine ⟨a, b, rfl, rfl, ha, hb, ?_⟩
      walk_at "rd"
      have e : ∀ b1 b2 : Prop, [Decidable b1] → [Decidable b2] → True := fun _ _ _ _ => trivial
      have fin : ∀ H1 v, Same H H1 → Dp K H1 v (dRes (bnd (g a b))) → Q v H1 := fun H1 v s1 hd => q H1 v s1 (by rw [k3]; exact hd)
      unfold bnd at fin
      refine br (fun h3 => ?_) (fun h3 => ?_)
      · walk_at "rd"
        refine br (fun h4 => ?_) (fun h4 => ?_)
        · walk_at "rd"
          intro l nl
          refine fin _ _ (same_upd nl) ?_
          rw [if_pos ⟨h3, h4⟩]
          exact .tup (SqT.of upd_same) (.cons (.int _) (.cons .non .nil))
        · walk_at "rd"
          intro l nl
          refine fin _ _ (same_upd nl) ?_
          rw [if_neg fun z => h4 z.2]
          exact .tup (SqT.of upd_same) (.cons .non (.cons (.int _) .nil))
      · walk_at "rd"
        intro l nl
        refine fin _ _ (same_upd nl) ?_
        rw [if_neg fun z => h3 z.1]
        exact .tup (SqT.of upd_same) (.cons .non (.cons (.int _) .nil))
    · have hw := two_rest x hx h1 h2
      walk_at "rd"
      refine br (fun h3 => ?_) (fun h3 => ?_)
      · have e0 : b = 0 := h3
        walk_at "rd"
        intro l nl
        refine q _ _ (same_upd nl) ?_
        rw [show pairV x a b = .error (-1) by rcases hw with rfl | rfl <;> (rw [e0]; rfl)]
        exact .tup (SqT.of upd_same) (.cons .non (.cons (.int _) .nil))
      · have e0 : b ≠ 0 := h3
        walk_at "rd"
        rcases hw with rfl | rfl
        · refine iteT ?_
          walk_at "rd"
          refine s_divW (sm_divV hb e0) ?_
          walk_at "rd"
          intro l nl
          refine q _ _ (same_upd nl) ?_
          rw [pairV_div e0]
          exact .tup (SqT.of upd_same) (.cons (.int _) (.cons .non .nil))
        · refine iteF ?_
          walk_at "rd"
          refine s_mod e0 ?_
          walk_at "rd"
          intro l nl
          refine q _ _ (same_upd nl) ?_
          rw [pairV_mod e0]
          exact .tup (SqT.of upd_same) (.cons (.int _) (.cons .non .nil))
theorem ok_rkinit {c_Reckoner : Addr} (D : MakAt K mg "Reckoner" c_Reckoner "Reckoner.__init__" s_Reckoner___init__ ["self", "names", "cells"]) (Z : ClsF K c_Reckoner ["worths", "rooms", "seen"]) : MakF P w K mg base CX0 1 "Reckoner" c_Reckoner ["self", "names", "cells"] [] (spRkInit c_Reckoner) := by
  refine D.ok sc_Reckoner___init__ len3 (fun f cdv A outer s H vs Q E hr h => ?_)
  obtain ⟨_, n, c, rfl, me, dx, rfl, hme, q⟩ := h
  refine ⟨_, (pss_cons (u_setF (K := K) (pv 0) (pv 1))
    (pss_cons (u_setF (K := K) (pv 0) (pv 2))
    (pss_one (u_setF (K := K) (pv 0) (pe_lst pa_nil))))), ?_⟩
  refine s_start (σ' := [some (.ref me), some (n), some (c)]) rfl ?_
  walk_at "rd"
  intro l nl
  have n1 : l ≠ me := fun z => by rw [z, upd_same] at nl; cases nl
  walk_at "rd"
  refine q _ l (fun b o h1 h2 => ?_) ?_ upd_same (by rw [upd_ne n1, upd_same])
  · rw [upd_ne h1]
    refine same_upd nl _ _ ?_
    rw [upd_ne h1, upd_ne h1]
    exact h2
  · rw [upd_ne n1, upd_ne n1] at nl
    exact nl
theorem ok_saw {c_Reckoner : Addr} (D : MetAt K c_Reckoner "saw" "Reckoner.saw" s_Reckoner_saw ["self", "place"]) (Z : ClsF K c_Reckoner ["worths", "rooms", "seen"]) : MetF P w K mg base CX0 1 c_Reckoner "saw" ["self", "place"] [] (sp2 (pSaw K c_Reckoner)) := by
  refine D.ok sc_Reckoner_saw len2 (fun f cdv A outer s H vs Q E hr h => ?_)
  obtain ⟨_, plv, rfl, me, dx, W, R, S, kvs, cs, vs, ps, p, rfl, rk, hp, po, hl, q⟩ := h
  have h1 := rk.o
  have h2 := rk.s
  refine ⟨_, (pss_one (ps_if (pt_cmpR (o_notInA (K := K) (w := w) (Room.un65 hr)) (pv 1) (u_fld (K := K) (pv 0)) (by with_unfolding_all rfl)) (pss_one (ps_expr (u_bm (K := K) PySem.F.plainAttrs_list PySem.F.slot_list_append PySem.F.type_list_append mt_append (u_fld (K := K) (pv 0)) (pa_cons (pv 1) pa_nil)))) pss_nil)), ?_⟩
  refine s_start (σ' := [some (.ref me), some (plv)]) rfl ?_
  walk_at "rd"
  refine s_notInDeep hp (.lst (SqL.of h2) rk.sp) (OkS.shaped (okS_plc po 0) (by decide)) (OkS.shaped (okS_plcs rk.po (by omega) 0) (by decide)) ?_
  rw [any_plc]
  walk_at "rd"
  unfold see at q
  refine brN (fun z => ?_) (fun z => ?_)
  · rw [if_neg z] at q
    walk_at "rd"
    refine s_append h2 (by rw [rk.len]; exact Nat.lt_trans hl (by decide)) ?_
    walk_at "rd"
    refine q _ _ Keep.upd (rk.to Keep.upd upd_same ?_ ?_)
    · rw [List.map_append]
      exact DpAll.keepL Keep.upd h2 (show noLAll (ps.map dPlc ++ [p].map dPlc) = true by rw [← List.map_append]; exact plcs_noL _) (DpAll.snoc hp rk.sp)
    · intro u hu
      rcases List.mem_append.mp hu with hu | hu
      · exact rk.po u hu
      · rw [List.mem_singleton.mp hu]
        exact po
  · rw [if_pos z] at q
    walk_at "rd"
    exact q _ _ (Keep.refl _ _) rk
theorem ok_cell {c_Reckoner : Addr} (D : MetAt K c_Reckoner "at_cell" "Reckoner.at_cell" s_Reckoner_at_cell ["self", "number"]) (Z : ClsF K c_Reckoner ["worths", "rooms", "seen"]) {t_C t_N : Tok} (C_CELLS : mg "CELLS" = some (.int 16 t_C)) (C_NO_CELL : mg "NO_CELL" = some (.int (-2) t_N))
    (G_Reckoner_saw : MetF P w K mg base CX0 1 c_Reckoner "saw" ["self", "place"] [] (sp2 (pSaw K c_Reckoner))) : MetF P w K mg base CX0 2 c_Reckoner "at_cell" ["self", "number"] [] (sp2 (pCell K c_Reckoner)) := by
  refine D.ok sc_Reckoner_at_cell len2 (fun f cdv A outer s H vs Q E hr h => ?_)
  obtain ⟨_, _, rfl, me, dx, W, R, S, kvs, cs, vs, ps, i, rfl, rfl, rk, hl, q⟩ := h
  have h1 := rk.o
  refine ⟨_, (pss_cons (ps_if (pt_not (pt_chain o_le o_lt pe_int (pv 1) (pe_glob (v := .int 16) (by rfl) C_CELLS ⟨_, rfl⟩))) (pss_one (ps_ret (pe_tup (pa_cons pe_non (pa_cons (pe_glob (v := .int (-2)) (by rfl) C_NO_CELL ⟨_, rfl⟩) pa_nil))))) pss_nil)
    (pss_cons (ps_expr (u_meth G_Reckoner_saw (hr.mono (by omega)) pass0 (pv 0) (pa_cons (pe_tup (pa_cons pe_str (pa_cons (pv 1) pa_nil))) pa_nil)))
    (pss_one (ps_ret (pe_tup (pa_cons (pe_ix (u_ixA (K := K) (w := w) hr.units) (u_fld (K := K) (pv 0)) (pv 1) (fun _ _ => rfl)) (pa_cons pe_non pa_nil))))))), ?_⟩
  refine s_start (σ' := [some (.ref me), some (.int i)]) rfl ?_
  walk_at "rd"
  have no : ¬ (0 ≤ i ∧ i < 16) → ∀ H', Same H H' → ∀ v, Dp K H' v (.tuple [.none, .int (-2)]) → Q v H' := fun z H' s1 v hv => by
    refine q H' v vs (Same.keep s1) ?_ ?_
    · rw [show oneS (Str.ofString "at") i = [] from if_neg fun y => z y.2]
      exact rk.same s1
    · rw [show oneV cs (Str.ofString "at") i = .error (-2) by unfold oneV; rw [if_pos rfl, if_neg z]]
      exact hv
  refine br (fun b1 => ?_) (fun b1 => ?_)
  · walk_at "rd"
    refine brN (fun b2 => ?_) (fun b2 => ?_)
    · walk_at "rd"
      intro l nl
      exact no (fun z => b2 z.2) _ (same_upd nl) _ (.tup (SqT.of upd_same) (.cons .non (.cons (.int _) .nil)))
    · walk_at "rd"
      intro l nl
      have s1 := same_upd (o := .tup [.str "cell", .int i]) nl
      have e1 : oneS (Str.ofString "at") i = [.cell i.toNat] := if_pos ⟨rfl, b1, b2⟩
      walk_at "rd"
      refine ⟨me, dx, W, R, S, kvs, cs, vs, ps, .cell i.toNat, rfl, rk.same s1, ?_, trivial, hl, fun H2 vs2 k2 rk2 => ?_⟩
      · have := Dp.tup (K := K) (H := upd H l (.tup [.str "cell", .int i])) (SqT.of upd_same) (.cons (.str "cell") (.cons (.int i) .nil))
        rw [show dPlc (.cell i.toNat) = .tuple [.str "cell", .int i] by
          show PyData.tuple [.str "cell", .int (i.toNat : Int)] = _
          rw [Int.toNat_of_nonneg b1]]
        exact this
      have h3 := rk2.o
      have h4 := rk2.r
      walk_at "rd"
      have h5 : i.toNat < cs.length := by have := rk.cl; omega
      refine s_ixA (s_ixL (SqL.of h4) (at_of (j := i.toNat) (v := .int (cs.getD i.toNat 0)) (by omega) ?_) ?_)
      · rw [List.getElem?_map, List.getD_eq_getElem?_getD, List.getElem?_eq_getElem h5]
        rfl
      walk_at "rd"
      intro l2 nl2
      have s2 := same_upd (o := .tup [.int (cs.getD i.toNat 0), .non]) nl2
      refine q _ _ vs2 (((Same.keep s1).trans k2).trans (Same.keep s2)) (by rw [e1]; exact rk2.same s2) ?_
      rw [show oneV cs (Str.ofString "at") i = .ok (cs.getD i.toNat 0) by unfold oneV; rw [if_pos rfl, if_pos ⟨b1, b2⟩]]
      exact .tup (SqT.of upd_same) (.cons (.int _) (.cons .non .nil))
  · walk_at "rd"
    intro l nl
    exact no (fun z => b1 z.1) _ (same_upd nl) _ (.tup (SqT.of upd_same) (.cons .non (.cons (.int _) .nil)))
end
end L2.U
namespace L2.U
open PySem PySem.Spec PyProof.Rows RZ TL
section
variable {P : Program} {w : World} {K : PySem.W.Frag} {mg : Str → Option Value} {base : Heap}
local macro_rules | `(tactic| walk_at "hq") => `(tactic| with_reducible first
  | assumption
  | exact upd_same
  | (refine Same.get (by assumption) ?_; walk_at "hq"))
local macro_rules | `(tactic| walk_at "ne") => `(tactic| with_reducible first
  | assumption
  | (refine Ne.symm ?_; assumption)
  | (refine ne_of_none ?_ (by assumption); walk_at "hq")
  | (refine Ne.symm ?_; refine ne_of_none ?_ (by assumption); walk_at "hq"))
local macro_rules | `(tactic| walk_at "hp") => `(tactic| with_reducible first
  | assumption
  | exact upd_same
  | (refine upd_get (by walk_at "ne") ?_; walk_at "hp")
  | (refine Same.get (by assumption) ?_; walk_at "hp")
  | (refine Keep.get (by assumption) (by walk_at "ne") ?_; walk_at "hp"))
local macro_rules | `(tactic| walk_at "st") => `(tactic| with_reducible first
  | assumption
  | exact SqT.of (by walk_at "hp")
  | (refine Same.sqT (by assumption) ?_; walk_at "st"))
local macro_rules | `(tactic| walk_at "look") => `(tactic| with_reducible first | exact look_0 | exact look_1 (by decide +kernel) | exact look_2 (by decide +kernel) (by decide +kernel) | exact look_3 (by decide +kernel) (by decide +kernel) (by decide +kernel) | exact look_4 (by decide +kernel) (by decide +kernel) (by decide +kernel) (by decide +kernel) | exact look_5 (by decide +kernel) (by decide +kernel) (by decide +kernel) (by decide +kernel) (by decide +kernel) | exact look_6 (by decide +kernel) (by decide +kernel) (by decide +kernel) (by decide +kernel) (by decide +kernel) (by decide +kernel) | exact look_7 (by decide +kernel) (by decide +kernel) (by decide +kernel) (by decide +kernel) (by decide +kernel) (by decide +kernel) (by decide +kernel) | exact look_8 (by decide +kernel) (by decide +kernel) (by decide +kernel) (by decide +kernel) (by decide +kernel) (by decide +kernel) (by decide +kernel) (by decide +kernel) | exact look_9 (by decide +kernel) (by decide +kernel) (by decide +kernel) (by decide +kernel) (by decide +kernel) (by decide +kernel) (by decide +kernel) (by decide +kernel) (by decide +kernel))
local macro_rules | `(tactic| walk_at "put") => `(tactic| with_reducible first | exact put_0 | exact new_0 | exact put_1 (by decide +kernel) | exact new_1 (by decide +kernel) | exact put_2 (by decide +kernel) (by decide +kernel) | exact new_2 (by decide +kernel) (by decide +kernel) | exact put_3 (by decide +kernel) (by decide +kernel) (by decide +kernel) | exact new_3 (by decide +kernel) (by decide +kernel) (by decide +kernel) | exact put_4 (by decide +kernel) (by decide +kernel) (by decide +kernel) (by decide +kernel) | exact new_4 (by decide +kernel) (by decide +kernel) (by decide +kernel) (by decide +kernel) | exact put_5 (by decide +kernel) (by decide +kernel) (by decide +kernel) (by decide +kernel) (by decide +kernel) | exact new_5 (by decide +kernel) (by decide +kernel) (by decide +kernel) (by decide +kernel) (by decide +kernel) | exact put_6 (by decide +kernel) (by decide +kernel) (by decide +kernel) (by decide +kernel) (by decide +kernel) (by decide +kernel) | exact new_6 (by decide +kernel) (by decide +kernel) (by decide +kernel) (by decide +kernel) (by decide +kernel) (by decide +kernel) | exact put_7 (by decide +kernel) (by decide +kernel) (by decide +kernel) (by decide +kernel) (by decide +kernel) (by decide +kernel) (by decide +kernel) | exact new_7 (by decide +kernel) (by decide +kernel) (by decide +kernel) (by decide +kernel) (by decide +kernel) (by decide +kernel) (by decide +kernel) | exact put_8 (by decide +kernel) (by decide +kernel) (by decide +kernel) (by decide +kernel) (by decide +kernel) (by decide +kernel) (by decide +kernel) (by decide +kernel) | exact new_8 (by decide +kernel) (by decide +kernel) (by decide +kernel) (by decide +kernel) (by decide +kernel) (by decide +kernel) (by decide +kernel) (by decide +kernel) | exact put_9 (by decide +kernel) (by decide +kernel) (by decide +kernel) (by decide +kernel) (by decide +kernel) (by decide +kernel) (by decide +kernel) (by decide +kernel) (by decide +kernel) | exact new_9 (by decide +kernel) (by decide +kernel) (by decide +kernel) (by decide +kernel) (by decide +kernel) (by decide +kernel) (by decide +kernel) (by decide +kernel) (by decide +kernel))
local macro_rules | `(tactic| walk_at "nol") => `(tactic| with_reducible first | exact nol_0 | exact nol_1 (by decide +kernel) | exact nol_2 (by decide +kernel) (by decide +kernel) | exact nol_3 (by decide +kernel) (by decide +kernel) (by decide +kernel) | exact nol_4 (by decide +kernel) (by decide +kernel) (by decide +kernel) (by decide +kernel) | exact nol_5 (by decide +kernel) (by decide +kernel) (by decide +kernel) (by decide +kernel) (by decide +kernel) | exact nol_6 (by decide +kernel) (by decide +kernel) (by decide +kernel) (by decide +kernel) (by decide +kernel) (by decide +kernel) | exact nol_7 (by decide +kernel) (by decide +kernel) (by decide +kernel) (by decide +kernel) (by decide +kernel) (by decide +kernel) (by decide +kernel) | exact nol_8 (by decide +kernel) (by decide +kernel) (by decide +kernel) (by decide +kernel) (by decide +kernel) (by decide +kernel) (by decide +kernel) (by decide +kernel) | exact nol_9 (by decide +kernel) (by decide +kernel) (by decide +kernel) (by decide +kernel) (by decide +kernel) (by decide +kernel) (by decide +kernel) (by decide +kernel) (by decide +kernel) | exact nol_10 (by decide +kernel) (by decide +kernel) (by decide +kernel) (by decide +kernel) (by decide +kernel) (by decide +kernel) (by decide +kernel) (by decide +kernel) (by decide +kernel) (by decide +kernel))
local macro_rules | `(tactic| walk_at "at") => `(tactic| with_reducible first | exact atI_0 _ _ | exact atI_1 | exact atI_2 | exact atI_3)
local macro_rules | `(tactic| walk_at "ixn") => `(tactic| with_reducible first | exact ixL_0 | exact ixL_1 | exact ixL_2 | exact ixL_3 | exact ixL_4 | exact ixL_5)
local macro_rules | `(tactic| walk_at "auto") => `(tactic| with_reducible first
  | (apply f_sz; (with_unfolding_all exact rfl))
  | (apply brT; (first | exact rfl | decide +kernel))
  | (apply brF; (decide +kernel))
  | (apply brNT; (first | exact rfl | decide +kernel))
  | (apply brNF; (decide +kernel))
  | (apply f_fld; (walk_at "hp"); (assumption); (simp); (walk_at "look"))
  | (apply f_setF; (walk_at "hp"); (assumption); (simp); (with_unfolding_all exact Nat.le_of_ble_eq_true rfl); (walk_at "put"))
  | (apply f_meth; (walk_at "hp"); (walk_at "nol"))
  | (apply s_callH; (with_unfolding_all exact rfl); (assumption))
  | (apply f_ixL; (walk_at "hp"); (walk_at "at"))
  | (apply f_ixLA; (walk_at "hp"); (walk_at "at"))
  | (apply s_ixT; (walk_at "st"); (walk_at "at"))
  | (apply f_ixTA; (walk_at "st"); (walk_at "at"))
  | (apply f_setL; (walk_at "hp"); (walk_at "ixn"); (exact inferInstance))
  | (apply f_setLA; (walk_at "hp"); (walk_at "ixn"); (exact inferInstance))
  | (apply f_lenL; (walk_at "hp"))
  | (apply f_tyL; (walk_at "hp")))
local macro_rules | `(tactic| walk_at "rd") => `(tactic| repeat (first | with_reducible refine Stp.of ?_ | walk_at "auto"))
theorem ok_of {c_Reckoner : Addr} (D : MetAt K c_Reckoner "of" "Reckoner.of" s_Reckoner_of ["self", "tree"]) (Z : ClsF K c_Reckoner ["worths", "rooms", "seen"]) (B : Blt mg)
    (G_Reckoner_saw : MetF P w K mg base CX0 1 c_Reckoner "saw" ["self", "place"] [] (sp2 (pSaw K c_Reckoner))) (G_Reckoner_at_cell : MetF P w K mg base CX0 2 c_Reckoner "at_cell" ["self", "number"] [] (sp2 (pCell K c_Reckoner)))
    (G_paired : OkF P w K mg base CX0 2 "paired" ["word", "one", "other"] (spPaired K)) : ∀ n, MetF P w K mg base CX0 (n + 3) c_Reckoner "of" ["self", "tree"] [] (sp2 (pOf K c_Reckoner n)) := by
  intro n
  induction n with
  | zero =>
    refine D.okNo fun vs H Q E h => ?_
    obtain ⟨_, _, _, me, dx, W, R, S, kvs, cs, vs, ps, t, _, _, _, z, _⟩ := h
    exact absurd z (Nat.not_lt_zero _)
  | succ n G_Reckoner_of =>
  refine D.ok sc_Reckoner_of len2 (fun f cdv A outer s H vs Q E hr h => ?_)
  obtain ⟨_, tv, rfl, me, dx, W, R, S, kvs, cs, vs, ps, t, rfl, rk, ht, hd, ok, hl, q⟩ := h
  have h1 := rk.o
  refine ⟨_, (pss_cons (ps_asg (pv 1) (u_star (K := K) (n := 2) (i := 1) rfl (pgs_cons (pg_name (i := 2) sc_Reckoner_of.nd rfl (by first | exact .inl rfl | exact .inr rfl)) (pgs_star (pg_name (i := 3) sc_Reckoner_of.nd rfl (by first | exact .inl rfl | exact .inr rfl)) pgs_nil))))
    (pss_cons (ps_if (pt_cmpR (o_eqA (K := K) hr.units) (pv 2) pe_str (nomark _)) (pss_one (ps_ret (pe_tup (pa_cons (pe_ix (u_ixA (K := K) (w := w) hr.units) (pv 3) pe_int (fun _ _ => rfl)) (pa_cons pe_non pa_nil))))) pss_nil)
    (pss_cons (ps_if (pt_cmpR (o_eqA (K := K) hr.units) (pv 2) pe_str (nomark _)) (pss_cons (ps_expr (u_meth G_Reckoner_saw (hr.mono (by omega)) pass0 (pv 0) (pa_cons (pe_tup (pa_cons pe_str (pa_cons (pe_ix (u_ixA (K := K) (w := w) hr.units) (pv 3) pe_int (fun _ _ => rfl)) pa_nil))) pa_nil)))
    (pss_one (ps_ret (pe_tup (pa_cons (pe_dget2 (hu_of hr) (u_fld (K := K) (pv 0)) (pe_ix (u_ixA (K := K) (w := w) hr.units) (pv 3) pe_int (fun _ _ => rfl)) pe_int ⟨rfl, rfl, rfl, rfl⟩) (pa_cons pe_non pa_nil)))))) pss_nil)
    (pss_cons (ps_set (i := 4) sc_Reckoner_of.nd rfl (by first | exact .inl rfl | exact .inr rfl) (pe_lst pa_nil))
    (pss_cons (ps_for PassesOwn.never (by rfl) (u_iList (K := K) (pv 3)) (pg_name (i := 5) sc_Reckoner_of.nd rfl (by first | exact .inl rfl | exact .inr rfl)) (pss_cons (ps_asg (u_meth G_Reckoner_of (hr.mono (by omega)) pass0 (pv 0) (pa_cons (pv 5) pa_nil)) (u_tup (K := K) rfl (pgs_cons (pg_name (i := 6) sc_Reckoner_of.nd rfl (by first | exact .inl rfl | exact .inr rfl)) (pgs_cons (pg_name (i := 7) sc_Reckoner_of.nd rfl (by first | exact .inl rfl | exact .inr rfl)) pgs_nil))))
    (pss_cons (ps_if (pt_cmpR o_isNot (pv 7) pe_non (nomark _)) (pss_one (ps_ret (pe_tup (pa_cons pe_non (pa_cons (pv 7) pa_nil))))) pss_nil)
    (pss_one (ps_expr (u_bm (K := K) PySem.F.plainAttrs_list PySem.F.slot_list_append PySem.F.type_list_append mt_append (pv 4) (pa_cons (pv 6) pa_nil)))))))
    (pss_cons (ps_if (pt_cmpR (o_eqA (K := K) hr.units) (pv 2) pe_str (nomark _)) (pss_one (ps_ret (u_meth G_Reckoner_at_cell (hr.mono (by omega)) pass0 (pv 0) (pa_cons (pe_ix (u_ixA (K := K) (w := w) hr.units) (pv 4) pe_int (fun _ _ => rfl)) pa_nil)))) pss_nil)
    (pss_cons (ps_if (pt_cmpR (o_eqA (K := K) hr.units) (pv 2) pe_str (nomark _)) (pss_one (ps_ret (pe_tup (pa_cons (pe_callTy call_intU (by rfl) B.int (by decide +kernel) (pa_cons (pe_cmpR (o_eqA (K := K) hr.units) (pe_ix (u_ixA (K := K) (w := w) hr.units) (pv 4) pe_int (fun _ _ => rfl)) pe_int (nomark _)) pa_nil)) (pa_cons pe_non pa_nil))))) pss_nil)
    (pss_one (ps_ret (u_call G_paired (hr.mono (by omega)) pass0 (pa_cons (pv 2) (pa_cons (pe_ix (u_ixA (K := K) (w := w) hr.units) (pv 4) pe_int (fun _ _ => rfl)) (pa_cons (pe_ix (u_ixA (K := K) (w := w) hr.units) (pv 4) pe_int (fun _ _ => rfl)) pa_nil))))))))))))), ?_⟩
  refine s_start (σ' := [some (.ref me), some (tv), none, none, none, none, none, none]) rfl ?_
  walk_at "rd"
  rcases tr_kids t ok with ⟨m, rfl⟩ | ⟨x, rfl⟩ | ⟨x, ks, N⟩
  · obtain ⟨T, us, rfl, hT, hu⟩ := Dp.node_of ht
    obtain ⟨u, us, rfl, hu1, hu2⟩ := DpAll.cons_of hu
    cases hu2
    obtain rfl := Dp.int_of hu1
    refine s_gStar1 (.inr hT) (Nat.le_of_ble_eq_true rfl) fun l nl => ?_
    have s1 := same_upd (o := .lst [.int (m : Nat)]) nl
    walk_at "rd"
    intro l2 nl2
    have s2 := s1.trans (same_upd (o := .tup [.int (m : Nat), .non]) nl2)
    refine q _ _ vs (Same.keep s2) (rk.same s2) ?_
    exact .tup (SqT.of upd_same) (.cons (.int _) (.cons .non .nil))
  · obtain ⟨T, us, rfl, hT, hu⟩ := Dp.node_of ht
    obtain ⟨u, us, rfl, hu1, hu2⟩ := DpAll.cons_of hu
    cases hu2
    obtain rfl := Dp.str_of hu1
    refine s_gStar1 (.inr hT) (Nat.le_of_ble_eq_true rfl) fun l nl => ?_
    have s1 := same_upd (o := .lst [.str x]) nl
    walk_at "rd"
    intro l2 nl2
    have s2 := s1.trans (same_upd (o := .tup [.str "name", .str x]) nl2)
    walk_at "rd"
    refine ⟨me, dx, W, R, S, kvs, cs, vs, ps, .nm x, rfl, rk.same s2, .tup (SqT.of upd_same) (.cons (.str _) (.cons (.str _) .nil)), (isNm_len ok).2.2.2, by simp only [tw, List.length_singleton] at hl; omega, fun H3 vs3 k3 rk3 => ?_⟩
    have hS : l ≠ S := fun z => by rw [z, rk.s] at nl; cases nl
    have e3 : H3 l = some (.lst [.str x]) := k3 _ _ hS (same_upd nl2 _ _ upd_same)
    have h3 := rk3.o
    walk_at "rd"
    refine ⟨W, rfl, .inl ⟨kvs, .inl rk3.w⟩, ?_⟩
    walk_at "rd"
    refine ⟨_, DGet.k (k := Sum.inr x) rk3.w, ?_⟩
    rw [nvOf_get rk.ai]
    walk_at "rd"
    intro l4 nl4
    have s4 := same_upd (o := .tup [.int (nvOf kvs x), .non]) nl4
    exact q _ _ vs3 (((Same.keep s2).trans k3).trans (Same.keep s4)) (rk3.same s4) (.tup (SqT.of upd_same) (.cons (.int _) (.cons .non .nil)))
  · rw [N.d] at ht
    obtain ⟨T, us, rfl, hT, hu⟩ := Dp.node_of ht
    have ul : us.length = ks.length := by rw [DpAll.length hu, List.length_map]
    refine s_gStar1 (.inr hT) (by have := N.kl; omega) fun l nl => ?_
    have s1 := same_upd (o := .lst us) nl
    have hS : l ≠ S := fun z => by rw [z, rk.s] at nl; cases nl
    walk_at "rd"
    refine br (fun z => absurd (id z) N.n1) (fun _ => ?_)
    walk_at "rd"
    refine br (fun z => absurd (id z) N.n2) (fun _ => ?_)
    walk_at "rd"
    intro l2 nl2
    have s2 := s1.trans (same_upd (o := .lst []) nl2)
    have hS2 : l2 ≠ S := fun z => by rw [z, s1 _ _ rk.s] at nl2; cases nl2
    have hll : l ≠ l2 := fun z => by rw [← z, upd_same] at nl2; cases nl2
    have hu0 : DpAll K H us (ks.map dTr) := hu
    walk_at "rd"
    refine s_itL (xs := us) (SqL.of (by rw [upd_ne hll, upd_same])) ?_
    refine forB_list (xs := us) (fun i σ H' => ∃ a b c ws vs', σ = [some (.ref me), some (.ref T), some (.str x), some (.ref l), some (.ref l2), a, b, c] ∧ i ≤ ks.length ∧ valL (nvOf kvs) cs (ks.take i) = .ok ws ∧
      (∀ y, y ∈ [l, l2] → True) ∧ Keep S H H' ∧ H' l = some (.lst us) ∧ H' l2 = some (.lst (ws.map V.int)) ∧ ws.length = i ∧ RkSt K c_Reckoner H' me dx W R S kvs cs vs' (seeAll ps (visL (nvOf kvs) cs (ks.take i)))) ?_ ?_ ?_ ?_
    · exact ⟨none, none, none, [], vs, rfl, Nat.zero_le _, rfl, fun _ _ => trivial, Same.keep s2, by rw [upd_ne hll, upd_same], upd_same, rfl, rk.same s2⟩
    · rintro i σ H' hi ⟨a, b, c, ws, vs', rfl, hik, hv, _, k3, e1, e2, hwl, rk3⟩
      exact SqL.of e1
    · rintro i u σ H3 hi ⟨a, b, c, ws, vs', rfl, hik, hv, _, k3, e1, e2, hwl, rk3⟩
      obtain ⟨d, hd1, hd2⟩ := DpAll.get hu0 hi
      rw [List.getElem?_map] at hd1
      obtain ⟨k, hk, rfl⟩ := Option.map_eq_some_iff.mp hd1
      have hkm := List.mem_of_getElem? hk
      have h3 := rk3.o
      have tl1 := twsum_succ hk
      have tl2 := twsum_le ks (i + 1)
      have tl3 := N.tl
      have pl := seeAll_len (visL (nvOf kvs) cs (ks.take i)) ps
      have vl := visL_len (nvOf kvs) cs (ks.take i)
      walk_at "rd"
      refine ⟨me, dx, W, R, S, kvs, cs, vs', _, k, rfl, rk3, Dp.keepL k3 rk.s (dTr_noL k) hd2, by have := N.dp k hkm; omega, N.ok k hkm, ?_, fun H4 v4 vs4 k4 rk4 hv4 => ?_⟩
      · have : twsum ks i = ((ks.take i).map fun k => (tw k).length).sum := rfl
        omega
      have e14 := k4 _ _ hS e1
      have e24 := k4 _ _ hS2 e2
      cases e : val (nvOf kvs) cs k with
      | error f =>
        rw [e] at hv4
        obtain ⟨T4, us4, rfl, hT4, hu4⟩ := Dp.tup_of hv4
        obtain ⟨y1, us4, rfl, y1d, hu4⟩ := DpAll.cons_of hu4
        obtain ⟨y2, us4, rfl, y2d, hu4⟩ := DpAll.cons_of hu4
        cases hu4
        cases y1d
        obtain rfl := Dp.int_of y2d
        obtain ⟨b1, b2⟩ := valL_bad hv hk e
        refine s_gTup hT4 rfl ?_
        walk_at "rd"
        intro l5 nl5
        have s5 := same_upd (o := .tup [.non, .int f]) nl5
        have ev : val (nvOf kvs) cs t = .error f ∧ vis (nvOf kvs) cs t = visL (nvOf kvs) cs (ks.take i) ++ vis (nvOf kvs) cs k := kd_bad N b1 b2
        refine q _ _ vs4 ((k3.trans k4).trans (Same.keep s5)) ?_ ?_
        · rw [ev.2, seeAll_app]
          exact rk4.same s5
        · rw [ev.1]
          exact .tup (SqT.of upd_same) (.cons .non (.cons (.int _) .nil))
      | ok z =>
        rw [e] at hv4
        obtain ⟨T4, us4, rfl, hT4, hu4⟩ := Dp.tup_of hv4
        obtain ⟨y1, us4, rfl, y1d, hu4⟩ := DpAll.cons_of hu4
        obtain ⟨y2, us4, rfl, y2d, hu4⟩ := DpAll.cons_of hu4
        cases hu4
        obtain rfl := Dp.int_of y1d
        cases y2d
        obtain ⟨b1, b2⟩ := valL_ok hv hk e
        refine s_gTup hT4 rfl ?_
        walk_at "rd"
        refine s_append e24 (by rw [List.length_map]; have := N.kl; exact Nat.lt_of_le_of_lt (show ws.length ≤ 2 by omega) (by decide)) ?_
        have hi' : i + 1 ≤ ks.length := by
          have := List.getElem?_eq_some_iff.mp hk
          exact this.1
        walk_at "rd"
        have k5 : Keep l2 H4 (upd H4 l2 (.lst (ws.map V.int ++ [.int z]))) := Keep.upd
        refine ⟨_, _, _, ws ++ [z], vs4, rfl, hi', b1, fun _ _ => trivial, ?_, k5 _ _ hll e14, by rw [upd_same, List.map_append]; rfl, by rw [List.length_append, hwl]; rfl, ?_⟩
        · intro y o n1 e3
          by_cases n2 : y = l2
          · exact absurd n2 (ne_of_none (same_upd nl _ _ e3) nl2)
          · exact k5 _ _ n2 ((k3.trans k4) _ _ n1 e3)
        · rw [b2, seeAll_app]
          exact ⟨k5 _ _ (ne_of rk4.o e24 (fun z => by cases z)) rk4.o, k5 _ _ (ne_of rk4.w e24 (fun z => by cases z)) rk4.w, k5 _ _ (fun z => by rw [← z, s1 _ _ rk.r] at nl2; cases nl2) rk4.r, k5 _ _ hS2.symm rk4.s, DpAll.keepL k5 e24 (plcs_noL _) rk4.sp, rk4.ne, rk4.ai, rk4.cl, rk4.cm, rk4.po⟩
    · rintro σ H3 ⟨a, b, c, ws, vs', rfl, hik, hv, _, k3, e1, e2, hwl, rk3⟩
      rw [List.take_of_length_le (by omega)] at hv rk3
      have h3 := rk3.o
      have pl := seeAll_len (visL (nvOf kvs) cs ks) ps
      have vl := visL_len (nvOf kvs) cs ks
      have tl3 := N.tl
      rcases N.or with ⟨ka, rfl, rfl, hx⟩ | ⟨ka, kb, rfl, rfl, hx⟩
      · obtain ⟨z, rfl, ez⟩ : ∃ z, ws = [z] ∧ val (nvOf kvs) cs ka = .ok z := by
          unfold valL at hv
          cases e : val (nvOf kvs) cs ka with
          | error f => rw [e] at hv; cases hv
          | ok z =>
            rw [e] at hv
            cases hv
            exact ⟨z, rfl, rfl⟩
        simp only [List.map_cons, List.map_nil] at e2
        have ev : vis (nvOf kvs) cs (.one x ka) = visL (nvOf kvs) cs [ka] ++ oneS x z := by simp [vis, visL, ez]
        have ew : val (nvOf kvs) cs (.one x ka) = oneV cs x z := by simp [val, ez]
        rw [ev, ew, seeAll_app] at q
        simp only [oneL, List.mem_cons, List.not_mem_nil, or_false] at hx
        rcases hx with rfl | rfl
        · walk_at "rd"
          intro l5 nl5
          have s5 := same_upd (o := .tup [.int (if decide (z = 0) = true then 1 else 0), .non]) nl5
          refine q _ _ vs' (k3.trans (Same.keep s5)) (rk3.same s5) ?_
          rw [show oneV cs (Str.ofString "not") z = .ok (if decide (z = 0) = true then 1 else 0) by
            unfold oneV b01
            rw [if_neg (by decide +kernel)]]
          exact .tup (SqT.of upd_same) (.cons (.int _) (.cons .non .nil))
        · walk_at "rd"
          refine ⟨me, dx, W, R, S, kvs, cs, vs', _, z, rfl, rfl, rk3, ?_, fun H4 v4 vs4 k4 rk4 hv4 => ?_⟩
          · simp [twsum] at vl tl3 pl
            omega
          exact q _ _ vs4 (k3.trans k4) rk4 hv4
      · obtain ⟨z, u, rfl, ez, eu⟩ : ∃ z u, ws = [z, u] ∧ val (nvOf kvs) cs ka = .ok z ∧ val (nvOf kvs) cs kb = .ok u := by
          unfold valL valL at hv
          cases e : val (nvOf kvs) cs ka with
          | error f => rw [e] at hv; cases hv
          | ok z =>
            cases e2 : val (nvOf kvs) cs kb with
            | error f => rw [e, e2] at hv; cases hv
            | ok u =>
              rw [e, e2] at hv
              cases hv
              exact ⟨z, u, rfl, rfl, rfl⟩
        simp only [List.map_cons, List.map_nil] at e2
        have ev : vis (nvOf kvs) cs (.two x ka kb) = visL (nvOf kvs) cs [ka, kb] := by simp [vis, visL, ez, eu]
        have ew : val (nvOf kvs) cs (.two x ka kb) = pairV x z u := by simp [val, ez, eu]
        rw [ev, ew] at q
        have nx := one_two
        walk_at "rd"
        refine br (fun z => ?_) (fun _ => ?_)
        · cases z
          exact absurd hx (nx _ (by decide +kernel))
        walk_at "rd"
        refine br (fun z => ?_) (fun _ => ?_)
        · cases z
          exact absurd hx (nx _ (by decide +kernel))
        walk_at "rd"
        refine ⟨x, z, u, rfl, rfl, rfl, hx, ?_, ?_, fun H4 v4 s4 hv4 => ?_⟩
        · exact sm_val (nvOf_sm rk.ai) rk.cm ka z (N.ok _ (by simp)) ez
        · exact sm_val (nvOf_sm rk.ai) rk.cm kb u (N.ok _ (by simp)) eu
        · exact q _ _ vs' (k3.trans (Same.keep s4)) (rk3.same s4) hv4
end
end L2.U
namespace L2.U
open PySem PySem.Spec PyProof.Rows RZ TL
section
variable {P : Program} {w : World} {K : PySem.W.Frag} {mg : Str → Option Value} {base : Heap}
local macro_rules | `(tactic| walk_at "hq") => `(tactic| with_reducible first
  | assumption
  | exact upd_same
  | (refine Same.get (by assumption) ?_; walk_at "hq"))
local macro_rules | `(tactic| walk_at "ne") => `(tactic| with_reducible first
  | assumption
  | (refine Ne.symm ?_; assumption)
  | (refine ne_of_none ?_ (by assumption); walk_at "hq")
  | (refine Ne.symm ?_; refine ne_of_none ?_ (by assumption); walk_at "hq"))
local macro_rules | `(tactic| walk_at "hp") => `(tactic| with_reducible first
  | assumption
  | exact upd_same
  | (refine upd_get (by walk_at "ne") ?_; walk_at "hp")
  | (refine Same.get (by assumption) ?_; walk_at "hp")
  | (refine Keep.get (by assumption) (by walk_at "ne") ?_; walk_at "hp"))
local macro_rules | `(tactic| walk_at "st") => `(tactic| with_reducible first
  | assumption
  | exact SqT.of (by walk_at "hp")
  | (refine Same.sqT (by assumption) ?_; walk_at "st"))
local macro_rules | `(tactic| walk_at "look") => `(tactic| with_reducible first | exact look_0 | exact look_1 (by decide +kernel) | exact look_2 (by decide +kernel) (by decide +kernel) | exact look_3 (by decide +kernel) (by decide +kernel) (by decide +kernel) | exact look_4 (by decide +kernel) (by decide +kernel) (by decide +kernel) (by decide +kernel) | exact look_5 (by decide +kernel) (by decide +kernel) (by decide +kernel) (by decide +kernel) (by decide +kernel) | exact look_6 (by decide +kernel) (by decide +kernel) (by decide +kernel) (by decide +kernel) (by decide +kernel) (by decide +kernel) | exact look_7 (by decide +kernel) (by decide +kernel) (by decide +kernel) (by decide +kernel) (by decide +kernel) (by decide +kernel) (by decide +kernel) | exact look_8 (by decide +kernel) (by decide +kernel) (by decide +kernel) (by decide +kernel) (by decide +kernel) (by decide +kernel) (by decide +kernel) (by decide +kernel) | exact look_9 (by decide +kernel) (by decide +kernel) (by decide +kernel) (by decide +kernel) (by decide +kernel) (by decide +kernel) (by decide +kernel) (by decide +kernel) (by decide +kernel))
local macro_rules | `(tactic| walk_at "put") => `(tactic| with_reducible first | exact put_0 | exact new_0 | exact put_1 (by decide +kernel) | exact new_1 (by decide +kernel) | exact put_2 (by decide +kernel) (by decide +kernel) | exact new_2 (by decide +kernel) (by decide +kernel) | exact put_3 (by decide +kernel) (by decide +kernel) (by decide +kernel) | exact new_3 (by decide +kernel) (by decide +kernel) (by decide +kernel) | exact put_4 (by decide +kernel) (by decide +kernel) (by decide +kernel) (by decide +kernel) | exact new_4 (by decide +kernel) (by decide +kernel) (by decide +kernel) (by decide +kernel) | exact put_5 (by decide +kernel) (by decide +kernel) (by decide +kernel) (by decide +kernel) (by decide +kernel) | exact new_5 (by decide +kernel) (by decide +kernel) (by decide +kernel) (by decide +kernel) (by decide +kernel) | exact put_6 (by decide +kernel) (by decide +kernel) (by decide +kernel) (by decide +kernel) (by decide +kernel) (by decide +kernel) | exact new_6 (by decide +kernel) (by decide +kernel) (by decide +kernel) (by decide +kernel) (by decide +kernel) (by decide +kernel) | exact put_7 (by decide +kernel) (by decide +kernel) (by decide +kernel) (by decide +kernel) (by decide +kernel) (by decide +kernel) (by decide +kernel) | exact new_7 (by decide +kernel) (by decide +kernel) (by decide +kernel) (by decide +kernel) (by decide +kernel) (by decide +kernel) (by decide +kernel) | exact put_8 (by decide +kernel) (by decide +kernel) (by decide +kernel) (by decide +kernel) (by decide +kernel) (by decide +kernel) (by decide +kernel) (by decide +kernel) | exact new_8 (by decide +kernel) (by decide +kernel) (by decide +kernel) (by decide +kernel) (by decide +kernel) (by decide +kernel) (by decide +kernel) (by decide +kernel) | exact put_9 (by decide +kernel) (by decide +kernel) (by decide +kernel) (by decide +kernel) (by decide +kernel) (by decide +kernel) (by decide +kernel) (by decide +kernel) (by decide +kernel) | exact new_9 (by decide +kernel) (by decide +kernel) (by decide +kernel) (by decide +kernel) (by decide +kernel) (by decide +kernel) (by decide +kernel) (by decide +kernel) (by decide +kernel))
local macro_rules | `(tactic| walk_at "nol") => `(tactic| with_reducible first | exact nol_0 | exact nol_1 (by decide +kernel) | exact nol_2 (by decide +kernel) (by decide +kernel) | exact nol_3 (by decide +kernel) (by decide +kernel) (by decide +kernel) | exact nol_4 (by decide +kernel) (by decide +kernel) (by decide +kernel) (by decide +kernel) | exact nol_5 (by decide +kernel) (by decide +kernel) (by decide +kernel) (by decide +kernel) (by decide +kernel) | exact nol_6 (by decide +kernel) (by decide +kernel) (by decide +kernel) (by decide +kernel) (by decide +kernel) (by decide +kernel) | exact nol_7 (by decide +kernel) (by decide +kernel) (by decide +kernel) (by decide +kernel) (by decide +kernel) (by decide +kernel) (by decide +kernel) | exact nol_8 (by decide +kernel) (by decide +kernel) (by decide +kernel) (by decide +kernel) (by decide +kernel) (by decide +kernel) (by decide +kernel) (by decide +kernel) | exact nol_9 (by decide +kernel) (by decide +kernel) (by decide +kernel) (by decide +kernel) (by decide +kernel) (by decide +kernel) (by decide +kernel) (by decide +kernel) (by decide +kernel) | exact nol_10 (by decide +kernel) (by decide +kernel) (by decide +kernel) (by decide +kernel) (by decide +kernel) (by decide +kernel) (by decide +kernel) (by decide +kernel) (by decide +kernel) (by decide +kernel))
local macro_rules | `(tactic| walk_at "at") => `(tactic| with_reducible first | exact atI_0 _ _ | exact atI_1 | exact atI_2 | exact atI_3)
local macro_rules | `(tactic| walk_at "ixn") => `(tactic| with_reducible first | exact ixL_0 | exact ixL_1 | exact ixL_2 | exact ixL_3 | exact ixL_4 | exact ixL_5)
local macro_rules | `(tactic| walk_at "auto") => `(tactic| with_reducible first
  | (apply f_sz; (with_unfolding_all exact rfl))
  | (apply brT; (first | exact rfl | decide +kernel))
  | (apply brF; (decide +kernel))
  | (apply brNT; (first | exact rfl | decide +kernel))
  | (apply brNF; (decide +kernel))
  | (apply f_fld; (walk_at "hp"); (assumption); (simp); (walk_at "look"))
  | (apply f_setF; (walk_at "hp"); (assumption); (simp); (with_unfolding_all exact Nat.le_of_ble_eq_true rfl); (walk_at "put"))
  | (apply f_meth; (walk_at "hp"); (walk_at "nol"))
  | (apply s_callH; (with_unfolding_all exact rfl); (assumption))
  | (apply f_ixL; (walk_at "hp"); (walk_at "at"))
  | (apply f_ixLA; (walk_at "hp"); (walk_at "at"))
  | (apply s_ixT; (walk_at "st"); (walk_at "at"))
  | (apply f_ixTA; (walk_at "st"); (walk_at "at"))
  | (apply f_setL; (walk_at "hp"); (walk_at "ixn"); (exact inferInstance))
  | (apply f_setLA; (walk_at "hp"); (walk_at "ixn"); (exact inferInstance))
  | (apply f_lenL; (walk_at "hp"))
  | (apply f_tyL; (walk_at "hp")))
local macro_rules | `(tactic| walk_at "rd") => `(tactic| repeat (first | with_reducible refine Stp.of ?_ | walk_at "auto"))
theorem ok_take (D : DefAt K mg "_law_take" s_law_take ["_law_draw", "_law_sides"]) (B : Blt mg) : OkF P w K mg base CX0 1 "_law_take" ["_law_draw", "_law_sides"] spTake := by
  refine D.ok sc_law_take len2 (fun f cdv A outer s H vs Q E hr h => ?_)
  obtain ⟨_, _, rfl, p, a, n, rfl, rfl, n0, n1, ⟨ns, c, h, t, e, hS, ap, hl, c0, h0, t0, t1⟩, q⟩ := h
  refine ⟨_, (pss_cons (ps_if (PW.pt (pw_and (pt_cmpR o_lt (pe_ix (u_ixA (K := K) (w := w) hr.units) (pv 0) pe_int (fun _ _ => rfl)) (pv 1) (nomark _)) (pw_and1 (pt_cmpR o_lt (pe_ix (u_ixA (K := K) (w := w) hr.units) (pv 0) pe_int (fun _ _ => rfl)) (pe_callB (u_len (K := K)) (by rfl) B.len (by decide +kernel) (pa_cons (pe_ix (u_ixA (K := K) (w := w) hr.units) (pv 0) pe_int (fun _ _ => rfl)) pa_nil)) (nomark _))))) (pss_cons (ps_set (i := 2) sc_law_take.nd rfl (by first | exact .inl rfl | exact .inr rfl) (pe_ix (u_ixA (K := K) (w := w) hr.units) (pe_ix (u_ixA (K := K) (w := w) hr.units) (pv 0) pe_int (fun _ _ => rfl)) (pe_ix (u_ixA (K := K) (w := w) hr.units) (pv 0) pe_int (fun _ _ => rfl)) (fun _ _ => rfl)))
    (pss_cons (ps_asg (pe_op (o_add (K := K)) (pe_ix (u_ixA (K := K) (w := w) hr.units) (pv 0) pe_int (fun _ _ => rfl)) pe_int) (pg_sub (pv 0) pe_int (set_all (hu_of hr))))
    (pss_cons (ps_asg pe_int (pg_sub (pv 0) pe_int (set_all (hu_of hr))))
    (pss_one (ps_if (pt_cmpR o_ge (pe_callB call_abs (by rfl) B.abs (by decide +kernel) (pa_cons (pv 2) pa_nil)) (pe_op o_pow pe_int pe_int) (nomark _)) (pss_one (ps_asg (pe_callB call_abs (by rfl) B.abs (by decide +kernel) (pa_cons (pv 2) pa_nil)) (pg_sub (pv 0) pe_int (set_all (hu_of hr))))) (pss_one (ps_asg (pe_op o_mod (pe_op (o_add (K := K)) (pe_op (o_add (K := K)) (pe_op o_mulA (pe_ix (u_ixA (K := K) (w := w) hr.units) (pv 0) pe_int (fun _ _ => rfl)) pe_int) (pe_op o_mulA (pe_op o_mod (pv 2) pe_int) pe_int)) pe_int) pe_int) (pg_sub (pv 0) pe_int (set_all (hu_of hr)))))))))) pss_nil)
    (pss_cons (ps_if (pt_cmpR o_ge (pe_ix (u_ixA (K := K) (w := w) hr.units) (pv 0) pe_int (fun _ _ => rfl)) (pv 1) (nomark _)) (pss_cons (ps_set (i := 3) sc_law_take.nd rfl (by first | exact .inl rfl | exact .inr rfl) (pe_op o_mod (pe_ix (u_ixA (K := K) (w := w) hr.units) (pv 0) pe_int (fun _ _ => rfl)) (pv 1)))
    (pss_cons (ps_asg (pe_op o_divA (pe_ix (u_ixA (K := K) (w := w) hr.units) (pv 0) pe_int (fun _ _ => rfl)) (pv 1)) (pg_sub (pv 0) pe_int (set_all (hu_of hr))))
    (pss_one (ps_ret (pv 3))))) pss_nil)
    (pss_cons (ps_asg (pe_op o_mod (pe_op (o_add (K := K)) (pe_op (o_add (K := K)) (pe_op o_mulA (pe_op o_mod (pe_op o_mulA (pe_ix (u_ixA (K := K) (w := w) hr.units) (pv 0) pe_int (fun _ _ => rfl)) (pe_ix (u_ixA (K := K) (w := w) hr.units) (pv 0) pe_int (fun _ _ => rfl))) pe_int) pe_int) (pe_op o_mulA (pe_ix (u_ixA (K := K) (w := w) hr.units) (pv 0) pe_int (fun _ _ => rfl)) pe_int)) pe_int) pe_int) (pg_sub (pv 0) pe_int (set_all (hu_of hr))))
    (pss_one (ps_ret (pe_op o_mod (pe_op (o_add (K := K)) (pe_op o_divA (pe_ix (u_ixA (K := K) (w := w) hr.units) (pv 0) pe_int (fun _ _ => rfl)) pe_int) (pe_op o_mulA (pe_op o_mod (pe_ix (u_ixA (K := K) (w := w) hr.units) (pv 0) pe_int (fun _ _ => rfl)) pe_int) pe_int)) (pv 1))))))), ?_⟩
  refine s_start (σ' := [some (.ref p), some (.int n), none, none]) rfl ?_
  refine s_seqJ (fun σ' H' => ∃ x c h t, σ' = [some (.ref p), some (.int n), x, none] ∧ H' p = some (.lst [.ref a, .int c, .int h, .int t]) ∧ Keep p H H' ∧ 0 ≤ c ∧ 0 ≤ h ∧ 0 ≤ t ∧ t < 2147483647) (fun σ' H' hJ => ?_) (fun nx J => ?_)
  · obtain ⟨x, c, h, t, rfl, e, kp, c0, h0, t0, t1⟩ := hJ
    have fin : ∀ H'' c h t r, H'' p = some (.lst [.ref a, .int c, .int h, .int t]) → Keep p H' H'' → 0 ≤ c → 0 ≤ h → 0 ≤ t → t < 2147483647 → 0 ≤ r → r < n → Q (.int r) H'' := fun H'' c h t r e2 k2 a1 a2 a3 a4 r0 r1 =>
      q H'' r (kp.trans k2) ⟨ns, c, h, t, e2, (kp.trans k2) _ _ ap hS, ap, hl, a1, a2, a3, a4⟩ r0 r1
    walk_at "rd"
    refine br (fun b1 => ?_) (fun b1 => ?_)
    · walk_at "rd"
      walk_at "rd"
      refine s_mod (by omega) ?_
      walk_at "rd"
      refine s_divW (divw (by omega) (by omega)) ?_
      walk_at "rd"
      exact fin _ c (h.fdiv n) t _ upd_same Keep.upd c0 (Int.fdiv_nonneg h0 (by omega)) t0 t1 (Int.fmod_nonneg_of_pos _ n0) (Int.fmod_lt_of_pos _ n0)
    · walk_at "rd"
      walk_at "rd"
      refine s_mulW (mulw (by omega) (by omega)) ?_
      walk_at "rd"
      refine s_mod (by decide) ?_
      walk_at "rd"
      have f1 := Int.fmod_nonneg_of_pos (t * t) (show (0 : Int) < 2147483629 by decide)
      have f2 := Int.fmod_lt_of_pos (t * t) (show (0 : Int) < 2147483629 by decide)
      refine s_mulW (mulw (by omega) (by omega)) ?_
      walk_at "rd"
      refine s_mulW (mulw (by omega) (by omega)) ?_
      walk_at "rd"
      refine s_mod (by decide) ?_
      walk_at "rd"
      have f3 := Int.fmod_nonneg_of_pos ((t * t).fmod 2147483629 * 5 + t * 16811 + 2531011) (show (0 : Int) < 2147483647 by decide)
      have f4 := Int.fmod_lt_of_pos ((t * t).fmod 2147483629 * 5 + t * 16811 + 2531011) (show (0 : Int) < 2147483647 by decide)
      generalize ((t * t).fmod 2147483629 * 5 + t * 16811 + 2531011).fmod 2147483647 = t' at f3 f4 ⊢
      walk_at "rd"
      refine s_divW (divw (by decide) (by decide)) ?_
      walk_at "rd"
      refine s_mod (by decide) ?_
      walk_at "rd"
      have f5 := Int.fmod_nonneg_of_pos t' (show (0 : Int) < 8191 by decide)
      have f6 := Int.fmod_lt_of_pos t' (show (0 : Int) < 8191 by decide)
      refine s_mulW (mulw (by omega) (by omega)) ?_
      walk_at "rd"
      refine s_mod (by omega) ?_
      exact fin _ c h t' _ upd_same Keep.upd c0 h0 f3 f4 (Int.fmod_nonneg_of_pos _ n0) (Int.fmod_lt_of_pos _ n0)
  · have no := fun H' x c h t e1 e2 e3 e4 e5 e6 => J [some (.ref p), some (.int n), x, none] H' ⟨x, c, h, t, rfl, e1, e2, e3, e4, e5, e6⟩
    walk_at "rd"
    refine br (fun b1 => ?_) (fun b1 => ?_)
    · walk_at "rd"
      walk_at "rd"
      refine br (fun b2 => ?_) (fun b2 => ?_)
      · rw [List.length_map] at b2
        obtain ⟨cell, hc⟩ : ∃ z, ns[c.toNat]? = some z := ⟨_, List.getElem?_eq_getElem (show c.toNat < ns.length by omega)⟩
        have hc2 : atI (ns.map V.int) c = some (.int cell) := at_of (j := c.toNat) (by omega) (by rw [List.getElem?_map, hc]; rfl)
        walk_at "rd"
        refine s_ixA (s_ixL (SqL.of hS) hc2 ?_)
        walk_at "rd"
        rw [upd_upd]
        refine s_pow ⟨by decide, by decide, by decide⟩ ?_
        rw [show ((10 : Int) ^ (18 : Int).toNat) = 1000000000000000000 from by decide]
        walk_at "rd"
        refine br (fun b3 => ?_) (fun b3 => ?_)
        · walk_at "rd"
          walk_at "rd"
          rw [upd_upd]
          refine no _ _ (c + 1) (if cell < 0 then -cell else cell) t upd_same Keep.upd (by omega) ?_ t0 t1
          split <;> omega
        · walk_at "rd"
          have f7 := Int.fmod_nonneg_of_pos cell (show (0 : Int) < 2147483629 by decide)
          have f8 := Int.fmod_lt_of_pos cell (show (0 : Int) < 2147483629 by decide)
          refine s_mulW (mulw (by omega) (by omega)) ?_
          walk_at "rd"
          refine s_mod (by decide) ?_
          walk_at "rd"
          refine s_mulW (mulw (by omega) (by omega)) ?_
          walk_at "rd"
          refine s_mod (by decide) ?_
          walk_at "rd"
          rw [upd_upd]
          exact no _ _ (c + 1) 0 _ upd_same Keep.upd (by omega) (by omega) (Int.fmod_nonneg_of_pos _ (by decide)) (Int.fmod_lt_of_pos _ (by decide))
      · walk_at "rd"
        exact no _ _ c h t e (Keep.refl _ _) c0 h0 t0 t1
    · walk_at "rd"
      exact no _ _ c h t e (Keep.refl _ _) c0 h0 t0 t1
end
section
variable {P : Program} {w : World} {K : PySem.W.Frag} {mg : Str → Option Value} {base : Heap}
local macro_rules | `(tactic| walk_at "rd1") => `(tactic| first
  | with_reducible refine s_var (by with_unfolding_all exact rfl) ?_
  | with_reducible refine s_c ?_ | with_reducible refine s_op ?_ | with_reducible refine s_cons ?_ | with_reducible refine s_nil ?_
  | with_reducible refine s_nx ?_ | with_reducible refine s_rt ?_ | with_reducible refine s_seq ?_ | with_reducible refine s_test ?_ | with_reducible refine s_bl ?_
  | with_reducible refine s_add ?_ | with_reducible refine s_sub ?_ | with_reducible refine s_lt ?_ | with_reducible refine s_le ?_ | with_reducible refine s_ge ?_ | with_reducible refine s_gt ?_
  | with_reducible refine s_and ?_ | with_reducible refine s_or ?_ | with_reducible refine s_not ?_ | with_reducible refine s_cb ?_ | with_reducible refine s_ret ?_ | with_reducible refine s_ifS ?_ | with_reducible refine s_if ?_
  | with_reducible refine s_asg ?_ | with_reducible refine s_gName ?_ | with_reducible refine s_gSub ?_ | with_reducible refine s_drop ?_ | with_reducible refine s_next ?_
  | with_reducible refine s_abs ?_ | with_reducible refine s_call ?_ | with_reducible refine s_callD ?_ | with_reducible refine s_sp2d ?_ | with_reducible refine s_sp3d ?_ | with_reducible refine s_strS ?_ | with_reducible refine s_intI ?_ | with_reducible refine s_intB ?_ | with_reducible refine s_sp1 ?_ | with_reducible refine s_sp2 ?_ | with_reducible refine s_sp3 ?_
  | with_reducible refine s_tup ?_ | with_reducible refine s_lst ?_ | with_reducible refine s_sl ?_ | with_reducible refine s_noPart ?_ | with_reducible refine s_part ?_ | with_reducible refine s_partI ?_
  | with_reducible refine s_tr ?_ | with_reducible refine s_truB ?_ | with_reducible refine s_lc ?_ | with_reducible refine s_iStr ?_ | with_reducible refine s_str ?_ | with_reducible refine s_iRng1 ?_ | with_reducible refine s_iList ?_ | with_reducible refine s_iTup ?_ | with_reducible refine s_iZipA ?_
  | with_reducible refine s_for ?_ | with_reducible refine s_sp4 ?_ | with_reducible refine s_sq4 ?_ | with_reducible refine s_try ?_ | with_reducible refine s_lstRg ?_ | with_reducible refine s_prg1 ?_ | with_reducible refine s_enum ?_ | with_reducible refine s_bm ?_ | with_reducible refine s_bm0 ?_ | with_reducible refine s_callS ?_ | with_reducible refine s_sq1 ?_ | with_reducible refine s_sq2 ?_ | with_reducible refine s_sq3 ?_ | with_reducible refine s_ipI ?_ | with_reducible refine s_aug (by with_unfolding_all exact rfl) ?_ | with_reducible refine s_yes ?_ | with_reducible refine s_m1 ?_ | with_reducible refine s_m0 ?_ | with_reducible refine s_isStr ?_ | with_reducible refine s_isN ?_ | with_reducible refine s_notN ?_ | with_reducible refine s_chain ?_ | with_reducible refine s_andV ?_ | with_reducible refine s_orV ?_ | with_reducible refine s_notV ?_ | with_reducible refine s_un ?_ | with_reducible refine s_neg ?_)
local macro_rules | `(tactic| walk_at "rd") => `(tactic| repeat walk_at "rd1")
theorem ok_begin (D : DefAt K mg "_law_begin" s_law_begin ["_law_script"]) (B : Blt mg) : OkF P w K mg base CX0 1 "_law_begin" ["_law_script"] (spBegin K) := by
  refine D.ok sc_law_begin len1 (fun f cdv A outer s H vs Q E hr h => ?_)
  obtain ⟨_, rfl, a, ns, rfl, hS, hl, q⟩ := h
  refine ⟨_, (pss_one (ps_ret (pe_lst (pa_cons (pe_callTy (call_listU (K := K) rfl) (by rfl) B.list (by decide +kernel) (pa_cons (pe_slice (sl_u (K := K)) (pv 0) po_none (po_some pe_int)) pa_nil)) (pa_cons pe_int (pa_cons pe_int (pa_cons pe_int pa_nil))))))), ?_⟩
  refine s_start (σ' := [some (.ref a)]) rfl ?_
  walk_at "rd"
  obtain ⟨ms, em, lm⟩ : ∃ ms : List Int, cutV (ns.map V.int) none (some 63) = ms.map V.int ∧ ms.length ≤ 1000 := by
    refine ⟨(ns.drop (HT.sIx (ns.map V.int).length 0 none)).take (HT.sIx (ns.map V.int).length (ns.map V.int).length (some 63) - HT.sIx (ns.map V.int).length 0 none), ?_, ?_⟩
    · unfold cutV
      rw [List.map_take, List.map_drop]
    · rw [List.length_take, List.length_drop]
      omega
  refine s_slL hS fun l1 n1 => ?_
  rw [em]
  walk_at "rd"
  refine s_listL (.inl (SqL.of upd_same)) fun l2 n2 => ?_
  walk_at "rd"
  refine ⟨sz rfl, fun p n3 => ?_⟩
  walk_at "rd"
  have s1 := same_upd (o := .lst (ms.map V.int)) n1
  have s2 := same_upd (o := .lst (ms.map V.int)) n2
  have s3 := same_upd (o := .lst [.ref l2, .int 0, .int 0, .int 29]) n3
  refine q _ p l2 (s1.trans (s2.trans s3)) ((s1.trans s2).free n3) ⟨ms, 0, 0, 29, upd_same, s3 _ _ upd_same, ?_, lm, by decide, by decide, by decide, by decide⟩
  intro e
  rw [e, upd_same] at n3
  cases n3
theorem ok_one (D : DefAt K mg "_law_one" s_law_one ["_law_draw", "_law_row"]) (B : Blt mg) (G_law_take : OkF P w K mg base CX0 1 "_law_take" ["_law_draw", "_law_sides"] spTake) : OkF P w K mg base CX0 2 "_law_one" ["_law_draw", "_law_row"] (spOne K) := by
  refine D.ok sc_law_one len2 (fun f cdv A outer s H vs Q E hr h => ?_)
  obtain ⟨_, _, rfl, p, a, b, xs, rfl, rfl, ap, hS, h0, h1, d, q⟩ := h
  refine ⟨_, (pss_one (ps_ret (pe_ix (u_ix (K := K)) (pv 1) (u_call G_law_take (hr.mono (by omega)) pass0 (pa_cons (pv 0) (pa_cons (pe_callB (u_len (K := K)) (by rfl) B.len (by decide +kernel) (pa_cons (pv 1) pa_nil)) pa_nil))) (fun _ _ => rfl)))), ?_⟩
  refine s_start (σ' := [some (.ref p), some (.ref b)]) rfl ?_
  walk_at "rd"
  refine s_lenL hS ?_
  walk_at "rd"
  refine ⟨p, a, xs.length, rfl, rfl, by omega, by omega, d, fun H' r kp d' r0 r1 => ?_⟩
  obtain ⟨v, hv⟩ : ∃ v, xs[r.toNat]? = some v := ⟨_, List.getElem?_eq_getElem (show r.toNat < xs.length by omega)⟩
  refine s_ixL (kp.sqL ap hS) (at_of (j := r.toNat) (by omega) hv) ?_
  exact q H' v kp d' (List.mem_of_getElem? hv)
theorem ok_same (D : DefAt K mg "_law_same" s_law_same ["_law_found", "_law_due"]) (B : Blt mg) : ∀ n, OkF P w K mg base CX0 n "_law_same" ["_law_found", "_law_due"] (spSame K n) := by
  intro n
  induction n with
  | zero =>
    refine D.okNo fun vs H Q E h => ?_
    obtain ⟨_, _, _, d, _, _, z, _⟩ := h
    exact z
  | succ n G_law_same =>
  refine D.ok sc_law_same len2 (fun f cdv A outer s H vs Q E hr h => ?_)
  obtain ⟨x, y, rfl, d, hx, hy, hd, q⟩ := h
  refine ⟨_, (pss_cons (ps_if (u_truth (K := K) (pe_callB (u_isiT (K := K)) (by rfl) B.isinstance (by decide +kernel) (pa_cons (pv 1) (pa_cons (pe_tup (pa_cons (pe_bltn (v := .ty "list") (by rfl) B.list (by decide +kernel) rfl) (pa_cons (pe_bltn (v := .ty "tuple") (by rfl) B.tuple (by decide +kernel) rfl) pa_nil))) pa_nil)))) (pss_cons (ps_if (PW.pt (pw_or (pt_cmpR (o_ne (K := K) hr.units) (pe_callB (u_isi (K := K)) (by rfl) B.isinstance (by decide +kernel) (pa_cons (pv 0) (pa_cons (pe_bltn (v := .ty "list") (by rfl) B.list (by decide +kernel) rfl) pa_nil))) (pe_callB (u_isi (K := K)) (by rfl) B.isinstance (by decide +kernel) (pa_cons (pv 1) (pa_cons (pe_bltn (v := .ty "list") (by rfl) B.list (by decide +kernel) rfl) pa_nil))) (nomark _)) (pw_or1 (pt_not (u_truth (K := K) (pe_callB (u_isiT (K := K)) (by rfl) B.isinstance (by decide +kernel) (pa_cons (pv 0) (pa_cons (pe_tup (pa_cons (pe_bltn (v := .ty "list") (by rfl) B.list (by decide +kernel) rfl) (pa_cons (pe_bltn (v := .ty "tuple") (by rfl) B.tuple (by decide +kernel) rfl) pa_nil))) pa_nil)))))))) (pss_one (ps_ret pe_bl)) pss_nil)
    (pss_cons (ps_if (pt_cmpR (o_ne (K := K) hr.units) (pe_callB (u_len (K := K)) (by rfl) B.len (by decide +kernel) (pa_cons (pv 0) pa_nil)) (pe_callB (u_len (K := K)) (by rfl) B.len (by decide +kernel) (pa_cons (pv 1) pa_nil)) (nomark _)) (pss_one (ps_ret pe_bl)) pss_nil)
    (pss_one (ps_ret (pe_callB (u_all (K := K) rfl) (by rfl) B.all (by decide +kernel) (pa_cons (pe_lc (own := [("_law_one_here", 2), ("_law_other", 3)]) (g := (gTup K 2 (gCons (gName 2) (gCons (gName 3) gNil)))) (tt := tYes) rfl sc_law_same.nd (pi_zipA (by rfl) B.zip (pa_cons (pv 0) (pa_cons (pv 1) pa_nil))) (blkOk_by (N := ["_law_found", "_law_due", "_law_one_here", "_law_other"]) (sc := defScope s_law_same) (own := [("_law_one_here", 2), ("_law_other", 3)]) (by decide +kernel)) (fun _ _ _ _ _ => (u_tup (K := K) rfl (pgs_cons (pg_name (i := 2) sc_law_same.nd rfl (by first | exact .inl rfl | exact .inr rfl)) (pgs_cons (pg_name (i := 3) sc_law_same.nd rfl (by first | exact .inl rfl | exact .inr rfl)) pgs_nil)))) (fun _ _ _ _ _ => pts_nil) (fun _ _ _ _ _ => (u_call G_law_same (hr.mono (by omega)) pass0 (pa_cons (pv 2) (pa_cons (pv 3) pa_nil))))) pa_nil)))))) pss_nil)
    (pss_cons (ps_if (pt_cmpR o_is (pv 1) pe_non (nomark _)) (pss_one (ps_ret (pe_cmpR o_is (pv 0) pe_non (nomark _)))) pss_nil)
    (pss_cons (ps_if (pt_cmpR (o_ne (K := K) hr.units) (pe_callB (u_isi (K := K)) (by rfl) B.isinstance (by decide +kernel) (pa_cons (pv 0) (pa_cons (pe_bltn (v := .ty "bool") (by rfl) B.bool (by decide +kernel) rfl) pa_nil))) (pe_callB (u_isi (K := K)) (by rfl) B.isinstance (by decide +kernel) (pa_cons (pv 1) (pa_cons (pe_bltn (v := .ty "bool") (by rfl) B.bool (by decide +kernel) rfl) pa_nil))) (nomark _)) (pss_one (ps_ret pe_bl)) pss_nil)
    (pss_one (ps_ret (pe_and (pe_cmpR (o_eq (K := K) hr.units) (pe_callB (u_isi (K := K)) (by rfl) B.isinstance (by decide +kernel) (pa_cons (pv 0) (pa_cons (pe_bltn (v := .ty "str") (by rfl) B.str (by decide +kernel) rfl) pa_nil))) (pe_callB (u_isi (K := K)) (by rfl) B.isinstance (by decide +kernel) (pa_cons (pv 1) (pa_cons (pe_bltn (v := .ty "str") (by rfl) B.str (by decide +kernel) rfl) pa_nil))) (nomark _)) (pe_one (pe_cmpR (o_eq (K := K) hr.units) (pv 0) (pv 1) (nomark _))))))))), ?_⟩
  refine s_start (σ' := [some x, some y, none, none]) rfl ?_
  walk_at "rd"
  refine ⟨sz rfl, fun p1 n1 => ?_⟩
  walk_at "rd"
  have s1 := same_upd (o := .tup [.ty "list", .ty "tuple"]) n1
  have hx1 := Dp.same s1 d _ hx
  have hy1 := Dp.same s1 d _ hy
  refine s_isiLT hy1 upd_same ?_
  walk_at "rd"
  refine brB (fun b1 => ?_) (fun b1 => ?_)
  · walk_at "rd"
    refine s_isiL hx1 ?_
    walk_at "rd"
    refine s_isiL hy1 ?_
    refine s_ne rfl ?_
    walk_at "rd"
    refine brN (fun z => absurd rfl z) (fun _ => ?_)
    walk_at "rd"
    refine ⟨sz rfl, fun p2 n2 => ?_⟩
    walk_at "rd"
    have s2 := s1.trans (same_upd (o := .tup [.ty "list", .ty "tuple"]) n2)
    have hx2 := Dp.same s2 d _ hx
    have hy2 := Dp.same s2 d _ hy
    refine s_isiLT hx2 upd_same ?_
    rw [b1]
    walk_at "rd"
    refine iteF ?_
    walk_at "rd"
    cases d with
    | list ds =>
      obtain ⟨hn, hk⟩ := hd
      cases hx2 with
      | @lst ax xs _ hsx hax =>
      cases hy2 with
      | @lst ay ys _ hsy hay =>
      have lx := DpAll.length hax
      have ly := DpAll.length hay
      refine s_lenL hsx ?_
      walk_at "rd"
      refine s_lenL hsy ?_
      walk_at "rd"
      refine s_ne rfl ?_
      walk_at "rd"
      rw [lx, ly]
      refine brN (fun z => absurd rfl z) (fun _ => ?_)
      walk_at "rd"
      refine ⟨ax, ay, xs, ys, rfl, .inl ⟨hsx, hsy, ?_⟩⟩
      generalize upd (upd H p1 _) p2 _ = H1 at s2 hsx hsy hax hay
      refine lcB_of ds.length (fun D i acc H' => Same H1 H' ∧ acc = (List.replicate i true).map V.bl) (fun D hD => ⟨same_upd hD, rfl⟩)
        (fun D i acc H' _ hi hS => ⟨xs, ys, _, _, hS.1.seq hsx, hS.1.seq hsy, List.getElem?_eq_getElem (by omega), List.getElem?_eq_getElem (by omega)⟩)
        (fun D acc H' _ hS => ⟨xs, ys, hS.1.seq hsx, hS.1.seq hsy, .inl (by omega)⟩) ?_ ?_
      · rintro D i acc H' _ H'' hD hi ha hl ⟨sm, ea⟩ ⟨T, u, v, rfl, nT, rfl, hu, hv⟩
        have sT := same_upd (o := .tup [u, v]) nT
        obtain ⟨d1, e1, k1⟩ := DpAll.get hax (hu _ (sm.seq hsx))
        obtain ⟨d2, e2, k2⟩ := DpAll.get hay (hv _ (sm.seq hsy))
        rw [e1] at e2
        cases e2
        refine s_gTup (SqT.of upd_same) rfl (s_gCons (s_gName (s_gCons (s_gName (s_gNil ⟨rfl, ?_⟩)))))
        walk_at "rd"
        refine ⟨d1, Dp.same (sm.trans sT) _ _ k1, Dp.same (sm.trans sT) _ _ k2, hk d1 (List.mem_of_getElem? e1), fun H3 s3 => ?_⟩
        have aD := s3 _ _ (sT _ _ ha)
        refine LcPost.mk aD hl (by omega) ⟨fun b o e => ?_, ?_⟩
        · rw [upd_ne (ne_of_none e hD)]
          exact s3 _ _ (sT _ _ (sm _ _ e))
        · rw [ea, List.replicate_succ', List.map_append]
          rfl
      · rintro D acc H' hD ha hl ⟨sm, ea⟩
        walk_at "rd"
        refine ⟨D, _, rfl, SqL.of (ha.trans (by rw [ea])), ?_⟩
        have : (List.replicate ds.length true).all id = true := by simp
        rw [this]
        exact q _ (s2.trans sm)
    | tuple ds =>
      obtain ⟨hn, hk⟩ := hd
      cases hx2 with
      | @tup ax xs _ hsx hax =>
      cases hy2 with
      | @tup ay ys _ hsy hay =>
      have lx := DpAll.length hax
      have ly := DpAll.length hay
      refine s_lenT hsx ?_
      walk_at "rd"
      refine s_lenT hsy ?_
      walk_at "rd"
      refine s_ne rfl ?_
      walk_at "rd"
      rw [lx, ly]
      refine brN (fun z => absurd rfl z) (fun _ => ?_)
      walk_at "rd"
      refine ⟨ax, ay, xs, ys, rfl, .inr ⟨hsx, hsy, ?_⟩⟩
      generalize upd (upd H p1 _) p2 _ = H1 at s2 hsx hsy hax hay
      refine lcB_of ds.length (fun D i acc H' => Same H1 H' ∧ acc = (List.replicate i true).map V.bl) (fun D hD => ⟨same_upd hD, rfl⟩)
        (fun D i acc H' _ hi hS => ⟨xs, ys, _, _, Same.sqT hS.1 hsx, Same.sqT hS.1 hsy, List.getElem?_eq_getElem (by omega), List.getElem?_eq_getElem (by omega)⟩)
        (fun D acc H' _ hS => ⟨xs, ys, Same.sqT hS.1 hsx, Same.sqT hS.1 hsy, .inl (by omega)⟩) ?_ ?_
      · rintro D i acc H' _ H'' hD hi ha hl ⟨sm, ea⟩ ⟨T, u, v, rfl, nT, rfl, hu, hv⟩
        have sT := same_upd (o := .tup [u, v]) nT
        obtain ⟨d1, e1, k1⟩ := DpAll.get hax (hu _ (Same.sqT sm hsx))
        obtain ⟨d2, e2, k2⟩ := DpAll.get hay (hv _ (Same.sqT sm hsy))
        rw [e1] at e2
        cases e2
        refine s_gTup (SqT.of upd_same) rfl (s_gCons (s_gName (s_gCons (s_gName (s_gNil ⟨rfl, ?_⟩)))))
        walk_at "rd"
        refine ⟨d1, Dp.same (sm.trans sT) _ _ k1, Dp.same (sm.trans sT) _ _ k2, hk d1 (List.mem_of_getElem? e1), fun H3 s3 => ?_⟩
        have aD := s3 _ _ (sT _ _ ha)
        refine LcPost.mk aD hl (by omega) ⟨fun b o e => ?_, ?_⟩
        · rw [upd_ne (ne_of_none e hD)]
          exact s3 _ _ (sT _ _ (sm _ _ e))
        · rw [ea, List.replicate_succ', List.map_append]
          rfl
      · rintro D acc H' hD ha hl ⟨sm, ea⟩
        walk_at "rd"
        refine ⟨D, _, rfl, SqL.of (ha.trans (by rw [ea])), ?_⟩
        have : (List.replicate ds.length true).all id = true := by simp
        rw [this]
        exact q _ (s2.trans sm)
    | _ => exact absurd b1 (by simp [isSeq])
  · walk_at "rd"
    cases d with
    | list ds => exact absurd b1 (by simp [isSeq])
    | tuple ds => exact absurd b1 (by simp [isSeq])
    | dict ds => exact hd.elim
    | none =>
      cases hx1
      cases hy1
      refine br (fun _ => ?_) (fun z => absurd rfl z)
      walk_at "rd"
      exact q _ s1
    | bool b =>
      cases hx1
      cases hy1
      refine br (fun z => nomatch z) (fun _ => ?_)
      walk_at "rd"
      refine s_isiB (.bl b) ?_
      walk_at "rd"
      refine s_isiB (.bl b) ?_
      refine s_ne rfl ?_
      walk_at "rd"
      refine brN (fun z => absurd rfl z) (fun _ => ?_)
      walk_at "rd"
      refine s_isiS (.bl b) ?_
      walk_at "rd"
      refine s_isiS (.bl b) ?_
      refine s_eq rfl (s_bln (decide_eq_true rfl) (iteT ?_))
      walk_at "rd"
      refine s_eq rfl ?_
      rw [decide_eq_true rfl]
      exact q _ s1
    | int b =>
      cases hx1
      cases hy1
      refine br (fun z => nomatch z) (fun _ => ?_)
      walk_at "rd"
      refine s_isiB (.int b) ?_
      walk_at "rd"
      refine s_isiB (.int b) ?_
      refine s_ne rfl ?_
      walk_at "rd"
      refine brN (fun z => absurd rfl z) (fun _ => ?_)
      walk_at "rd"
      refine s_isiS (.int b) ?_
      walk_at "rd"
      refine s_isiS (.int b) ?_
      refine s_eq rfl (s_bln (decide_eq_true rfl) (iteT ?_))
      walk_at "rd"
      refine s_eq rfl ?_
      rw [decide_eq_true rfl]
      exact q _ s1
    | str b =>
      cases hx1
      cases hy1
      refine br (fun z => nomatch z) (fun _ => ?_)
      walk_at "rd"
      refine s_isiB (.str b) ?_
      walk_at "rd"
      refine s_isiB (.str b) ?_
      refine s_ne rfl ?_
      walk_at "rd"
      refine brN (fun z => absurd rfl z) (fun _ => ?_)
      walk_at "rd"
      refine s_isiS (.str b) ?_
      walk_at "rd"
      refine s_isiS (.str b) ?_
      refine s_eq rfl (s_bln (decide_eq_true rfl) (iteT ?_))
      walk_at "rd"
      refine s_eq rfl ?_
      rw [decide_eq_true rfl]
      exact q _ s1
end
end L2.U
namespace L2.U
open PySem PySem.Spec PyProof.Rows RZ TL
section
variable {P : Program} {w : World} {K : PySem.W.Frag} {mg : Str → Option Value} {base : Heap}
local macro_rules | `(tactic| walk_at "hq") => `(tactic| with_reducible first
  | assumption
  | exact upd_same
  | (refine Same.get (by assumption) ?_; walk_at "hq"))
local macro_rules | `(tactic| walk_at "ne") => `(tactic| with_reducible first
  | assumption
  | (refine Ne.symm ?_; assumption)
  | (refine ne_of_none ?_ (by assumption); walk_at "hq")
  | (refine Ne.symm ?_; refine ne_of_none ?_ (by assumption); walk_at "hq"))
local macro_rules | `(tactic| walk_at "hp") => `(tactic| with_reducible first
  | assumption
  | exact upd_same
  | (refine upd_get (by walk_at "ne") ?_; walk_at "hp")
  | (refine Same.get (by assumption) ?_; walk_at "hp")
  | (refine Keep.get (by assumption) (by walk_at "ne") ?_; walk_at "hp"))
local macro_rules | `(tactic| walk_at "st") => `(tactic| with_reducible first
  | assumption
  | exact SqT.of (by walk_at "hp")
  | (refine Same.sqT (by assumption) ?_; walk_at "st"))
local macro_rules | `(tactic| walk_at "look") => `(tactic| with_reducible first | exact look_0 | exact look_1 (by decide +kernel) | exact look_2 (by decide +kernel) (by decide +kernel) | exact look_3 (by decide +kernel) (by decide +kernel) (by decide +kernel) | exact look_4 (by decide +kernel) (by decide +kernel) (by decide +kernel) (by decide +kernel) | exact look_5 (by decide +kernel) (by decide +kernel) (by decide +kernel) (by decide +kernel) (by decide +kernel) | exact look_6 (by decide +kernel) (by decide +kernel) (by decide +kernel) (by decide +kernel) (by decide +kernel) (by decide +kernel) | exact look_7 (by decide +kernel) (by decide +kernel) (by decide +kernel) (by decide +kernel) (by decide +kernel) (by decide +kernel) (by decide +kernel) | exact look_8 (by decide +kernel) (by decide +kernel) (by decide +kernel) (by decide +kernel) (by decide +kernel) (by decide +kernel) (by decide +kernel) (by decide +kernel) | exact look_9 (by decide +kernel) (by decide +kernel) (by decide +kernel) (by decide +kernel) (by decide +kernel) (by decide +kernel) (by decide +kernel) (by decide +kernel) (by decide +kernel))
local macro_rules | `(tactic| walk_at "put") => `(tactic| with_reducible first | exact put_0 | exact new_0 | exact put_1 (by decide +kernel) | exact new_1 (by decide +kernel) | exact put_2 (by decide +kernel) (by decide +kernel) | exact new_2 (by decide +kernel) (by decide +kernel) | exact put_3 (by decide +kernel) (by decide +kernel) (by decide +kernel) | exact new_3 (by decide +kernel) (by decide +kernel) (by decide +kernel) | exact put_4 (by decide +kernel) (by decide +kernel) (by decide +kernel) (by decide +kernel) | exact new_4 (by decide +kernel) (by decide +kernel) (by decide +kernel) (by decide +kernel) | exact put_5 (by decide +kernel) (by decide +kernel) (by decide +kernel) (by decide +kernel) (by decide +kernel) | exact new_5 (by decide +kernel) (by decide +kernel) (by decide +kernel) (by decide +kernel) (by decide +kernel) | exact put_6 (by decide +kernel) (by decide +kernel) (by decide +kernel) (by decide +kernel) (by decide +kernel) (by decide +kernel) | exact new_6 (by decide +kernel) (by decide +kernel) (by decide +kernel) (by decide +kernel) (by decide +kernel) (by decide +kernel) | exact put_7 (by decide +kernel) (by decide +kernel) (by decide +kernel) (by decide +kernel) (by decide +kernel) (by decide +kernel) (by decide +kernel) | exact new_7 (by decide +kernel) (by decide +kernel) (by decide +kernel) (by decide +kernel) (by decide +kernel) (by decide +kernel) (by decide +kernel) | exact put_8 (by decide +kernel) (by decide +kernel) (by decide +kernel) (by decide +kernel) (by decide +kernel) (by decide +kernel) (by decide +kernel) (by decide +kernel) | exact new_8 (by decide +kernel) (by decide +kernel) (by decide +kernel) (by decide +kernel) (by decide +kernel) (by decide +kernel) (by decide +kernel) (by decide +kernel) | exact put_9 (by decide +kernel) (by decide +kernel) (by decide +kernel) (by decide +kernel) (by decide +kernel) (by decide +kernel) (by decide +kernel) (by decide +kernel) (by decide +kernel) | exact new_9 (by decide +kernel) (by decide +kernel) (by decide +kernel) (by decide +kernel) (by decide +kernel) (by decide +kernel) (by decide +kernel) (by decide +kernel) (by decide +kernel))
local macro_rules | `(tactic| walk_at "nol") => `(tactic| with_reducible first | exact nol_0 | exact nol_1 (by decide +kernel) | exact nol_2 (by decide +kernel) (by decide +kernel) | exact nol_3 (by decide +kernel) (by decide +kernel) (by decide +kernel) | exact nol_4 (by decide +kernel) (by decide +kernel) (by decide +kernel) (by decide +kernel) | exact nol_5 (by decide +kernel) (by decide +kernel) (by decide +kernel) (by decide +kernel) (by decide +kernel) | exact nol_6 (by decide +kernel) (by decide +kernel) (by decide +kernel) (by decide +kernel) (by decide +kernel) (by decide +kernel) | exact nol_7 (by decide +kernel) (by decide +kernel) (by decide +kernel) (by decide +kernel) (by decide +kernel) (by decide +kernel) (by decide +kernel) | exact nol_8 (by decide +kernel) (by decide +kernel) (by decide +kernel) (by decide +kernel) (by decide +kernel) (by decide +kernel) (by decide +kernel) (by decide +kernel) | exact nol_9 (by decide +kernel) (by decide +kernel) (by decide +kernel) (by decide +kernel) (by decide +kernel) (by decide +kernel) (by decide +kernel) (by decide +kernel) (by decide +kernel) | exact nol_10 (by decide +kernel) (by decide +kernel) (by decide +kernel) (by decide +kernel) (by decide +kernel) (by decide +kernel) (by decide +kernel) (by decide +kernel) (by decide +kernel) (by decide +kernel))
local macro_rules | `(tactic| walk_at "at") => `(tactic| with_reducible first | exact atI_0 _ _ | exact atI_1 | exact atI_2 | exact atI_3)
local macro_rules | `(tactic| walk_at "ixn") => `(tactic| with_reducible first | exact ixL_0 | exact ixL_1 | exact ixL_2 | exact ixL_3 | exact ixL_4 | exact ixL_5)
local macro_rules | `(tactic| walk_at "auto") => `(tactic| with_reducible first
  | (apply f_sz; (with_unfolding_all exact rfl))
  | (apply brT; (first | exact rfl | decide +kernel))
  | (apply brF; (decide +kernel))
  | (apply brNT; (first | exact rfl | decide +kernel))
  | (apply brNF; (decide +kernel))
  | (apply f_fld; (walk_at "hp"); (assumption); (simp); (walk_at "look"))
  | (apply f_setF; (walk_at "hp"); (assumption); (simp); (with_unfolding_all exact Nat.le_of_ble_eq_true rfl); (walk_at "put"))
  | (apply f_meth; (walk_at "hp"); (walk_at "nol"))
  | (apply s_callH; (with_unfolding_all exact rfl); (assumption))
  | (apply f_ixL; (walk_at "hp"); (walk_at "at"))
  | (apply f_ixLA; (walk_at "hp"); (walk_at "at"))
  | (apply s_ixT; (walk_at "st"); (walk_at "at"))
  | (apply f_ixTA; (walk_at "st"); (walk_at "at"))
  | (apply f_setL; (walk_at "hp"); (walk_at "ixn"); (exact inferInstance))
  | (apply f_setLA; (walk_at "hp"); (walk_at "ixn"); (exact inferInstance))
  | (apply f_lenL; (walk_at "hp"))
  | (apply f_tyL; (walk_at "hp")))
local macro_rules | `(tactic| walk_at "rd") => `(tactic| repeat (first | with_reducible refine Stp.of ?_ | walk_at "auto"))
theorem ok_worth {c_Reckoner : Addr} (D : DefAt K mg "worth" s_worth ["tree", "names", "cells"]) (B : Blt mg) (G_Reckoner : MakF P w K mg base CX0 1 "Reckoner" c_Reckoner ["self", "names", "cells"] [] (spRkInit c_Reckoner)) {n : Nat}
    (G_Reckoner_of : MetF P w K mg base CX0 (n + 3) c_Reckoner "of" ["self", "tree"] [] (sp2 (pOf K c_Reckoner n))) : OkF P w K mg base CX0 (n + 4) "worth" ["tree", "names", "cells"] (spWorth K n) := by
  refine D.ok sc_worth len3 (fun f cdv A outer s H vs Q E hr h => ?_)
  obtain ⟨tv, _, _, rfl, W, R, kvs, cs, t, rfl, rfl, hW, hR, ai, cl, cm, ht, hd, ok, hl, q⟩ := h
  refine ⟨_, (pss_one (ps_ret (u_meth G_Reckoner_of (hr.mono (by omega)) pass0 (u_make G_Reckoner (hr.mono (by omega)) pass0 (pa_cons (pv 1) (pa_cons (pv 2) pa_nil))) (pa_cons (pv 0) pa_nil)))), ?_⟩
  refine s_start (σ' := [some (tv), some (.ref W), some (.ref R)]) rfl ?_
  walk_at "rd"
  intro me dx nme ndx ne
  have s1 : Same H (upd (upd H dx (.own me)) me (.ins c_Reckoner dx [])) := (same_upd ndx).trans (same_upd (by rw [upd_ne ne.symm]; exact nme))
  walk_at "rd"
  refine ⟨me, dx, rfl, upd_same, fun H2 S k2 nS e2 eS => ?_⟩
  have nW : W ≠ me := ne_of_none hW nme
  have nR : R ≠ me := ne_of_none hR nme
  have k3 : Keep me H H2 := (Same.keep s1).trans k2
  have nS2 : S ≠ W := fun z => by rw [z, s1 _ _ hW] at nS; cases nS
  have rk : RkSt K c_Reckoner H2 me dx W R S kvs cs [] [] := ⟨e2, k3 _ _ nW hW, k3 _ _ nR hR, eS, .nil, (fun z => by rw [← z, s1 _ _ hR] at nS; cases nS), ai, cl, cm, (fun p hp => by cases hp)⟩
  refine ⟨rfl, ?_⟩
  walk_at "rd"
  have s2 : Same H H2 := fun b o e => k2 _ _ (ne_of_none e nme) (s1 _ _ e)
  refine ⟨me, dx, W, R, S, kvs, cs, [], [], t, rfl, rk, Dp.same s2 _ _ ht, hd, ok, by simpa using hl, fun H3 v vs3 k3 rk3 hv => ?_⟩
  exact q H3 v (fun b o e => k3 _ _ (fun z => by rw [← z, s1 _ _ e] at nS; cases nS) (s2 _ _ e)) hv
theorem ok_farS (D : DefAt K mg "_law_far" s_law_far ["_law_draw"]) (B : Blt mg) (G_law_take : OkF P w K mg base CX0 1 "_law_take" ["_law_draw", "_law_sides"] spTake) : OkF P w K mg base CX0 2 "_law_far" ["_law_draw"] spFarS := by
  refine D.ok sc_law_far len1 (fun f cdv A outer s H vs Q E hr h => ?_)
  obtain ⟨_, rfl, p, a, rfl, d, q⟩ := h
  refine ⟨_, (pss_cons (ps_set (i := 1) sc_law_far.nd rfl (by first | exact .inl rfl | exact .inr rfl) (pe_op o_mulA (pe_op (o_add (K := K)) (pe_op o_pow pe_int pe_int) (u_call G_law_take (hr.mono (by omega)) pass0 (pa_cons (pv 0) (pa_cons (pe_op o_pow pe_int pe_int) pa_nil)))) (pe_ix (u_ixA (K := K) (w := w) hr.units) (pe_lst (pa_cons pe_int (pa_cons (pe_op o_pow pe_int pe_int) pa_nil))) (u_call G_law_take (hr.mono (by omega)) pass0 (pa_cons (pv 0) (pa_cons pe_int pa_nil))) (fun _ _ => rfl))))
    (pss_one (ps_ret (pe_op o_mulA (pv 1) (pe_ix (u_ixA (K := K) (w := w) hr.units) (pe_lst (pa_cons pe_int (pa_cons (pe_un un_neg pe_int) pa_nil))) (u_call G_law_take (hr.mono (by omega)) pass0 (pa_cons (pv 0) (pa_cons pe_int pa_nil))) (fun _ _ => rfl)))))), ?_⟩
  refine s_start (σ' := [some (.ref p), none]) rfl ?_
  walk_at "rd"
  refine s_pow ⟨by decide, by decide, by decide⟩ ?_
  rw [show ((10 : Int) ^ (9 : Int).toNat) = 1000000000 from by decide]
  walk_at "rd"
  refine s_pow ⟨by decide, by decide, by decide⟩ ?_
  rw [show ((10 : Int) ^ (9 : Int).toNat) = 1000000000 from by decide]
  walk_at "rd"
  refine ⟨p, a, 1000000000, rfl, rfl, by decide, by decide, d, fun H2 n k2 d2 n0 n1 => ?_⟩
  walk_at "rd"
  refine s_pow ⟨by decide, by decide, by decide⟩ ?_
  rw [show ((10 : Int) ^ (19 : Int).toNat) = 10000000000000000000 from by decide]
  walk_at "rd"
  intro l3 n3
  have s3 := same_upd (o := .lst [.int 1, .int 10000000000000000000]) n3
  walk_at "rd"
  refine ⟨p, a, 2, rfl, rfl, by decide, by decide, d2.same s3, fun H4 m k4 d4 m0 m1 => ?_⟩
  obtain ⟨g, hg, hg2⟩ : ∃ g : Int, atI [V.int 1, .int 10000000000000000000] m = some (.int g) ∧ (g = 1 ∨ g = 10000000000000000000) := by
    have : m = 0 ∨ m = 1 := by omega
    rcases this with rfl | rfl
    · exact ⟨_, rfl, .inl rfl⟩
    · exact ⟨_, rfl, .inr rfl⟩
  refine s_ixA (s_ixL (k4.sqL (d2.ne n3) (SqL.of upd_same)) hg ?_)
  have sm1 : Sm (1000000000 + n) := by unfold Sm; omega
  have sm2 : Sm g := by unfold Sm; omega
  have sm3 : Sm ((1000000000 + n) * g) := by
    unfold Sm
    rcases hg2 with rfl | rfl <;> omega
  refine s_mulW (sm_mulW sm1 sm2) ?_
  walk_at "rd"
  generalize (1000000000 + n) * g = N at sm3 ⊢
  intro l5 n5
  have s5 := same_upd (o := .lst [.int 1, .int (-1)]) n5
  walk_at "rd"
  refine ⟨p, a, 2, rfl, rfl, by decide, by decide, d4.same s5, fun H6 c k6 d6 c0 c1 => ?_⟩
  have kk : Keep p H H6 := k2.trans ((Same.keep s3).trans (k4.trans ((Same.keep s5).trans k6)))
  obtain ⟨g, hg, hg2⟩ : ∃ g : Int, atI [V.int 1, .int (-1)] c = some (.int g) ∧ (g = 1 ∨ g = -1) := by
    have : c = 0 ∨ c = 1 := by omega
    rcases this with rfl | rfl
    · exact ⟨_, rfl, .inl rfl⟩
    · exact ⟨_, rfl, .inr rfl⟩
  refine s_ixA (s_ixL (k6.sqL (d4.ne n5) (SqL.of upd_same)) hg ?_)
  refine s_mulW (sm_mulW sm3 (by unfold Sm; omega)) ?_
  refine q _ _ kk d6 ?_
  unfold Sm at sm3 ⊢
  rcases hg2 with rfl | rfl <;> omega
theorem ok_rooms (D : DefAt K mg "_law_rooms" s_law_rooms ["_law_draw"]) (B : Blt mg) (G_law_take : OkF P w K mg base CX0 1 "_law_take" ["_law_draw", "_law_sides"] spTake) (G_law_one : OkF P w K mg base CX0 2 "_law_one" ["_law_draw", "_law_row"] (spOne K)) (G_law_far : OkF P w K mg base CX0 2 "_law_far" ["_law_draw"] spFarS) :
    OkF P w K mg base CX0 3 "_law_rooms" ["_law_draw"] spRooms := by
  refine D.ok sc_law_rooms len1 (fun f cdv A outer s H vs Q E hr h => ?_)
  obtain ⟨_, rfl, p, a, rfl, d, q⟩ := h
  refine ⟨_, (pss_one (ps_ret (pe_lc (own := [("_law_k", 1)]) (g := (gName 1)) (tt := tYes) rfl sc_law_rooms.nd (pi_range1 (by rfl) B.range (pa_cons pe_int pa_nil)) (blkOk_by (N := ["_law_draw", "_law_k"]) (sc := defScope s_law_rooms) (own := [("_law_k", 1)]) (by decide +kernel)) (fun _ _ _ _ _ => (pg_name (i := 1) sc_law_rooms.nd rfl (by first | exact .inl rfl | exact .inr rfl))) (fun _ _ _ _ _ => pts_nil) (fun _ _ _ _ _ => (u_call G_law_one (hr.mono (by omega)) pass0 (pa_cons (pv 0) (pa_cons (pe_lst (pa_cons pe_int (pa_cons pe_int (pa_cons pe_int (pa_cons (pe_op o_sub (u_call G_law_take (hr.mono (by omega)) pass0 (pa_cons (pv 0) (pa_cons pe_int pa_nil))) pe_int) (pa_cons (u_call G_law_far (hr.mono (by omega)) pass0 (pa_cons (pv 0) pa_nil)) pa_nil)))))) pa_nil))))))), ?_⟩
  refine s_start (σ' := [some (.ref p), none]) rfl ?_
  walk_at "rd"
  refine ⟨by decide, by decide, ?_⟩
  refine lcB_of 16 (fun D' i acc H' => ∃ cs : List Int, acc = cs.map V.int ∧ cs.length = i ∧ (∀ c ∈ cs, Sm c) ∧ Keep p H H' ∧ Draw H' p a) ?_ ?_ ?_ ?_ ?_
  · intro D' hD
    have s1 := same_upd (o := .lst []) hD
    exact ⟨[], rfl, rfl, (fun c hc => by cases hc), Same.keep s1, d.same s1⟩
  · intro D' i acc H' _ hi _
    exact hi
  · intro D' acc H' _ _
    exact Nat.le_refl _
  · rintro D' i acc H1 x H1' hD hi ha hl ⟨cs, rfl, hc, hs, k1, d1⟩ ⟨rfl, rfl⟩
    have nDp := d.ne hD
    have nDa := d.ne2 hD
    walk_at "rd"
    refine ⟨rfl, ?_⟩
    walk_at "rd"
    refine ⟨p, a, 30, rfl, rfl, by decide, by decide, d1, fun H3 m k3 d3 m0 m1 => ?_⟩
    walk_at "rd"
    refine ⟨p, a, rfl, d3, fun H4 n k4 d4 hn => ?_⟩
    walk_at "rd"
    intro l5 n5
    have s5 := same_upd (o := .lst [.int 0, .int 0, .int 1, .int (m - 9), .int n]) n5
    walk_at "rd"
    refine ⟨p, a, l5, _, rfl, rfl, d4.ne n5, SqL.of upd_same, Nat.succ_pos _, Nat.le_of_ble_eq_true rfl, d4.same s5, fun H6 v k6 d6 hv => ?_⟩
    have kk : Keep p H1' H6 := k3.trans (k4.trans ((Same.keep s5).trans k6))
    obtain ⟨z, rfl, hz⟩ : ∃ z : Int, v = .int z ∧ Sm z := by
      simp only [List.mem_cons, List.not_mem_nil, or_false] at hv
      rcases hv with rfl | rfl | rfl | rfl | rfl
      · exact ⟨_, rfl, by decide⟩
      · exact ⟨_, rfl, by decide⟩
      · exact ⟨_, rfl, by decide⟩
      · exact ⟨_, rfl, sm_small (by unfold great; omega)⟩
      · exact ⟨_, rfl, hn⟩
    refine LcPost.mk (kk _ _ nDp ha) hl (Nat.lt_of_lt_of_le hi (by decide)) ⟨cs ++ [z], by rw [List.map_append]; rfl, by rw [List.length_append, hc]; rfl, ?_, ?_, d6.updN nDp nDa⟩
    · intro c hc'
      rcases List.mem_append.mp hc' with h | h
      · exact hs c h
      · rw [List.mem_singleton.mp h]
        exact hz
    · intro b o n e
      rw [upd_ne (ne_of_none e hD)]
      exact (k1.trans kk) b o n e
  · rintro D' acc H1 hD ha hl ⟨cs, rfl, hc, hs, k1, d1⟩
    exact q H1 D' cs k1 d1 hD ha hc hs
end
end L2.U
namespace L2.U
open PySem PySem.Spec PyProof.Rows RZ TL
section
variable {P : Program} {w : World} {K : PySem.W.Frag} {mg : Str → Option Value} {base : Heap}
local macro_rules | `(tactic| walk_at "hq") => `(tactic| with_reducible first
  | assumption
  | exact upd_same
  | (refine Same.get (by assumption) ?_; walk_at "hq"))
local macro_rules | `(tactic| walk_at "ne") => `(tactic| with_reducible first
  | assumption
  | (refine Ne.symm ?_; assumption)
  | (refine ne_of_none ?_ (by assumption); walk_at "hq")
  | (refine Ne.symm ?_; refine ne_of_none ?_ (by assumption); walk_at "hq"))
local macro_rules | `(tactic| walk_at "hp") => `(tactic| with_reducible first
  | assumption
  | exact upd_same
  | (refine upd_get (by walk_at "ne") ?_; walk_at "hp")
  | (refine Same.get (by assumption) ?_; walk_at "hp")
  | (refine Keep.get (by assumption) (by walk_at "ne") ?_; walk_at "hp"))
local macro_rules | `(tactic| walk_at "st") => `(tactic| with_reducible first
  | assumption
  | exact SqT.of (by walk_at "hp")
  | (refine Same.sqT (by assumption) ?_; walk_at "st"))
local macro_rules | `(tactic| walk_at "look") => `(tactic| with_reducible first | exact look_0 | exact look_1 (by decide +kernel) | exact look_2 (by decide +kernel) (by decide +kernel) | exact look_3 (by decide +kernel) (by decide +kernel) (by decide +kernel) | exact look_4 (by decide +kernel) (by decide +kernel) (by decide +kernel) (by decide +kernel) | exact look_5 (by decide +kernel) (by decide +kernel) (by decide +kernel) (by decide +kernel) (by decide +kernel) | exact look_6 (by decide +kernel) (by decide +kernel) (by decide +kernel) (by decide +kernel) (by decide +kernel) (by decide +kernel) | exact look_7 (by decide +kernel) (by decide +kernel) (by decide +kernel) (by decide +kernel) (by decide +kernel) (by decide +kernel) (by decide +kernel) | exact look_8 (by decide +kernel) (by decide +kernel) (by decide +kernel) (by decide +kernel) (by decide +kernel) (by decide +kernel) (by decide +kernel) (by decide +kernel) | exact look_9 (by decide +kernel) (by decide +kernel) (by decide +kernel) (by decide +kernel) (by decide +kernel) (by decide +kernel) (by decide +kernel) (by decide +kernel) (by decide +kernel))
local macro_rules | `(tactic| walk_at "put") => `(tactic| with_reducible first | exact put_0 | exact new_0 | exact put_1 (by decide +kernel) | exact new_1 (by decide +kernel) | exact put_2 (by decide +kernel) (by decide +kernel) | exact new_2 (by decide +kernel) (by decide +kernel) | exact put_3 (by decide +kernel) (by decide +kernel) (by decide +kernel) | exact new_3 (by decide +kernel) (by decide +kernel) (by decide +kernel) | exact put_4 (by decide +kernel) (by decide +kernel) (by decide +kernel) (by decide +kernel) | exact new_4 (by decide +kernel) (by decide +kernel) (by decide +kernel) (by decide +kernel) | exact put_5 (by decide +kernel) (by decide +kernel) (by decide +kernel) (by decide +kernel) (by decide +kernel) | exact new_5 (by decide +kernel) (by decide +kernel) (by decide +kernel) (by decide +kernel) (by decide +kernel) | exact put_6 (by decide +kernel) (by decide +kernel) (by decide +kernel) (by decide +kernel) (by decide +kernel) (by decide +kernel) | exact new_6 (by decide +kernel) (by decide +kernel) (by decide +kernel) (by decide +kernel) (by decide +kernel) (by decide +kernel) | exact put_7 (by decide +kernel) (by decide +kernel) (by decide +kernel) (by decide +kernel) (by decide +kernel) (by decide +kernel) (by decide +kernel) | exact new_7 (by decide +kernel) (by decide +kernel) (by decide +kernel) (by decide +kernel) (by decide +kernel) (by decide +kernel) (by decide +kernel) | exact put_8 (by decide +kernel) (by decide +kernel) (by decide +kernel) (by decide +kernel) (by decide +kernel) (by decide +kernel) (by decide +kernel) (by decide +kernel) | exact new_8 (by decide +kernel) (by decide +kernel) (by decide +kernel) (by decide +kernel) (by decide +kernel) (by decide +kernel) (by decide +kernel) (by decide +kernel) | exact put_9 (by decide +kernel) (by decide +kernel) (by decide +kernel) (by decide +kernel) (by decide +kernel) (by decide +kernel) (by decide +kernel) (by decide +kernel) (by decide +kernel) | exact new_9 (by decide +kernel) (by decide +kernel) (by decide +kernel) (by decide +kernel) (by decide +kernel) (by decide +kernel) (by decide +kernel) (by decide +kernel) (by decide +kernel))
local macro_rules | `(tactic| walk_at "nol") => `(tactic| with_reducible first | exact nol_0 | exact nol_1 (by decide +kernel) | exact nol_2 (by decide +kernel) (by decide +kernel) | exact nol_3 (by decide +kernel) (by decide +kernel) (by decide +kernel) | exact nol_4 (by decide +kernel) (by decide +kernel) (by decide +kernel) (by decide +kernel) | exact nol_5 (by decide +kernel) (by decide +kernel) (by decide +kernel) (by decide +kernel) (by decide +kernel) | exact nol_6 (by decide +kernel) (by decide +kernel) (by decide +kernel) (by decide +kernel) (by decide +kernel) (by decide +kernel) | exact nol_7 (by decide +kernel) (by decide +kernel) (by decide +kernel) (by decide +kernel) (by decide +kernel) (by decide +kernel) (by decide +kernel) | exact nol_8 (by decide +kernel) (by decide +kernel) (by decide +kernel) (by decide +kernel) (by decide +kernel) (by decide +kernel) (by decide +kernel) (by decide +kernel) | exact nol_9 (by decide +kernel) (by decide +kernel) (by decide +kernel) (by decide +kernel) (by decide +kernel) (by decide +kernel) (by decide +kernel) (by decide +kernel) (by decide +kernel) | exact nol_10 (by decide +kernel) (by decide +kernel) (by decide +kernel) (by decide +kernel) (by decide +kernel) (by decide +kernel) (by decide +kernel) (by decide +kernel) (by decide +kernel) (by decide +kernel))
local macro_rules | `(tactic| walk_at "at") => `(tactic| with_reducible first | exact atI_0 _ _ | exact atI_1 | exact atI_2 | exact atI_3)
local macro_rules | `(tactic| walk_at "ixn") => `(tactic| with_reducible first | exact ixL_0 | exact ixL_1 | exact ixL_2 | exact ixL_3 | exact ixL_4 | exact ixL_5)
local macro_rules | `(tactic| walk_at "auto") => `(tactic| with_reducible first
  | (apply f_sz; (with_unfolding_all exact rfl))
  | (apply brT; (first | exact rfl | decide +kernel))
  | (apply brF; (decide +kernel))
  | (apply brNT; (first | exact rfl | decide +kernel))
  | (apply brNF; (decide +kernel))
  | (apply f_fld; (walk_at "hp"); (assumption); (simp); (walk_at "look"))
  | (apply f_setF; (walk_at "hp"); (assumption); (simp); (with_unfolding_all exact Nat.le_of_ble_eq_true rfl); (walk_at "put"))
  | (apply f_meth; (walk_at "hp"); (walk_at "nol"))
  | (apply s_callH; (with_unfolding_all exact rfl); (assumption))
  | (apply f_ixL; (walk_at "hp"); (walk_at "at"))
  | (apply f_ixLA; (walk_at "hp"); (walk_at "at"))
  | (apply s_ixT; (walk_at "st"); (walk_at "at"))
  | (apply f_ixTA; (walk_at "st"); (walk_at "at"))
  | (apply f_setL; (walk_at "hp"); (walk_at "ixn"); (exact inferInstance))
  | (apply f_setLA; (walk_at "hp"); (walk_at "ixn"); (exact inferInstance))
  | (apply f_lenL; (walk_at "hp"))
  | (apply f_tyL; (walk_at "hp")))
local macro_rules | `(tactic| walk_at "rd") => `(tactic| repeat (first | with_reducible refine Stp.of ?_ | walk_at "auto"))
def edge : Int := 1000000000000
def kv5 (some near bigv : Int) : List (Key × V) := [(Sum.inr "x", .int (1000000000000 - some + near)), (Sum.inr "y", .int some), (Sum.inr "k", .int (some - 1000000000000 - near)), (Sum.inr "n", .int (0 - some)), (Sum.inr "big", .int bigv)]
theorem nv5 (s n b : Int) : nvOf (kv5 s n b) (Str.ofString "x") = 1000000000000 - s + n ∧ nvOf (kv5 s n b) (Str.ofString "y") = s ∧ nvOf (kv5 s n b) (Str.ofString "k") = s - 1000000000000 - n ∧ nvOf (kv5 s n b) (Str.ofString "n") = 0 - s ∧ nvOf (kv5 s n b) (Str.ofString "big") = b := by
  have h : ∀ (k : Str), nvOf (kv5 s n b) k = if Str.ofString "x" = k then 1000000000000 - s + n else if Str.ofString "y" = k then s else if Str.ofString "k" = k then s - 1000000000000 - n else if Str.ofString "n" = k then 0 - s else if Str.ofString "big" = k then b else 0 := by
    intro k
    unfold nvOf kv5 valV
    simp only [List.find?_cons, List.find?_nil]
    repeat' split
    all_goals simp_all
  refine ⟨?_, ?_, ?_, ?_, ?_⟩
  all_goals rw [h]
  · rw [if_pos rfl]
  · rw [if_neg (by decide +kernel), if_pos rfl]
  · rw [if_neg (by decide +kernel), if_neg (by decide +kernel), if_pos rfl]
  · rw [if_neg (by decide +kernel), if_neg (by decide +kernel), if_neg (by decide +kernel), if_pos rfl]
  · rw [if_neg (by decide +kernel), if_neg (by decide +kernel), if_neg (by decide +kernel), if_neg (by decide +kernel), if_pos rfl]
theorem kv5_ok {s n b : Int} (h1 : 0 ≤ s) (h2 : s < 100000000000) (h3 : -1 ≤ n) (h4 : n ≤ 1) (h5 : Sm b) : AllInt (kv5 s n b) := by
  intro p hp
  simp only [kv5, List.mem_cons, List.not_mem_nil, or_false] at hp
  rcases hp with rfl | rfl | rfl | rfl | rfl
  · exact ⟨_, rfl, by unfold Sm; omega⟩
  · exact ⟨_, rfl, by unfold Sm; omega⟩
  · exact ⟨_, rfl, by unfold Sm; omega⟩
  · exact ⟨_, rfl, by unfold Sm; omega⟩
  · exact ⟨_, rfl, h5⟩
theorem tr2_ok {s a b : Str} (h : s ∈ twoL) (ha : isNm a = true) (hb : isNm b = true) : TrOk (.two s (.nm a) (.nm b)) := ⟨h, ha, hb⟩
theorem nms5 : isNm (Str.ofString "x") = true ∧ isNm (Str.ofString "y") = true ∧ isNm (Str.ofString "k") = true ∧ isNm (Str.ofString "n") = true ∧ isNm (Str.ofString "big") = true ∧ isNm (Str.ofString "s") = true ∧ isNm (Str.ofString "t") = true ∧ isNm (Str.ofString "c") = true := by decide +kernel
def kvst (q : Int) : List (Key × V) := [(Sum.inr "s", .int q), (Sum.inr "t", .int (0 - q))]
theorem nvst (q : Int) : nvOf (kvst q) (Str.ofString "s") = q ∧ nvOf (kvst q) (Str.ofString "t") = 0 - q := by
  have h : ∀ (k : Str), nvOf (kvst q) k = if Str.ofString "s" = k then q else if Str.ofString "t" = k then 0 - q else 0 := by
    intro k
    unfold nvOf kvst valV
    simp only [List.find?_cons, List.find?_nil]
    repeat' split
    all_goals simp_all
  refine ⟨?_, ?_⟩
  all_goals rw [h]
  · rw [if_pos rfl]
  · rw [if_neg (by decide +kernel), if_pos rfl]
theorem kvst_ok {q : Int} (h1 : 0 ≤ q) (h2 : q ≤ 1000000) : AllInt (kvst q) := by
  intro p hp
  simp only [kvst, List.mem_cons, List.not_mem_nil, or_false] at hp
  rcases hp with rfl | rfl
  · exact ⟨_, rfl, by unfold Sm; omega⟩
  · exact ⟨_, rfl, by unfold Sm; omega⟩
def kvc (q : Int) : List (Key × V) := [(Sum.inr "c", .int q)]
theorem nvc (q : Int) : nvOf (kvc q) (Str.ofString "c") = q := by
  unfold nvOf kvc valV
  simp
theorem kvc_ok {q : Int} (h : Sm q) : AllInt (kvc q) := by
  intro p hp
  simp only [kvc, List.mem_cons, List.not_mem_nil, or_false] at hp
  rw [hp]
  exact ⟨_, rfl, h⟩
theorem res_ok {H : Hp} {l : Addr} {m : Int} (e : H l = some (.tup [.int m, .non])) : Dp K H (.ref l) (dRes (.ok m)) := .tup (SqT.of e) (.cons (.int _) (.cons .non .nil))
theorem res_er {H : Hp} {l : Addr} {m : Int} (e : H l = some (.tup [.non, .int m])) : Dp K H (.ref l) (dRes (.error m)) := .tup (SqT.of e) (.cons .non (.cons (.int _) .nil))
theorem dp_nm {H : Hp} {l : Addr} {x : Str} (e : H l = some (.tup [.str "name", .str x])) : Dp K H (.ref l) (dTr (.nm x)) := .tup (SqT.of e) (.cons (.str _) (.cons (.str _) .nil))
theorem dp_nu {H : Hp} {l : Addr} {n : Nat} (e : H l = some (.tup [.str "number", .int (n : Nat)])) : Dp K H (.ref l) (dTr (.nu n)) := .tup (SqT.of e) (.cons (.str _) (.cons (.int _) .nil))
theorem dp_two {H : Hp} {l : Addr} {s : Str} {u v : V} {t1 t2 : Tr} (e : H l = some (.tup [.str s, u, v])) (h1 : Dp K H u (dTr t1)) (h2 : Dp K H v (dTr t2)) : Dp K H (.ref l) (dTr (.two s t1 t2)) := .tup (SqT.of e) (.cons (.str _) (.cons h1 (.cons h2 .nil)))
theorem dp_one {H : Hp} {l : Addr} {s : Str} {u : V} {t1 : Tr} (e : H l = some (.tup [.str s, u])) (h1 : Dp K H u (dTr t1)) : Dp K H (.ref l) (dTr (.one s t1)) := .tup (SqT.of e) (.cons (.str _) (.cons h1 .nil))
theorem bnd_abs_ok {m : Int} (h : (if m < 0 then -m else m) < 1000000000000) : bnd m = .ok m := by
  unfold bnd great
  rw [if_pos]
  split at h <;> omega
theorem bnd_abs_er {m : Int} (h : ¬ (if m < 0 then -m else m) < 1000000000000) : bnd m = .error (-3) := by
  unfold bnd great
  rw [if_neg]
  split at h <;> omega
theorem ok_law {fa : Addr} {fd : FuncData} (F : Fun K "law" "law" s_law fa fd) (B : Blt mg) (G_law_begin : OkF P w K mg base CX0 1 "_law_begin" ["_law_script"] (spBegin K)) (G_law_take : OkF P w K mg base CX0 1 "_law_take" ["_law_draw", "_law_sides"] spTake)
    (G_law_same : OkF P w K mg base CX0 5 "_law_same" ["_law_found", "_law_due"] (spSame K 5)) (G_law_far : OkF P w K mg base CX0 2 "_law_far" ["_law_draw"] spFarS)
    (G_worth : OkF P w K mg base CX0 8 "worth" ["tree", "names", "cells"] (spWorth K 4)) (G_law_rooms : OkF P w K mg base CX0 3 "_law_rooms" ["_law_draw"] spRooms) :
    FnOk P w K mg base CX0 10 fa fd ["_law_script"] (spLaw K) := by
  refine F.ok sc_law len1 (fun cdv A outer s H vs Q E hr h => ?_)
  obtain ⟨_, rfl, b, ns, rfl, hS, hl, q⟩ := h
  refine ⟨_, (pss_cons (ps_set (i := 1) sc_law.nd rfl (by first | exact .inl rfl | exact .inr rfl) (u_call G_law_begin (hr.mono (by omega)) pass0 (pa_cons (pv 0) pa_nil)))
    (pss_cons (ps_set (i := 2) sc_law.nd rfl (by first | exact .inl rfl | exact .inr rfl) (pe_op o_pow pe_int pe_int))
    (pss_cons (ps_set (i := 3) sc_law.nd rfl (by first | exact .inl rfl | exact .inr rfl) (u_call G_law_rooms (hr.mono (by omega)) pass0 (pa_cons (pv 1) pa_nil)))
    (pss_cons (ps_for PassesOwn.never (by rfl) (pi_range1 (by rfl) B.range (pa_cons pe_int pa_nil)) (pg_name (i := 4) sc_law.nd rfl (by first | exact .inl rfl | exact .inr rfl)) (pss_cons (ps_set (i := 5) sc_law.nd rfl (by first | exact .inl rfl | exact .inr rfl) (u_call G_law_take (hr.mono (by omega)) pass0 (pa_cons (pv 1) (pa_cons (pe_op o_pow pe_int pe_int) pa_nil))))
    (pss_cons (ps_set (i := 6) sc_law.nd rfl (by first | exact .inl rfl | exact .inr rfl) (pe_op o_sub (u_call G_law_take (hr.mono (by omega)) pass0 (pa_cons (pv 1) (pa_cons pe_int pa_nil))) pe_int))
    (pss_cons (ps_set (i := 7) sc_law.nd rfl (by first | exact .inl rfl | exact .inr rfl) (pe_disp (pps_cons pe_str (pe_op (o_add (K := K)) (pe_op o_sub (pv 2) (pv 5)) (pv 6)) (pps_cons pe_str (pv 5) (pps_cons pe_str (pe_op o_sub (pe_op o_sub (pv 5) (pv 2)) (pv 6)) (pps_cons pe_str (pe_op o_sub pe_int (pv 5)) (pps_cons pe_str (u_call G_law_far (hr.mono (by omega)) pass0 (pa_cons (pv 1) pa_nil)) pps_nil))))) (by rfl) (by rfl) (fun z => by cases z) (by decide)))
    (pss_cons (ps_set (i := 8) sc_law.nd rfl (by first | exact .inl rfl | exact .inr rfl) (pe_lst (pa_cons (pe_tup (pa_cons pe_str (pa_cons pe_str (pa_cons pe_str (pa_cons (pe_op (o_add (K := K)) (pv 2) (pv 6)) pa_nil))))) (pa_cons (pe_tup (pa_cons pe_str (pa_cons pe_str (pa_cons pe_str (pa_cons (pe_op (o_add (K := K)) (pv 2) (pv 6)) pa_nil))))) (pa_cons (pe_tup (pa_cons pe_str (pa_cons pe_str (pa_cons pe_str (pa_cons (pe_op o_sub (pe_op o_sub pe_int (pv 2)) (pv 6)) pa_nil))))) pa_nil)))))
    (pss_cons (ps_expr (u_bm (K := K) PySem.F.plainAttrs_list PySem.F.slot_list_append PySem.F.type_list_append mt_append (pv 8) (pa_cons (pe_tup (pa_cons pe_str (pa_cons pe_str (pa_cons pe_str (pa_cons (pe_op o_sub (pe_op o_sub pe_int (pv 2)) (pv 6)) pa_nil))))) pa_nil)))
    (pss_cons (ps_for PassesOwn.never (by rfl) (u_iList (K := K) (pv 8)) (u_tup (K := K) rfl (pgs_cons (pg_name (i := 9) sc_law.nd rfl (by first | exact .inl rfl | exact .inr rfl)) (pgs_cons (pg_name (i := 10) sc_law.nd rfl (by first | exact .inl rfl | exact .inr rfl)) (pgs_cons (pg_name (i := 11) sc_law.nd rfl (by first | exact .inl rfl | exact .inr rfl)) (pgs_cons (pg_name (i := 12) sc_law.nd rfl (by first | exact .inl rfl | exact .inr rfl)) pgs_nil))))) (pss_cons (ps_set (i := 13) sc_law.nd rfl (by first | exact .inl rfl | exact .inr rfl) (pe_ifExp (pt_cmpR o_lt (pe_callB call_abs (by rfl) B.abs (by decide +kernel) (pa_cons (pv 12) pa_nil)) (pv 2) (nomark _)) (pe_tup (pa_cons (pv 12) (pa_cons pe_non pa_nil))) (pe_tup (pa_cons pe_non (pa_cons (pe_un un_neg pe_int) pa_nil)))))
    (pss_one (ps_if (pt_not (u_truth (K := K) (u_call G_law_same (hr.mono (by omega)) pass0 (pa_cons (u_call G_worth (hr.mono (by omega)) pass0 (pa_cons (pe_tup (pa_cons (pv 9) (pa_cons (pe_tup (pa_cons pe_str (pa_cons (pv 10) pa_nil))) (pa_cons (pe_tup (pa_cons pe_str (pa_cons (pv 11) pa_nil))) pa_nil)))) (pa_cons (pv 7) (pa_cons (pv 3) pa_nil)))) (pa_cons (pv 13) pa_nil))))) (pss_one (ps_ret pe_bl)) pss_nil))))
    (pss_cons (ps_set (i := 14) sc_law.nd rfl (by first | exact .inl rfl | exact .inr rfl) (pe_op o_sub (pe_op o_pow pe_int pe_int) (u_call G_law_take (hr.mono (by omega)) pass0 (pa_cons (pv 1) (pa_cons pe_int pa_nil)))))
    (pss_cons (ps_set (i := 13) sc_law.nd rfl (by first | exact .inl rfl | exact .inr rfl) (pe_ifExp (pt_cmpR (o_eqA (K := K) hr.units) (pv 14) (pe_op o_pow pe_int pe_int) (nomark _)) (pe_tup (pa_cons pe_non (pa_cons (pe_un un_neg pe_int) pa_nil))) (pe_tup (pa_cons (pe_op o_mulA (pv 14) (pv 14)) (pa_cons pe_non pa_nil)))))
    (pss_cons (ps_set (i := 15) sc_law.nd rfl (by first | exact .inl rfl | exact .inr rfl) (pe_ifExp (pt_cmpR (o_eqA (K := K) hr.units) (pv 14) (pe_op o_pow pe_int pe_int) (nomark _)) (pe_tup (pa_cons pe_non (pa_cons (pe_un un_neg pe_int) pa_nil))) (pe_tup (pa_cons (pe_op o_sub pe_int (pe_op o_mulA (pv 14) (pv 14))) (pa_cons pe_non pa_nil)))))
    (pss_cons (ps_set (i := 16) sc_law.nd rfl (by first | exact .inl rfl | exact .inr rfl) (pe_disp (pps_cons pe_str (pv 14) (pps_cons pe_str (pe_op o_sub pe_int (pv 14)) pps_nil)) (by rfl) (by rfl) (fun z => by cases z) (by decide)))
    (pss_cons (ps_setLc (i := 17) (own := [("_law_name", 19)]) (g := (gName 19)) (tt := tYes) rfl sc_law.nd rfl rfl (sw_true rfl rfl rfl (by decide +kernel)) (u_iTup (K := K) (pe_tup (pa_cons pe_str (pa_cons pe_str pa_nil)))) (blkOk_by (N := ["_law_script", "_law_draw", "_law_edge", "_law_cells", "_law_k", "_law_some", "_law_near", "_law_names", "_law_rows", "_law_sign", "_law_one_here", "_law_other", "_law_made", "_law_due", "_law_square", "_law_below", "_law_pair", "_law_found", "_law_at", "_law_name"]) (sc := defScope s_law) (own := [("_law_name", 19)]) (by decide +kernel)) (fun _ _ _ _ _ => (pg_name (i := 19) sc_law.nd rfl (by first | exact .inl rfl | exact .inr rfl))) (fun _ _ _ _ _ => pts_nil) (fun _ _ _ _ _ => (u_call G_worth (hr.mono (by omega)) pass0 (pa_cons (pe_tup (pa_cons pe_str (pa_cons (pe_tup (pa_cons pe_str (pa_cons pe_str pa_nil))) (pa_cons (pe_tup (pa_cons pe_str (pa_cons (pv 19) pa_nil))) pa_nil)))) (pa_cons (pv 16) (pa_cons (pv 3) pa_nil))))))
    (pss_cons (ps_if (pt_not (u_truth (K := K) (u_call G_law_same (hr.mono (by omega)) pass0 (pa_cons (pv 17) (pa_cons (pe_lst (pa_cons (pv 13) (pa_cons (pv 15) pa_nil))) pa_nil))))) (pss_one (ps_ret pe_bl)) pss_nil)
    (pss_cons (ps_for PassesOwn.never (by rfl) (u_iTup (K := K) (pe_tup (pa_cons pe_str (pa_cons pe_str pa_nil)))) (pg_name (i := 9) sc_law.nd rfl (by first | exact .inl rfl | exact .inr rfl)) (pss_one (ps_if (pt_not (u_truth (K := K) (u_call G_law_same (hr.mono (by omega)) pass0 (pa_cons (u_call G_worth (hr.mono (by omega)) pass0 (pa_cons (pe_tup (pa_cons (pv 9) (pa_cons (pe_tup (pa_cons pe_str (pa_cons pe_str pa_nil))) (pa_cons (pe_tup (pa_cons pe_str (pa_cons pe_int pa_nil))) pa_nil)))) (pa_cons (pv 7) (pa_cons (pv 3) pa_nil)))) (pa_cons (pe_tup (pa_cons pe_non (pa_cons (pe_un un_neg pe_int) pa_nil))) pa_nil))))) (pss_one (ps_ret pe_bl)) pss_nil)))
    (pss_cons (ps_if (pt_not (u_truth (K := K) (u_call G_law_same (hr.mono (by omega)) pass0 (pa_cons (u_call G_worth (hr.mono (by omega)) pass0 (pa_cons (pe_tup (pa_cons pe_str (pa_cons (pe_tup (pa_cons pe_str (pa_cons pe_str pa_nil))) (pa_cons (pe_tup (pa_cons pe_str (pa_cons pe_int pa_nil))) pa_nil)))) (pa_cons (pv 7) (pa_cons (pv 3) pa_nil)))) (pa_cons (pe_tup (pa_cons (pe_ix (u_ixA (K := K) (w := w) hr.units) (pv 7) pe_str (fun _ _ => rfl)) (pa_cons pe_non pa_nil))) pa_nil))))) (pss_one (ps_ret pe_bl)) pss_nil)
    (pss_one (ps_for PassesOwn.never (by rfl) (u_iTup (K := K) (pe_tup (pa_cons (pe_un un_neg pe_int) (pa_cons pe_int (pa_cons pe_int (pa_cons pe_int (pa_cons (pe_ix (u_ixA (K := K) (w := w) hr.units) (pv 7) pe_str (fun _ _ => rfl)) pa_nil))))))) (pg_name (i := 18) sc_law.nd rfl (by first | exact .inl rfl | exact .inr rfl)) (pss_cons (ps_set (i := 13) sc_law.nd rfl (by first | exact .inl rfl | exact .inr rfl) (pe_ifExp (pt_chain o_le o_lt pe_int (pv 18) pe_int) (pe_tup (pa_cons (pe_ix (u_ixA (K := K) (w := w) hr.units) (pv 3) (pv 18) (fun _ _ => rfl)) (pa_cons pe_non pa_nil))) (pe_tup (pa_cons pe_non (pa_cons (pe_un un_neg pe_int) pa_nil)))))
    (pss_one (ps_if (pt_not (u_truth (K := K) (u_call G_law_same (hr.mono (by omega)) pass0 (pa_cons (u_call G_worth (hr.mono (by omega)) pass0 (pa_cons (pe_tup (pa_cons pe_str (pa_cons (pe_tup (pa_cons pe_str (pa_cons pe_str pa_nil))) pa_nil))) (pa_cons (pe_disp (pps_cons pe_str (pv 18) pps_nil) (by rfl) (by rfl) (fun z => by cases z) (by decide)) (pa_cons (pv 3) pa_nil)))) (pa_cons (pv 13) pa_nil))))) (pss_one (ps_ret pe_bl)) pss_nil))))))))))))))))))))
    (pss_one (ps_ret pe_bl)))))), ?_⟩
  refine s_start (σ' := [some (.ref b), none, none, none, none, none, none, none, none, none, none, none, none, none, none, none, none, none, none, none]) rfl ?_
  walk_at "rd"
  refine ⟨b, ns, rfl, hS, hl, fun H1 p a s1 n1 d1 => ?_⟩
  walk_at "rd"
  refine s_pow ⟨by decide, by decide, by decide⟩ ?_
  rw [show ((10 : Int) ^ (12 : Int).toNat) = 1000000000000 from by decide]
  walk_at "rd"
  refine ⟨p, a, rfl, d1, fun H2 R cs k2 d2 nR eR cl cm => ?_⟩
  walk_at "rd"
  refine ⟨by decide, by decide, ?_⟩
  have Rp : R ≠ p := d1.ne nR
  refine forB_range (n := 6) (fun i σ H' => ∃ x4 x5 x6 x7 x8 x9 x10 x11 x12 x13 x14 x15 x16 x17 x18, σ = [some (.ref b), some (.ref p), some (.int 1000000000000), some (.ref R), x4, x5, x6, x7, x8, x9, x10, x11, x12, x13, x14, x15, x16, x17, x18, none] ∧ Draw H' p a ∧ H' R = some (.lst (cs.map V.int))) ⟨none, none, none, none, none, none, none, none, none, none, none, none, none, none, none, rfl, d2, eR⟩ ?_ ?_
  · rintro i σ H3 hi ⟨x4, x5, x6, x7, x8, x9, x10, x11, x12, x13, x14, x15, x16, x17, x18, rfl, d3, eR3⟩
    walk_at "rd"
    refine s_pow ⟨by decide, by decide, by decide⟩ ?_
    rw [show ((10 : Int) ^ (11 : Int).toNat) = 100000000000 from by decide]
    walk_at "rd"
    refine ⟨p, a, 100000000000, rfl, rfl, by decide, by decide, d3, fun H4 sm k4 d4 m0 m1 => ?_⟩
    walk_at "rd"
    refine ⟨p, a, 3, rfl, rfl, by decide, by decide, d4, fun H5 nr k5 d5 r0 r1 => ?_⟩
    walk_at "rd"
    intro N nN
    have s6 := same_upd (o := .dK []) nN
    walk_at "rd"
    refine ⟨p, a, rfl, d5.same s6, fun H7 bg k7 d7 hb => ?_⟩
    walk_at "rd"
    have Np : N ≠ p := d5.ne nN
    have Na : N ≠ a := d5.ne2 nN
    have eN7 := k7 _ _ Np upd_same
    refine ⟨eN7, kv5 sm (nr - 1) bg, rfl, Nat.le_of_ble_eq_true rfl, ?_⟩
    rw [show mergeK [] (kv5 sm (nr - 1) bg) = kv5 sm (nr - 1) bg from by with_unfolding_all rfl]
    generalize hnr : nr - 1 = near
    have near0 : -1 ≤ near := by omega
    have near1 : near ≤ 1 := by omega
    have aiN := kv5_ok m0 m1 near0 near1 hb
    obtain ⟨nvx, nvy, nvk, nvn, nvb⟩ := nv5 sm near bg
    have RN : R ≠ N := ne_of_none (k5 _ _ Rp (k4 _ _ Rp eR3)) nN
    have eR7 : H7 R = some (.lst (cs.map V.int)) := k7 _ _ Rp (s6 _ _ (k5 _ _ Rp (k4 _ _ Rp eR3)))
    obtain ⟨H8, h8⟩ : ∃ H8, H8 = upd H7 N (.dK (kv5 sm near bg)) := ⟨_, rfl⟩
    rw [← h8]
    have eN8 : H8 N = some (.dK (kv5 sm near bg)) := by rw [h8]; exact upd_same
    have eR8 : H8 R = some (.lst (cs.map V.int)) := by rw [h8, upd_ne RN]; exact eR7
    have d8 : Draw H8 p a := by rw [h8]; exact d7.updN Np Na
    clear h8
    walk_at "rd"
    intro T1 nT1
    have t1 := same_upd (o := .tup [.str "+", .str "x", .str "y", .int (1000000000000 + near)]) nT1
    walk_at "rd"
    intro T2 nT2
    have t2 := same_upd (o := .tup [.str "-", .str "x", .str "n", .int (1000000000000 + near)]) nT2
    walk_at "rd"
    intro T3 nT3
    have t3 := same_upd (o := .tup [.str "+", .str "k", .str "n", .int (0 - 1000000000000 - near)]) nT3
    walk_at "rd"
    intro L nL
    have t4 := same_upd (o := .lst [.ref T1, .ref T2, .ref T3]) nL
    have ss := t1.trans (t2.trans (t3.trans t4))
    have eT1 := (t2.trans (t3.trans t4)) _ _ (upd_same (H := H8) (a := T1) (o := .tup [.str "+", .str "x", .str "y", .int (1000000000000 + near)]))
    have eT2 := (t3.trans t4) _ _ (upd_same (a := T2) (o := .tup [.str "-", .str "x", .str "n", .int (1000000000000 + near)]))
    have eT3 := t4 _ _ (upd_same (a := T3) (o := .tup [.str "+", .str "k", .str "n", .int (0 - 1000000000000 - near)]))
    have eN9 := ss _ _ eN8
    have eR9 := ss _ _ eR8
    have d9 := d8.same ss
    have LR : L ≠ R := (ne_of_none ((t1.trans (t2.trans t3)) _ _ eR8) nL).symm
    have Lp : L ≠ p := (d8.same (t1.trans (t2.trans t3))).ne nL
    have La : L ≠ a := (d8.same (t1.trans (t2.trans t3))).ne2 nL
    obtain ⟨H9, h9⟩ : ∃ H9, H9 = upd (upd (upd (upd H8 T1 (.tup [.str "+", .str "x", .str "y", .int (1000000000000 + near)])) T2 (.tup [.str "-", .str "x", .str "n", .int (1000000000000 + near)])) T3 (.tup [.str "+", .str "k", .str "n", .int (0 - 1000000000000 - near)])) L (.lst [.ref T1, .ref T2, .ref T3]) := ⟨_, rfl⟩
    have eL9 : H9 L = some (.lst [.ref T1, .ref T2, .ref T3]) := by rw [h9]; exact upd_same
    rw [← h9] at eT1 eT2 eT3 eN9 eR9 d9 ⊢
    clear h9 ss t1 t2 t3 t4
    walk_at "rd"
    intro T4 nT4
    have t5 := same_upd (o := .tup [.str "-", .str "k", .str "y", .int (0 - 1000000000000 - near)]) nT4
    have TL : T4 ≠ L := (ne_of_none eL9 nT4).symm
    walk_at "rd"
    refine s_append (t5 _ _ eL9) (show 3 < sizeLine by decide) ?_
    have k10 : Keep L H9 (upd (upd H9 T4 (.tup [.str "-", .str "k", .str "y", .int (0 - 1000000000000 - near)])) L (.lst ([.ref T1, .ref T2, .ref T3] ++ [.ref T4]))) := (Same.keep t5).trans Keep.upd
    have eT4 : (upd (upd H9 T4 (.tup [.str "-", .str "k", .str "y", .int (0 - 1000000000000 - near)])) L (.lst ([.ref T1, .ref T2, .ref T3] ++ [.ref T4]))) T4 = some (.tup [.str "-", .str "k", .str "y", .int (0 - 1000000000000 - near)]) := by rw [upd_ne TL]; exact upd_same
    have eL10 : (upd (upd H9 T4 (.tup [.str "-", .str "k", .str "y", .int (0 - 1000000000000 - near)])) L (.lst ([.ref T1, .ref T2, .ref T3] ++ [.ref T4]))) L = some (.lst [.ref T1, .ref T2, .ref T3, .ref T4]) := upd_same
    have nl : ∀ (x : Addr) (o : HO), H9 x = some o → (∀ ys, o ≠ .lst ys) → x ≠ L := fun x o e h z => by rw [z, eL9] at e; exact h _ (Option.some.inj e).symm
    replace eT1 := k10 _ _ (nl _ _ eT1 (fun _ z => by cases z)) eT1
    replace eT2 := k10 _ _ (nl _ _ eT2 (fun _ z => by cases z)) eT2
    replace eT3 := k10 _ _ (nl _ _ eT3 (fun _ z => by cases z)) eT3
    replace eN9 := k10 _ _ (nl _ _ eN9 (fun _ z => by cases z)) eN9
    replace eR9 := k10 _ _ LR.symm eR9
    replace d9 : Draw _ p a := d9.keepN k10 Lp.symm La.symm
    obtain ⟨HA, hA⟩ : ∃ HA, HA = upd (upd H9 T4 (.tup [.str "-", .str "k", .str "y", .int (0 - 1000000000000 - near)])) L (.lst ([.ref T1, .ref T2, .ref T3] ++ [.ref T4])) := ⟨_, rfl⟩
    rw [← hA] at eT1 eT2 eT3 eT4 eN9 eR9 eL10 d9 ⊢
    clear hA k10 nl
    walk_at "rd"
    refine s_itL (xs := [.ref T1, .ref T2, .ref T3, .ref T4]) (SqL.of eL10) ?_
    have rows : ∀ (i : Nat) (x : V), [V.ref T1, .ref T2, .ref T3, .ref T4][i]? = some x → ∃ (T : Addr) (s u v : Str) (m : Int), x = .ref T ∧ HA T = some (.tup [.str s, .str u, .str v, .int m]) ∧ s ∈ twoL ∧ isNm u = true ∧ isNm v = true ∧ pairV s (nvOf (kv5 sm near bg) u) (nvOf (kv5 sm near bg) v) = bnd m := by
      intro i x hx
      have hi : i = 0 ∨ i = 1 ∨ i = 2 ∨ i = 3 := by
        have := (List.getElem?_eq_some_iff.mp hx).1
        simp at this
        omega
      have pl : Str.ofString "+" ∈ twoL ∧ Str.ofString "-" ∈ twoL := by decide +kernel
      obtain ⟨y1, y2, y3, y4, y5, _⟩ := nms5
      rcases hi with rfl | rfl | rfl | rfl
      · cases hx
        exact ⟨T1, _, _, _, _, rfl, eT1, pl.1, y1, y2, by rw [nvx, nvy]; show bnd _ = _; congr 1; omega⟩
      · cases hx
        exact ⟨T2, _, _, _, _, rfl, eT2, pl.2, y1, y4, by rw [nvx, nvn]; show bnd _ = _; congr 1; omega⟩
      · cases hx
        exact ⟨T3, _, _, _, _, rfl, eT3, pl.1, y3, y4, by rw [nvk, nvn]; show bnd _ = _; congr 1; omega⟩
      · cases hx
        exact ⟨T4, _, _, _, _, rfl, eT4, pl.2, y3, y2, by rw [nvk, nvy]; show bnd _ = _; congr 1; omega⟩
    have wN : ∀ (t : Tr) H' (QQ : VK), Same HA H' → TrOk t → dep t < 4 → (tw t).length ≤ 900 → (∀ v, Dp K H' v (dTr t) → (∀ H'' u, Same H' H'' → Dp K H'' u (dRes (val (nvOf (kv5 sm near bg)) cs t)) → QQ u H'') → pWorth K 4 v (.ref N) (.ref R) H' QQ E0) := fun t H' QQ s1 h1 h2 h3 v h4 h5 =>
      ⟨N, R, _, cs, t, rfl, rfl, s1 _ _ eN9, s1 _ _ eR9, aiN, cl, cm, h4, h2, h1, by omega, h5⟩
    refine forB_list (xs := [.ref T1, .ref T2, .ref T3, .ref T4]) (fun j σ H' => ∃ x9 x10 x11 x12 x13, σ = [some (.ref b), some (.ref p), some (.int 1000000000000), some (.ref R), some (.int (0 + i)), some (.int sm), some (.int near), some (.ref N), some (.ref L), x9, x10, x11, x12, x13, x14, x15, x16, x17, x18, none] ∧ Same HA H') ⟨_, _, _, _, _, rfl, fun _ _ h => h⟩ ?_ ?_ ?_
    · rintro j σ H' _ ⟨_, _, _, _, _, rfl, s1⟩
      exact SqL.of (s1 _ _ eL10)
    · rintro j x σ HB hx ⟨_, _, _, _, _, rfl, sB⟩
      obtain ⟨T, sg, u, v, m, rfl, eT, g1, g2, g3, g4⟩ := rows j x hx
      refine s_gTup (SqT.of (sB _ _ eT)) rfl ?_
      walk_at "rd"
      have core : ∀ (l : Addr) HC (r : Except Int Int), Same HB HC → HC l = some (match r with | .ok m => .tup [.int m, .non] | .error m => .tup [.non, .int m]) → bnd m = r → ∀ QQ : VK, (∀ HD u, Same HC HD → Dp K HD u (dRes r) → QQ u HD) → ∀ l1, HC l1 = none → ∀ l2, (upd HC l1 (.tup [.str "name", .str u])) l2 = none → ∀ l3, (upd (upd HC l1 (.tup [.str "name", .str u])) l2 (.tup [.str "name", .str v])) l3 = none → pWorth K 4 (.ref l3) (.ref N) (.ref R) (upd (upd (upd HC l1 (.tup [.str "name", .str u])) l2 (.tup [.str "name", .str v])) l3 (.tup [.str sg, .ref l1, .ref l2])) QQ E0 := by
        intro l HC r sC _ hr QQ hq l1 z1 l2 z2 l3 z3
        have a1 := same_upd (o := .tup [.str "name", .str u]) z1
        have a2 := same_upd (o := .tup [.str "name", .str v]) z2
        have a3 := same_upd (o := .tup [.str sg, .ref l1, .ref l2]) z3
        refine wN (.two sg (.nm u) (.nm v)) _ QQ (sB.trans (sC.trans (a1.trans (a2.trans a3)))) (tr2_ok g1 g2 g3) (by simp [dep]) (by simp [tw]) _ (dp_two upd_same (dp_nm (a3 _ _ (a2 _ _ upd_same))) (dp_nm (a3 _ _ upd_same))) (fun HD w' sD hw => hq HD w' (a1.trans (a2.trans (a3.trans sD))) ?_)
        rw [show val (nvOf (kv5 sm near bg)) cs (.two sg (.nm u) (.nm v)) = r from g4.trans hr] at hw
        exact hw
      refine br (fun z => ?_) (fun z => ?_)
      · walk_at "rd"
        intro l nl
        have sl := same_upd (o := .tup [.int m, .non]) nl
        walk_at "rd"
        intro l1 z1
        walk_at "rd"
        intro l2 z2
        walk_at "rd"
        intro l3 z3
        walk_at "rd"
        refine core l _ (.ok m) sl upd_same (bnd_abs_ok z) _ (fun HD w' sD hw => ?_) l1 z1 l2 z2 l3 z3
        walk_at "rd"
        refine ⟨_, hw, res_ok (sD _ _ upd_same), OkS.okD 5 _ (okS_res _ 3), fun HE sE => ?_⟩
        walk_at "rd"
        exact ⟨_, _, _, _, _, rfl, sB.trans (sl.trans (sD.trans sE))⟩
      · walk_at "rd"
        intro l nl
        have sl := same_upd (o := .tup [.non, .int (-3)]) nl
        walk_at "rd"
        intro l1 z1
        walk_at "rd"
        intro l2 z2
        walk_at "rd"
        intro l3 z3
        walk_at "rd"
        refine core l _ (.error (-3)) sl upd_same (bnd_abs_er z) _ (fun HD w' sD hw => ?_) l1 z1 l2 z2 l3 z3
        walk_at "rd"
        refine ⟨_, hw, res_er (sD _ _ upd_same), OkS.okD 5 _ (okS_res _ 3), fun HE sE => ?_⟩
        walk_at "rd"
        exact ⟨_, _, _, _, _, rfl, sB.trans (sl.trans (sD.trans sE))⟩
    · rintro σ HB ⟨x9, x10, x11, x12, x13, rfl, sB⟩
      walk_at "rd"
      refine s_pow ⟨by decide, by decide, by decide⟩ ?_
      rw [show ((10 : Int) ^ (6 : Int).toNat) = 1000000 from by decide]
      walk_at "rd"
      refine ⟨p, a, 2, rfl, rfl, by decide, by decide, d9.same sB, fun HC c kC dC c0 c1 => ?_⟩
      have eNB := sB _ _ eN9
      have eRB := sB _ _ eR9
      have hNp : N ≠ p := Np
      have eNC := kC _ _ hNp eNB
      have eRC := kC _ _ Rp eRB
      walk_at "rd"
      generalize hsq : 1000000 - c = sq
      have sq0 : 0 ≤ sq := by omega
      have sq1 : sq ≤ 1000000 := by omega
      have smq : Sm sq := by unfold Sm; omega
      refine s_pow ⟨by decide, by decide, by decide⟩ ?_
      rw [show ((10 : Int) ^ (6 : Int).toNat) = 1000000 from by decide]
      walk_at "rd"
      obtain ⟨bq, bq2⟩ : bnd (sq * sq) = (if sq = 1000000 then .error (-3) else .ok (sq * sq)) ∧ bnd (0 - sq * sq) = (if sq = 1000000 then .error (-3) else .ok (0 - sq * sq)) := by
        have : sq = 1000000 ∨ sq = 999999 := by omega
        rcases this with h | h
        · rw [h, if_pos rfl, if_pos rfl]
          unfold bnd great
          rw [if_neg (by decide), if_neg (by decide)]
          exact ⟨rfl, rfl⟩
        · rw [h, if_neg (by decide), if_neg (by decide)]
          unfold bnd great
          rw [if_pos (by decide), if_pos (by decide)]
          exact ⟨rfl, rfl⟩
      refine br (fun z => ?_) (fun z => ?_)
      · rw [if_pos z] at bq bq2
        walk_at "rd"
        intro l1' z1'
        have a1 := same_upd (o := .tup [.non, .int (-3)]) z1'
        walk_at "rd"
        refine s_pow ⟨by decide, by decide, by decide⟩ ?_
        rw [show ((10 : Int) ^ (6 : Int).toNat) = 1000000 from by decide]
        walk_at "rd"
        refine brT z ?_
        walk_at "rd"
        intro l2' z2'
        have a2 := same_upd (o := .tup [.non, .int (-3)]) z2'
        have e13 : Dp K (upd (upd HC l1' (.tup [.non, .int (-3)])) l2' (.tup [.non, .int (-3)])) (.ref l1') (dRes (bnd (sq * sq))) := by rw [bq]; exact res_er (a2 _ _ upd_same)
        have e15 : Dp K (upd (upd HC l1' (.tup [.non, .int (-3)])) l2' (.tup [.non, .int (-3)])) (.ref l2') (dRes (bnd (0 - sq * sq))) := by rw [bq2]; exact res_er upd_same
        have dD := (dC.same a1).same a2
        have eND := a2 _ _ (a1 _ _ eNC)
        have eRD := a2 _ _ (a1 _ _ eRC)
        generalize upd (upd HC l1' (.tup [.non, .int (-3)])) l2' (.tup [.non, .int (-3)]) = HD at e13 e15 dD eND eRD ⊢
        walk_at "rd"
        intro S nS
        have s0 := same_upd (o := .dK []) nS
        walk_at "rd"
        refine ⟨upd_same, kvst sq, rfl, Nat.le_of_ble_eq_true rfl, ?_⟩
        rw [upd_upd, show mergeK [] (kvst sq) = kvst sq from by with_unfolding_all rfl]
        have s3 := same_upd (o := .dK (kvst sq)) nS
        have eSE : upd HD S (.dK (kvst sq)) S = some (.dK (kvst sq)) := upd_same
        have e13' := Dp.same s3 _ _ e13
        have e15' := Dp.same s3 _ _ e15
        have dE := dD.same s3
        have eNE := s3 _ _ eND
        have eRE := s3 _ _ eRD
        generalize upd HD S (.dK (kvst sq)) = HE at eSE e13' e15' dE eNE eRE ⊢
        walk_at "rd"
        intro T nT
        have s4 := same_upd (o := .tup [.str "s", .str "t"]) nT
        walk_at "rd"
        refine s_itT (SqT.of upd_same) ?_
        have nst : ∀ (i : Nat) (x : V), [V.str "s", .str "t"][i]? = some x → ∃ u : Str, x = .str u ∧ isNm u = true ∧ pairV (Str.ofString "*") (nvOf (kvst sq) (Str.ofString "s")) (nvOf (kvst sq) u) = (if i = 0 then bnd (sq * sq) else bnd (0 - sq * sq)) := by
          intro i x hx
          obtain ⟨y1, y2, y3, y4, y5, y6, y7, y8⟩ := nms5
          obtain ⟨v1, v2⟩ := nvst sq
          have hi : i = 0 ∨ i = 1 := by
            have := (List.getElem?_eq_some_iff.mp hx).1
            simp at this
            omega
          rcases hi with rfl | rfl
          · cases hx
            exact ⟨_, rfl, y6, by rw [v1]; rfl⟩
          · cases hx
            refine ⟨_, rfl, y7, ?_⟩
            rw [v1, v2, show pairV (Str.ofString "*") sq (0 - sq) = bnd (sq * (0 - sq)) from rfl, show sq * (0 - sq) = 0 - sq * sq by rw [Int.mul_sub, Int.mul_zero]]
            rfl
        refine lcB_tup [V.str "s", .str "t"] (fun D' i acc H' => ∃ us : List PyData, Keep D' HE H' ∧ DpAll K H' acc us ∧ us = ([dRes (bnd (sq * sq)), dRes (bnd (0 - sq * sq))] : List PyData).take i ∧ SqT K H' T [V.str "s", .str "t"]) ?_ ?_ ?_ ?_
        · intro D' hD
          have s5 := same_upd (o := .lst []) hD
          exact ⟨[], Same.keep (s4.trans s5), .nil, rfl, Same.sqT s5 (SqT.of upd_same)⟩
        · rintro D' i acc H' _ ⟨us, _, _, _, h⟩
          exact h
        · rintro D' i acc HF x hD hx ha hl ⟨us, kF, hus, husE, hT⟩
          obtain ⟨u, rfl, hu, hp⟩ := nst i x hx
          have hi : i < 2 := (List.getElem?_eq_some_iff.mp hx).1
          walk_at "rd"
          refine ⟨rfl, ?_⟩
          walk_at "rd"
          intro l1 z1
          have a1 := same_upd (o := .tup [.str "name", .str "s"]) z1
          walk_at "rd"
          intro l2 z2
          have a2 := same_upd (o := .tup [.str "name", .str u]) z2
          walk_at "rd"
          intro l3 z3
          have a3 := same_upd (o := .tup [.str "*", .ref l1, .ref l2]) z3
          walk_at "rd"
          have hDE : HE D' = none := s4.free hD
          have aa := a1.trans (a2.trans a3)
          refine ⟨S, R, kvst sq, cs, .two "*" (.nm "s") (.nm u), rfl, rfl, aa _ _ (kF _ _ (ne_of_none eSE hDE) eSE), aa _ _ (kF _ _ (ne_of_none eRE hDE) eRE), kvst_ok sq0 sq1, cl, cm, dp_two upd_same (dp_nm (a3 _ _ (a2 _ _ upd_same))) (dp_nm (a3 _ _ upd_same)), by simp [dep], tr2_ok (by decide +kernel) nms5.2.2.2.2.2.1 hu, by simp [tw], fun HG r sG hr => ?_⟩
          have sFG := aa.trans sG
          rw [show val (nvOf (kvst sq)) cs (.two "*" (.nm "s") (.nm u)) = _ from hp] at hr
          have kG : Keep D' HE (upd HG D' (.lst (acc ++ [r]))) := (kF.trans (Same.keep sFG)).trans Keep.upd
          have kG2 : Keep D' HG (upd HG D' (.lst (acc ++ [r]))) := Keep.upd
          have eDG := sFG _ _ ha
          have nlr : noL (dRes (if i = 0 then bnd (sq * sq) else bnd (0 - sq * sq))) = true := res_noL _
          have nlu : noLAll us = true := by
            rw [husE]
            have : i = 0 ∨ i = 1 := by omega
            rcases this with rfl | rfl <;> simp [noLAll, res_noL]
          refine LcPost.mk eDG hl (Nat.lt_trans hi (by decide)) ⟨us ++ [dRes (if i = 0 then bnd (sq * sq) else bnd (0 - sq * sq))], kG, DpAll.snoc (Dp.keepL kG2 eDG nlr hr) (DpAll.keepL kG2 eDG nlu (Dp.sameAll sFG _ _ hus)), ?_, SqT.keepL kG2 eDG (Same.sqT sFG hT)⟩
          have : i = 0 ∨ i = 1 := by omega
          rcases this with rfl | rfl
          · rw [husE]
            rfl
          · rw [husE]
            rfl
        · rintro D' acc HF hD ha hl ⟨us, kF, hus, husE, hT⟩
          have hDE : HE D' = none := s4.free hD
          have eSF := kF _ _ (ne_of_none eSE hDE) eSE
          have eNF := kF _ _ (ne_of_none eNE hDE) eNE
          have eRF := kF _ _ (ne_of_none eRE hDE) eRE
          have kEF : Same HE HF := fun y o e => kF _ _ (ne_of_none e hDE) e
          have dF := dE.same kEF
          have e13F := Dp.same kEF _ _ e13'
          have e15F := Dp.same kEF _ _ e15'
          rw [show us = [dRes (bnd (sq * sq)), dRes (bnd (0 - sq * sq))] from husE] at hus
          walk_at "rd"
          intro l1 z1
          have a1 := same_upd (o := .lst [.ref l1', .ref l2']) z1
          walk_at "rd"
          refine ⟨.list [dRes (bnd (sq * sq)), dRes (bnd (0 - sq * sq))], .lst (SqL.of (a1 _ _ ha)) (Dp.sameAll a1 _ _ hus), .lst (SqL.of upd_same) (.cons (Dp.same a1 _ _ e13F) (.cons (Dp.same a1 _ _ e15F) .nil)), ?_, fun HG sG => ?_⟩
          · exact OkS.okD 5 _ (by simp only [OkS, OkSAll]; exact ⟨by simp, okS_res _ 2, okS_res _ 2, trivial⟩)
          have sFG := a1.trans sG
          replace dF := dF.same sFG
          replace eNF := sFG _ _ eNF
          replace eRF := sFG _ _ eRF
          clear e13 e15 e13' e15' a1 sG sFG e13F e15F hus nst
          walk_at "rd"
          intro T2 nT2
          have b1 := same_upd (o := .tup [.str "div", .str "mod"]) nT2
          replace dF := dF.same b1
          replace eNF := b1 _ _ eNF
          replace eRF := b1 _ _ eRF
          have eT2 : upd HG T2 (.tup [.str "div", .str "mod"]) T2 = some (.tup [.str "div", .str "mod"]) := upd_same
          generalize upd HG T2 (.tup [.str "div", .str "mod"]) = HH at dF eNF eRF eT2 ⊢
          walk_at "rd"
          refine s_itT (SqT.of eT2) ?_
          refine forB_tup (xs := [.str "div", .str "mod"]) (fun j σ H' => ∃ x9, σ = [some (.ref b), some (.ref p), some (.int 1000000000000), some (.ref R), some (.int (0 + i)), some (.int sm), some (.int near), some (.ref N), some (.ref L), x9, x10, x11, x12, some (.ref l1'), some (.int sq), some (.ref l2'), some (.ref S), some (.ref D'), x18, none] ∧ Same HH H') ⟨_, rfl, fun _ _ h => h⟩ ?_ ?_ ?_
          · rintro j σ H' _ ⟨x9, rfl, s5⟩
            exact SqT.of (s5 _ _ eT2)
          · rintro j x σ HI hx ⟨x9, rfl, s5⟩
            have hj : j = 0 ∨ j = 1 := by
              have := (List.getElem?_eq_some_iff.mp hx).1
              simp at this
              omega
            obtain ⟨sg, rfl, g1, g2⟩ : ∃ sg : Str, x = .str sg ∧ sg ∈ twoL ∧ pairV sg bg 0 = .error (-1) := by
              rcases hj with rfl | rfl
              · cases hx
                exact ⟨_, rfl, by decide +kernel, rfl⟩
              · cases hx
                exact ⟨_, rfl, by decide +kernel, rfl⟩
            walk_at "rd"
            intro m1_ z1
            have a1 := same_upd (o := .tup [.str "name", .str "big"]) z1
            walk_at "rd"
            intro m2_ z2
            have a2 := same_upd (o := .tup [.str "number", .int 0]) z2
            walk_at "rd"
            intro m3_ z3
            have a3 := same_upd (o := .tup [.str sg, .ref m1_, .ref m2_]) z3
            walk_at "rd"
            have aa := s5.trans (a1.trans (a2.trans a3))
            refine ⟨N, R, kv5 sm near bg, cs, .two sg (.nm "big") (.nu 0), rfl, rfl, aa _ _ eNF, aa _ _ eRF, aiN, cl, cm, dp_two upd_same (dp_nm (a3 _ _ (a2 _ _ upd_same))) (dp_nu (a3 _ _ upd_same)), by simp [dep], ⟨g1, nms5.2.2.2.2.1, by show _ < _; decide⟩, by simp [tw], fun HJ r sJ hr => ?_⟩
            rw [show val (nvOf (kv5 sm near bg)) cs (.two sg (.nm "big") (.nu 0)) = pairV sg (nvOf (kv5 sm near bg) "big") 0 from rfl, show nvOf (kv5 sm near bg) "big" = bg from nvb, g2] at hr
            walk_at "rd"
            intro m4_ z4
            have a4 := same_upd (o := .tup [.non, .int (-1)]) z4
            walk_at "rd"
            refine ⟨_, Dp.same a4 _ _ hr, res_er upd_same, OkS.okD 5 _ (okS_res _ 3), fun HK sK => ?_⟩
            walk_at "rd"
            exact ⟨_, rfl, aa.trans (sJ.trans (a4.trans sK))⟩
          · rintro σ HI ⟨x9, rfl, s5⟩
            walk_at "rd"
            intro m1_ z1
            have a1 := same_upd (o := .tup [.str "name", .str "big"]) z1
            walk_at "rd"
            intro m2_ z2
            have a2 := same_upd (o := .tup [.str "number", .int 1]) z2
            walk_at "rd"
            intro m3_ z3
            have a3 := same_upd (o := .tup [.str "div", .ref m1_, .ref m2_]) z3
            walk_at "rd"
            have aa := s5.trans (a1.trans (a2.trans a3))
            refine ⟨N, R, kv5 sm near bg, cs, .two "div" (.nm "big") (.nu 1), rfl, rfl, aa _ _ eNF, aa _ _ eRF, aiN, cl, cm, dp_two upd_same (dp_nm (a3 _ _ (a2 _ _ upd_same))) (dp_nu (a3 _ _ upd_same)), by simp [dep], ⟨by decide +kernel, nms5.2.2.2.2.1, by show _ < _; decide⟩, by simp [tw], fun HJ r sJ hr => ?_⟩
            rw [show val (nvOf (kv5 sm near bg)) cs (.two "div" (.nm "big") (.nu 1)) = pairV "div" (nvOf (kv5 sm near bg) "big") 1 from rfl, show nvOf (kv5 sm near bg) "big" = bg from nvb, show pairV "div" bg 1 = .ok bg from (pairV_div (by decide)).trans (by rw [Int.fdiv_one])] at hr
            have sHJ := aa.trans sJ
            have eNJ := sHJ _ _ eNF
            have gN := DGet.k (k := Sum.inr "big") eNJ
            rw [show valV (kv5 sm near bg) (Sum.inr "big") = some (.int bg) from by with_unfolding_all rfl] at gN
            walk_at "rd"
            refine s_ixG gN ?_
            walk_at "rd"
            intro m4_ z4
            have a4 := same_upd (o := .tup [.int bg, .non]) z4
            walk_at "rd"
            refine ⟨_, Dp.same a4 _ _ hr, res_ok upd_same, OkS.okD 5 _ (okS_res _ 3), fun HK sK => ?_⟩
            have sHK := sHJ.trans (a4.trans sK)
            have gNK := DGet.k (k := Sum.inr "big") (sHK _ _ eNF)
            rw [show valV (kv5 sm near bg) (Sum.inr "big") = some (.int bg) from by with_unfolding_all rfl] at gNK
            walk_at "rd"
            refine s_ixG gNK ?_
            walk_at "rd"
            intro T3 nT3
            have b3 := same_upd (o := .tup [.int (-1), .int 0, .int 15, .int 16, .int bg]) nT3
            have sHL := sHK.trans b3
            have eT3 : upd HK T3 (.tup [.int (-1), .int 0, .int 15, .int 16, .int bg]) T3 = some (.tup [.int (-1), .int 0, .int 15, .int 16, .int bg]) := upd_same
            generalize upd HK T3 (.tup [.int (-1), .int 0, .int 15, .int 16, .int bg]) = HL at sHL eT3 ⊢
            have dL := dF.same sHL
            have eRL := sHL _ _ eRF
            walk_at "rd"
            refine s_itT (SqT.of eT3) ?_
            refine forB_tup (xs := [.int (-1), .int 0, .int 15, .int 16, .int bg]) (fun j σ H' => ∃ x13 x18, σ = [some (.ref b), some (.ref p), some (.int 1000000000000), some (.ref R), some (.int (0 + i)), some (.int sm), some (.int near), some (.ref N), some (.ref L), x9, x10, x11, x12, x13, some (.int sq), some (.ref l2'), some (.ref S), some (.ref D'), x18, none] ∧ Same HL H') ⟨_, _, rfl, fun _ _ h => h⟩ ?_ ?_ ?_
            · rintro j σ H' _ ⟨_, _, rfl, s6⟩
              exact SqT.of (s6 _ _ eT3)
            · rintro j x σ HM hx ⟨_, _, rfl, s6⟩
              obtain ⟨at_, rfl, hat⟩ : ∃ z : Int, x = .int z ∧ Sm z := by
                have := List.mem_of_getElem? hx
                simp only [List.mem_cons, List.not_mem_nil, or_false] at this
                rcases this with rfl | rfl | rfl | rfl | rfl
                · exact ⟨_, rfl, by decide⟩
                · exact ⟨_, rfl, by decide⟩
                · exact ⟨_, rfl, by decide⟩
                · exact ⟨_, rfl, by decide⟩
                · exact ⟨_, rfl, hb⟩
              have eRM := s6 _ _ eRL
              have core : ∀ HN (du : V), Same HM HN → Dp K HN du (dRes (oneV cs "at" at_)) → ∀ QQ : VK, (∀ HO_ u, Same HN HO_ → Dp K HO_ u (dRes (oneV cs "at" at_)) → QQ u HO_) → ∀ l1, HN l1 = none → ∀ l2, (upd HN l1 (.tup [.str "name", .str "c"])) l2 = none → ∀ C, (upd (upd HN l1 (.tup [.str "name", .str "c"])) l2 (.tup [.str "at", .ref l1])) C = none → pWorth K 4 (.ref l2) (.ref C) (.ref R) (upd (upd (upd HN l1 (.tup [.str "name", .str "c"])) l2 (.tup [.str "at", .ref l1])) C (.dK (kvc at_))) QQ E0 := by
                intro HN du sN hdu QQ hq l1 z1 l2 z2 C zC
                have a1 := same_upd (o := .tup [.str "name", .str "c"]) z1
                have a2 := same_upd (o := .tup [.str "at", .ref l1]) z2
                have a3 := same_upd (o := .dK (kvc at_)) zC
                refine ⟨C, R, kvc at_, cs, .one "at" (.nm "c"), rfl, rfl, upd_same, a3 _ _ (a2 _ _ (a1 _ _ (sN _ _ eRM))), kvc_ok hat, cl, cm, dp_one (a3 _ _ upd_same) (dp_nm (a3 _ _ (a2 _ _ upd_same))), by simp [dep], ⟨by decide +kernel, nms5.2.2.2.2.2.2.2⟩, by simp [tw], fun HO_ u sO hu => hq HO_ u (a1.trans (a2.trans (a3.trans sO))) ?_⟩
                rw [show val (nvOf (kvc at_)) cs (.one "at" (.nm "c")) = oneV cs "at" (nvOf (kvc at_) "c") from rfl, show nvOf (kvc at_) "c" = at_ from nvc at_] at hu
                exact hu
              walk_at "rd"
              refine br (fun z0 => ?_) (fun z0 => ?_)
              · walk_at "rd"
                refine br (fun z1 => ?_) (fun z1 => ?_)
                · walk_at "rd"
                  have h5 : at_.toNat < cs.length := by omega
                  refine s_ixA (s_ixL (SqL.of eRM) (at_of (j := at_.toNat) (v := .int (cs.getD at_.toNat 0)) (by omega) ?_) ?_)
                  · rw [List.getElem?_map, List.getD_eq_getElem?_getD, List.getElem?_eq_getElem h5]
                    rfl
                  walk_at "rd"
                  intro l0 y0
                  have b0 := same_upd (o := .tup [.int (cs.getD at_.toNat 0), .non]) y0
                  have due : Dp K (upd HM l0 (.tup [.int (cs.getD at_.toNat 0), .non])) (.ref l0) (dRes (oneV cs "at" at_)) := by
                    rw [show oneV cs "at" at_ = .ok (cs.getD at_.toNat 0) by unfold oneV; rw [if_pos rfl, if_pos ⟨z0, z1⟩]]
                    exact res_ok upd_same
                  walk_at "rd"
                  intro l1 w1
                  walk_at "rd"
                  intro l2 w2
                  walk_at "rd"
                  intro C wC
                  walk_at "rd"
                  refine ⟨upd_same, kvc at_, rfl, Nat.le_of_ble_eq_true rfl, ?_⟩
                  rw [upd_upd, show mergeK [] (kvc at_) = kvc at_ from by with_unfolding_all rfl]
                  walk_at "rd"
                  refine core _ _ b0 due _ (fun HO_ u sO hu => ?_) l1 w1 l2 w2 C wC
                  walk_at "rd"
                  refine ⟨_, hu, Dp.same sO _ _ due, OkS.okD 5 _ (okS_res _ 3), fun HP sP => ?_⟩
                  walk_at "rd"
                  exact ⟨_, _, rfl, s6.trans (b0.trans (sO.trans sP))⟩
                · walk_at "rd"
                  intro l0 y0
                  have b0 := same_upd (o := .tup [.non, .int (-2)]) y0
                  have due : Dp K (upd HM l0 (.tup [.non, .int (-2)])) (.ref l0) (dRes (oneV cs "at" at_)) := by
                    rw [show oneV cs "at" at_ = .error (-2) by unfold oneV; rw [if_pos rfl, if_neg fun z => z1 z.2]]
                    exact res_er upd_same
                  walk_at "rd"
                  intro l1 w1
                  walk_at "rd"
                  intro l2 w2
                  walk_at "rd"
                  intro C wC
                  walk_at "rd"
                  refine ⟨upd_same, kvc at_, rfl, Nat.le_of_ble_eq_true rfl, ?_⟩
                  rw [upd_upd, show mergeK [] (kvc at_) = kvc at_ from by with_unfolding_all rfl]
                  walk_at "rd"
                  refine core _ _ b0 due _ (fun HO_ u sO hu => ?_) l1 w1 l2 w2 C wC
                  walk_at "rd"
                  refine ⟨_, hu, Dp.same sO _ _ due, OkS.okD 5 _ (okS_res _ 3), fun HP sP => ?_⟩
                  walk_at "rd"
                  exact ⟨_, _, rfl, s6.trans (b0.trans (sO.trans sP))⟩
              · walk_at "rd"
                intro l0 y0
                have b0 := same_upd (o := .tup [.non, .int (-2)]) y0
                have due : Dp K (upd HM l0 (.tup [.non, .int (-2)])) (.ref l0) (dRes (oneV cs "at" at_)) := by
                  rw [show oneV cs "at" at_ = .error (-2) by unfold oneV; rw [if_pos rfl, if_neg fun z => z0 z.1]]
                  exact res_er upd_same
                walk_at "rd"
                intro l1 w1
                walk_at "rd"
                intro l2 w2
                walk_at "rd"
                intro C wC
                walk_at "rd"
                refine ⟨upd_same, kvc at_, rfl, Nat.le_of_ble_eq_true rfl, ?_⟩
                rw [upd_upd, show mergeK [] (kvc at_) = kvc at_ from by with_unfolding_all rfl]
                walk_at "rd"
                refine core _ _ b0 due _ (fun HO_ u sO hu => ?_) l1 w1 l2 w2 C wC
                walk_at "rd"
                refine ⟨_, hu, Dp.same sO _ _ due, OkS.okD 5 _ (okS_res _ 3), fun HP sP => ?_⟩
                walk_at "rd"
                exact ⟨_, _, rfl, s6.trans (b0.trans (sO.trans sP))⟩
            · rintro σ HM ⟨x13, x18, rfl, s6⟩
              walk_at "rd"
              exact ⟨_, _, _, _, _, _, _, _, _, _, _, _, _, _, _, rfl, dL.same s6, s6 _ _ eRL⟩
      · rw [if_neg z] at bq bq2
        walk_at "rd"
        refine s_mulW (sm_mulW smq smq) ?_
        walk_at "rd"
        intro l1' z1'
        have a1 := same_upd (o := .tup [.int (sq * sq), .non]) z1'
        walk_at "rd"
        refine s_pow ⟨by decide, by decide, by decide⟩ ?_
        rw [show ((10 : Int) ^ (6 : Int).toNat) = 1000000 from by decide]
        walk_at "rd"
        refine brF z ?_
        walk_at "rd"
        refine s_mulW (sm_mulW smq smq) ?_
        walk_at "rd"
        intro l2' z2'
        have a2 := same_upd (o := .tup [.int (0 - sq * sq), .non]) z2'
        have e13 : Dp K (upd (upd HC l1' (.tup [.int (sq * sq), .non])) l2' (.tup [.int (0 - sq * sq), .non])) (.ref l1') (dRes (bnd (sq * sq))) := by rw [bq]; exact res_ok (a2 _ _ upd_same)
        have e15 : Dp K (upd (upd HC l1' (.tup [.int (sq * sq), .non])) l2' (.tup [.int (0 - sq * sq), .non])) (.ref l2') (dRes (bnd (0 - sq * sq))) := by rw [bq2]; exact res_ok upd_same
        have dD := (dC.same a1).same a2
        have eND := a2 _ _ (a1 _ _ eNC)
        have eRD := a2 _ _ (a1 _ _ eRC)
        generalize upd (upd HC l1' (.tup [.int (sq * sq), .non])) l2' (.tup [.int (0 - sq * sq), .non]) = HD at e13 e15 dD eND eRD ⊢
        walk_at "rd"
        intro S nS
        have s0 := same_upd (o := .dK []) nS
        walk_at "rd"
        refine ⟨upd_same, kvst sq, rfl, Nat.le_of_ble_eq_true rfl, ?_⟩
        rw [upd_upd, show mergeK [] (kvst sq) = kvst sq from by with_unfolding_all rfl]
        have s3 := same_upd (o := .dK (kvst sq)) nS
        have eSE : upd HD S (.dK (kvst sq)) S = some (.dK (kvst sq)) := upd_same
        have e13' := Dp.same s3 _ _ e13
        have e15' := Dp.same s3 _ _ e15
        have dE := dD.same s3
        have eNE := s3 _ _ eND
        have eRE := s3 _ _ eRD
        generalize upd HD S (.dK (kvst sq)) = HE at eSE e13' e15' dE eNE eRE ⊢
        walk_at "rd"
        intro T nT
        have s4 := same_upd (o := .tup [.str "s", .str "t"]) nT
        walk_at "rd"
        refine s_itT (SqT.of upd_same) ?_
        have nst : ∀ (i : Nat) (x : V), [V.str "s", .str "t"][i]? = some x → ∃ u : Str, x = .str u ∧ isNm u = true ∧ pairV (Str.ofString "*") (nvOf (kvst sq) (Str.ofString "s")) (nvOf (kvst sq) u) = (if i = 0 then bnd (sq * sq) else bnd (0 - sq * sq)) := by
          intro i x hx
          obtain ⟨y1, y2, y3, y4, y5, y6, y7, y8⟩ := nms5
          obtain ⟨v1, v2⟩ := nvst sq
          have hi : i = 0 ∨ i = 1 := by
            have := (List.getElem?_eq_some_iff.mp hx).1
            simp at this
            omega
          rcases hi with rfl | rfl
          · cases hx
            exact ⟨_, rfl, y6, by rw [v1]; rfl⟩
          · cases hx
            refine ⟨_, rfl, y7, ?_⟩
            rw [v1, v2, show pairV (Str.ofString "*") sq (0 - sq) = bnd (sq * (0 - sq)) from rfl, show sq * (0 - sq) = 0 - sq * sq by rw [Int.mul_sub, Int.mul_zero]]
            rfl
        refine lcB_tup [V.str "s", .str "t"] (fun D' i acc H' => ∃ us : List PyData, Keep D' HE H' ∧ DpAll K H' acc us ∧ us = ([dRes (bnd (sq * sq)), dRes (bnd (0 - sq * sq))] : List PyData).take i ∧ SqT K H' T [V.str "s", .str "t"]) ?_ ?_ ?_ ?_
        · intro D' hD
          have s5 := same_upd (o := .lst []) hD
          exact ⟨[], Same.keep (s4.trans s5), .nil, rfl, Same.sqT s5 (SqT.of upd_same)⟩
        · rintro D' i acc H' _ ⟨us, _, _, _, h⟩
          exact h
        · rintro D' i acc HF x hD hx ha hl ⟨us, kF, hus, husE, hT⟩
          obtain ⟨u, rfl, hu, hp⟩ := nst i x hx
          have hi : i < 2 := (List.getElem?_eq_some_iff.mp hx).1
          walk_at "rd"
          refine ⟨rfl, ?_⟩
          walk_at "rd"
          intro l1 z1
          have a1 := same_upd (o := .tup [.str "name", .str "s"]) z1
          walk_at "rd"
          intro l2 z2
          have a2 := same_upd (o := .tup [.str "name", .str u]) z2
          walk_at "rd"
          intro l3 z3
          have a3 := same_upd (o := .tup [.str "*", .ref l1, .ref l2]) z3
          walk_at "rd"
          have hDE : HE D' = none := s4.free hD
          have aa := a1.trans (a2.trans a3)
          refine ⟨S, R, kvst sq, cs, .two "*" (.nm "s") (.nm u), rfl, rfl, aa _ _ (kF _ _ (ne_of_none eSE hDE) eSE), aa _ _ (kF _ _ (ne_of_none eRE hDE) eRE), kvst_ok sq0 sq1, cl, cm, dp_two upd_same (dp_nm (a3 _ _ (a2 _ _ upd_same))) (dp_nm (a3 _ _ upd_same)), by simp [dep], tr2_ok (by decide +kernel) nms5.2.2.2.2.2.1 hu, by simp [tw], fun HG r sG hr => ?_⟩
          have sFG := aa.trans sG
          rw [show val (nvOf (kvst sq)) cs (.two "*" (.nm "s") (.nm u)) = _ from hp] at hr
          have kG : Keep D' HE (upd HG D' (.lst (acc ++ [r]))) := (kF.trans (Same.keep sFG)).trans Keep.upd
          have kG2 : Keep D' HG (upd HG D' (.lst (acc ++ [r]))) := Keep.upd
          have eDG := sFG _ _ ha
          have nlr : noL (dRes (if i = 0 then bnd (sq * sq) else bnd (0 - sq * sq))) = true := res_noL _
          have nlu : noLAll us = true := by
            rw [husE]
            have : i = 0 ∨ i = 1 := by omega
            rcases this with rfl | rfl <;> simp [noLAll, res_noL]
          refine LcPost.mk eDG hl (Nat.lt_trans hi (by decide)) ⟨us ++ [dRes (if i = 0 then bnd (sq * sq) else bnd (0 - sq * sq))], kG, DpAll.snoc (Dp.keepL kG2 eDG nlr hr) (DpAll.keepL kG2 eDG nlu (Dp.sameAll sFG _ _ hus)), ?_, SqT.keepL kG2 eDG (Same.sqT sFG hT)⟩
          have : i = 0 ∨ i = 1 := by omega
          rcases this with rfl | rfl
          · rw [husE]
            rfl
          · rw [husE]
            rfl
        · rintro D' acc HF hD ha hl ⟨us, kF, hus, husE, hT⟩
          have hDE : HE D' = none := s4.free hD
          have eSF := kF _ _ (ne_of_none eSE hDE) eSE
          have eNF := kF _ _ (ne_of_none eNE hDE) eNE
          have eRF := kF _ _ (ne_of_none eRE hDE) eRE
          have kEF : Same HE HF := fun y o e => kF _ _ (ne_of_none e hDE) e
          have dF := dE.same kEF
          have e13F := Dp.same kEF _ _ e13'
          have e15F := Dp.same kEF _ _ e15'
          rw [show us = [dRes (bnd (sq * sq)), dRes (bnd (0 - sq * sq))] from husE] at hus
          walk_at "rd"
          intro l1 z1
          have a1 := same_upd (o := .lst [.ref l1', .ref l2']) z1
          walk_at "rd"
          refine ⟨.list [dRes (bnd (sq * sq)), dRes (bnd (0 - sq * sq))], .lst (SqL.of (a1 _ _ ha)) (Dp.sameAll a1 _ _ hus), .lst (SqL.of upd_same) (.cons (Dp.same a1 _ _ e13F) (.cons (Dp.same a1 _ _ e15F) .nil)), ?_, fun HG sG => ?_⟩
          · exact OkS.okD 5 _ (by simp only [OkS, OkSAll]; exact ⟨by simp, okS_res _ 2, okS_res _ 2, trivial⟩)
          have sFG := a1.trans sG
          replace dF := dF.same sFG
          replace eNF := sFG _ _ eNF
          replace eRF := sFG _ _ eRF
          clear e13 e15 e13' e15' a1 sG sFG e13F e15F hus nst
          walk_at "rd"
          intro T2 nT2
          have b1 := same_upd (o := .tup [.str "div", .str "mod"]) nT2
          replace dF := dF.same b1
          replace eNF := b1 _ _ eNF
          replace eRF := b1 _ _ eRF
          have eT2 : upd HG T2 (.tup [.str "div", .str "mod"]) T2 = some (.tup [.str "div", .str "mod"]) := upd_same
          generalize upd HG T2 (.tup [.str "div", .str "mod"]) = HH at dF eNF eRF eT2 ⊢
          walk_at "rd"
          refine s_itT (SqT.of eT2) ?_
          refine forB_tup (xs := [.str "div", .str "mod"]) (fun j σ H' => ∃ x9, σ = [some (.ref b), some (.ref p), some (.int 1000000000000), some (.ref R), some (.int (0 + i)), some (.int sm), some (.int near), some (.ref N), some (.ref L), x9, x10, x11, x12, some (.ref l1'), some (.int sq), some (.ref l2'), some (.ref S), some (.ref D'), x18, none] ∧ Same HH H') ⟨_, rfl, fun _ _ h => h⟩ ?_ ?_ ?_
          · rintro j σ H' _ ⟨x9, rfl, s5⟩
            exact SqT.of (s5 _ _ eT2)
          · rintro j x σ HI hx ⟨x9, rfl, s5⟩
            have hj : j = 0 ∨ j = 1 := by
              have := (List.getElem?_eq_some_iff.mp hx).1
              simp at this
              omega
            obtain ⟨sg, rfl, g1, g2⟩ : ∃ sg : Str, x = .str sg ∧ sg ∈ twoL ∧ pairV sg bg 0 = .error (-1) := by
              rcases hj with rfl | rfl
              · cases hx
                exact ⟨_, rfl, by decide +kernel, rfl⟩
              · cases hx
                exact ⟨_, rfl, by decide +kernel, rfl⟩
            walk_at "rd"
            intro m1_ z1
            have a1 := same_upd (o := .tup [.str "name", .str "big"]) z1
            walk_at "rd"
            intro m2_ z2
            have a2 := same_upd (o := .tup [.str "number", .int 0]) z2
            walk_at "rd"
            intro m3_ z3
            have a3 := same_upd (o := .tup [.str sg, .ref m1_, .ref m2_]) z3
            walk_at "rd"
            have aa := s5.trans (a1.trans (a2.trans a3))
            refine ⟨N, R, kv5 sm near bg, cs, .two sg (.nm "big") (.nu 0), rfl, rfl, aa _ _ eNF, aa _ _ eRF, aiN, cl, cm, dp_two upd_same (dp_nm (a3 _ _ (a2 _ _ upd_same))) (dp_nu (a3 _ _ upd_same)), by simp [dep], ⟨g1, nms5.2.2.2.2.1, by show _ < _; decide⟩, by simp [tw], fun HJ r sJ hr => ?_⟩
            rw [show val (nvOf (kv5 sm near bg)) cs (.two sg (.nm "big") (.nu 0)) = pairV sg (nvOf (kv5 sm near bg) "big") 0 from rfl, show nvOf (kv5 sm near bg) "big" = bg from nvb, g2] at hr
            walk_at "rd"
            intro m4_ z4
            have a4 := same_upd (o := .tup [.non, .int (-1)]) z4
            walk_at "rd"
            refine ⟨_, Dp.same a4 _ _ hr, res_er upd_same, OkS.okD 5 _ (okS_res _ 3), fun HK sK => ?_⟩
            walk_at "rd"
            exact ⟨_, rfl, aa.trans (sJ.trans (a4.trans sK))⟩
          · rintro σ HI ⟨x9, rfl, s5⟩
            walk_at "rd"
            intro m1_ z1
            have a1 := same_upd (o := .tup [.str "name", .str "big"]) z1
            walk_at "rd"
            intro m2_ z2
            have a2 := same_upd (o := .tup [.str "number", .int 1]) z2
            walk_at "rd"
            intro m3_ z3
            have a3 := same_upd (o := .tup [.str "div", .ref m1_, .ref m2_]) z3
            walk_at "rd"
            have aa := s5.trans (a1.trans (a2.trans a3))
            refine ⟨N, R, kv5 sm near bg, cs, .two "div" (.nm "big") (.nu 1), rfl, rfl, aa _ _ eNF, aa _ _ eRF, aiN, cl, cm, dp_two upd_same (dp_nm (a3 _ _ (a2 _ _ upd_same))) (dp_nu (a3 _ _ upd_same)), by simp [dep], ⟨by decide +kernel, nms5.2.2.2.2.1, by show _ < _; decide⟩, by simp [tw], fun HJ r sJ hr => ?_⟩
            rw [show val (nvOf (kv5 sm near bg)) cs (.two "div" (.nm "big") (.nu 1)) = pairV "div" (nvOf (kv5 sm near bg) "big") 1 from rfl, show nvOf (kv5 sm near bg) "big" = bg from nvb, show pairV "div" bg 1 = .ok bg from (pairV_div (by decide)).trans (by rw [Int.fdiv_one])] at hr
            have sHJ := aa.trans sJ
            have eNJ := sHJ _ _ eNF
            have gN := DGet.k (k := Sum.inr "big") eNJ
            rw [show valV (kv5 sm near bg) (Sum.inr "big") = some (.int bg) from by with_unfolding_all rfl] at gN
            walk_at "rd"
            refine s_ixG gN ?_
            walk_at "rd"
            intro m4_ z4
            have a4 := same_upd (o := .tup [.int bg, .non]) z4
            walk_at "rd"
            refine ⟨_, Dp.same a4 _ _ hr, res_ok upd_same, OkS.okD 5 _ (okS_res _ 3), fun HK sK => ?_⟩
            have sHK := sHJ.trans (a4.trans sK)
            have gNK := DGet.k (k := Sum.inr "big") (sHK _ _ eNF)
            rw [show valV (kv5 sm near bg) (Sum.inr "big") = some (.int bg) from by with_unfolding_all rfl] at gNK
            walk_at "rd"
            refine s_ixG gNK ?_
            walk_at "rd"
            intro T3 nT3
            have b3 := same_upd (o := .tup [.int (-1), .int 0, .int 15, .int 16, .int bg]) nT3
            have sHL := sHK.trans b3
            have eT3 : upd HK T3 (.tup [.int (-1), .int 0, .int 15, .int 16, .int bg]) T3 = some (.tup [.int (-1), .int 0, .int 15, .int 16, .int bg]) := upd_same
            generalize upd HK T3 (.tup [.int (-1), .int 0, .int 15, .int 16, .int bg]) = HL at sHL eT3 ⊢
            have dL := dF.same sHL
            have eRL := sHL _ _ eRF
            walk_at "rd"
            refine s_itT (SqT.of eT3) ?_
            refine forB_tup (xs := [.int (-1), .int 0, .int 15, .int 16, .int bg]) (fun j σ H' => ∃ x13 x18, σ = [some (.ref b), some (.ref p), some (.int 1000000000000), some (.ref R), some (.int (0 + i)), some (.int sm), some (.int near), some (.ref N), some (.ref L), x9, x10, x11, x12, x13, some (.int sq), some (.ref l2'), some (.ref S), some (.ref D'), x18, none] ∧ Same HL H') ⟨_, _, rfl, fun _ _ h => h⟩ ?_ ?_ ?_
            · rintro j σ H' _ ⟨_, _, rfl, s6⟩
              exact SqT.of (s6 _ _ eT3)
            · rintro j x σ HM hx ⟨_, _, rfl, s6⟩
              obtain ⟨at_, rfl, hat⟩ : ∃ z : Int, x = .int z ∧ Sm z := by
                have := List.mem_of_getElem? hx
                simp only [List.mem_cons, List.not_mem_nil, or_false] at this
                rcases this with rfl | rfl | rfl | rfl | rfl
                · exact ⟨_, rfl, by decide⟩
                · exact ⟨_, rfl, by decide⟩
                · exact ⟨_, rfl, by decide⟩
                · exact ⟨_, rfl, by decide⟩
                · exact ⟨_, rfl, hb⟩
              have eRM := s6 _ _ eRL
              have core : ∀ HN (du : V), Same HM HN → Dp K HN du (dRes (oneV cs "at" at_)) → ∀ QQ : VK, (∀ HO_ u, Same HN HO_ → Dp K HO_ u (dRes (oneV cs "at" at_)) → QQ u HO_) → ∀ l1, HN l1 = none → ∀ l2, (upd HN l1 (.tup [.str "name", .str "c"])) l2 = none → ∀ C, (upd (upd HN l1 (.tup [.str "name", .str "c"])) l2 (.tup [.str "at", .ref l1])) C = none → pWorth K 4 (.ref l2) (.ref C) (.ref R) (upd (upd (upd HN l1 (.tup [.str "name", .str "c"])) l2 (.tup [.str "at", .ref l1])) C (.dK (kvc at_))) QQ E0 := by
                intro HN du sN hdu QQ hq l1 z1 l2 z2 C zC
                have a1 := same_upd (o := .tup [.str "name", .str "c"]) z1
                have a2 := same_upd (o := .tup [.str "at", .ref l1]) z2
                have a3 := same_upd (o := .dK (kvc at_)) zC
                refine ⟨C, R, kvc at_, cs, .one "at" (.nm "c"), rfl, rfl, upd_same, a3 _ _ (a2 _ _ (a1 _ _ (sN _ _ eRM))), kvc_ok hat, cl, cm, dp_one (a3 _ _ upd_same) (dp_nm (a3 _ _ (a2 _ _ upd_same))), by simp [dep], ⟨by decide +kernel, nms5.2.2.2.2.2.2.2⟩, by simp [tw], fun HO_ u sO hu => hq HO_ u (a1.trans (a2.trans (a3.trans sO))) ?_⟩
                rw [show val (nvOf (kvc at_)) cs (.one "at" (.nm "c")) = oneV cs "at" (nvOf (kvc at_) "c") from rfl, show nvOf (kvc at_) "c" = at_ from nvc at_] at hu
                exact hu
              walk_at "rd"
              refine br (fun z0 => ?_) (fun z0 => ?_)
              · walk_at "rd"
                refine br (fun z1 => ?_) (fun z1 => ?_)
                · walk_at "rd"
                  have h5 : at_.toNat < cs.length := by omega
                  refine s_ixA (s_ixL (SqL.of eRM) (at_of (j := at_.toNat) (v := .int (cs.getD at_.toNat 0)) (by omega) ?_) ?_)
                  · rw [List.getElem?_map, List.getD_eq_getElem?_getD, List.getElem?_eq_getElem h5]
                    rfl
                  walk_at "rd"
                  intro l0 y0
                  have b0 := same_upd (o := .tup [.int (cs.getD at_.toNat 0), .non]) y0
                  have due : Dp K (upd HM l0 (.tup [.int (cs.getD at_.toNat 0), .non])) (.ref l0) (dRes (oneV cs "at" at_)) := by
                    rw [show oneV cs "at" at_ = .ok (cs.getD at_.toNat 0) by unfold oneV; rw [if_pos rfl, if_pos ⟨z0, z1⟩]]
                    exact res_ok upd_same
                  walk_at "rd"
                  intro l1 w1
                  walk_at "rd"
                  intro l2 w2
                  walk_at "rd"
                  intro C wC
                  walk_at "rd"
                  refine ⟨upd_same, kvc at_, rfl, Nat.le_of_ble_eq_true rfl, ?_⟩
                  rw [upd_upd, show mergeK [] (kvc at_) = kvc at_ from by with_unfolding_all rfl]
                  walk_at "rd"
                  refine core _ _ b0 due _ (fun HO_ u sO hu => ?_) l1 w1 l2 w2 C wC
                  walk_at "rd"
                  refine ⟨_, hu, Dp.same sO _ _ due, OkS.okD 5 _ (okS_res _ 3), fun HP sP => ?_⟩
                  walk_at "rd"
                  exact ⟨_, _, rfl, s6.trans (b0.trans (sO.trans sP))⟩
                · walk_at "rd"
                  intro l0 y0
                  have b0 := same_upd (o := .tup [.non, .int (-2)]) y0
                  have due : Dp K (upd HM l0 (.tup [.non, .int (-2)])) (.ref l0) (dRes (oneV cs "at" at_)) := by
                    rw [show oneV cs "at" at_ = .error (-2) by unfold oneV; rw [if_pos rfl, if_neg fun z => z1 z.2]]
                    exact res_er upd_same
                  walk_at "rd"
                  intro l1 w1
                  walk_at "rd"
                  intro l2 w2
                  walk_at "rd"
                  intro C wC
                  walk_at "rd"
                  refine ⟨upd_same, kvc at_, rfl, Nat.le_of_ble_eq_true rfl, ?_⟩
                  rw [upd_upd, show mergeK [] (kvc at_) = kvc at_ from by with_unfolding_all rfl]
                  walk_at "rd"
                  refine core _ _ b0 due _ (fun HO_ u sO hu => ?_) l1 w1 l2 w2 C wC
                  walk_at "rd"
                  refine ⟨_, hu, Dp.same sO _ _ due, OkS.okD 5 _ (okS_res _ 3), fun HP sP => ?_⟩
                  walk_at "rd"
                  exact ⟨_, _, rfl, s6.trans (b0.trans (sO.trans sP))⟩
              · walk_at "rd"
                intro l0 y0
                have b0 := same_upd (o := .tup [.non, .int (-2)]) y0
                have due : Dp K (upd HM l0 (.tup [.non, .int (-2)])) (.ref l0) (dRes (oneV cs "at" at_)) := by
                  rw [show oneV cs "at" at_ = .error (-2) by unfold oneV; rw [if_pos rfl, if_neg fun z => z0 z.1]]
                  exact res_er upd_same
                walk_at "rd"
                intro l1 w1
                walk_at "rd"
                intro l2 w2
                walk_at "rd"
                intro C wC
                walk_at "rd"
                refine ⟨upd_same, kvc at_, rfl, Nat.le_of_ble_eq_true rfl, ?_⟩
                rw [upd_upd, show mergeK [] (kvc at_) = kvc at_ from by with_unfolding_all rfl]
                walk_at "rd"
                refine core _ _ b0 due _ (fun HO_ u sO hu => ?_) l1 w1 l2 w2 C wC
                walk_at "rd"
                refine ⟨_, hu, Dp.same sO _ _ due, OkS.okD 5 _ (okS_res _ 3), fun HP sP => ?_⟩
                walk_at "rd"
                exact ⟨_, _, rfl, s6.trans (b0.trans (sO.trans sP))⟩
            · rintro σ HM ⟨x13, x18, rfl, s6⟩
              walk_at "rd"
              exact ⟨_, _, _, _, _, _, _, _, _, _, _, _, _, _, _, rfl, dL.same s6, s6 _ _ eRL⟩
  · rintro σ H3 ⟨x4, x5, x6, x7, x8, x9, x10, x11, x12, x13, x14, x15, x16, x17, x18, rfl, d3, eR3⟩
    walk_at "rd"
    exact q _
end
end L2.U
namespace L2.U
open PySem PySem.Spec PyProof.Rows RZ TL
theorem all_mk {l : PySem.W.OpenLaw} {w : World} {K : PySem.W.Frag} {h : Heap} {mg : Str → Option Value} {fa f_plus f_minus f_times f_less f_same f_both f_either f_paired f_worth f_law_begin f_law_take f_law_same f_law_far f_law_one f_law_rooms f_law : Addr} (X : K.In h) (G : h.Ns mainGlobals mg) (hfa : mg "law" = some (.ref fa))
    {od_plus an_plus : Option Addr} {sl_plus : Array (Option Value)} {oc_plus kV_plus dc_plus pm_plus cd_plus ct_plus : Value}
    (a_plus : PySem.W.nsIn K mainGlobals "plus" = some (some (.ref f_plus))) (l_plus : K.lookup f_plus = some ⟨oc_plus, od_plus, .func (PySem.W.fnOf "plus" "plus" (defArgs s_plus) (defBody s_plus) (defScope s_plus) .none kV_plus dc_plus pm_plus an_plus cd_plus ct_plus), sl_plus⟩) (c_plus : PySem.W.codeIn K cd_plus "plus" = true) (k_plus : PySem.W.keepIn K (.ref f_plus) = true)
    {od_minus an_minus : Option Addr} {sl_minus : Array (Option Value)} {oc_minus kV_minus dc_minus pm_minus cd_minus ct_minus : Value}
    (a_minus : PySem.W.nsIn K mainGlobals "minus" = some (some (.ref f_minus))) (l_minus : K.lookup f_minus = some ⟨oc_minus, od_minus, .func (PySem.W.fnOf "minus" "minus" (defArgs s_minus) (defBody s_minus) (defScope s_minus) .none kV_minus dc_minus pm_minus an_minus cd_minus ct_minus), sl_minus⟩) (c_minus : PySem.W.codeIn K cd_minus "minus" = true) (k_minus : PySem.W.keepIn K (.ref f_minus) = true)
    {od_times an_times : Option Addr} {sl_times : Array (Option Value)} {oc_times kV_times dc_times pm_times cd_times ct_times : Value}
    (a_times : PySem.W.nsIn K mainGlobals "times" = some (some (.ref f_times))) (l_times : K.lookup f_times = some ⟨oc_times, od_times, .func (PySem.W.fnOf "times" "times" (defArgs s_times) (defBody s_times) (defScope s_times) .none kV_times dc_times pm_times an_times cd_times ct_times), sl_times⟩) (c_times : PySem.W.codeIn K cd_times "times" = true) (k_times : PySem.W.keepIn K (.ref f_times) = true)
    {od_less an_less : Option Addr} {sl_less : Array (Option Value)} {oc_less kV_less dc_less pm_less cd_less ct_less : Value}
    (a_less : PySem.W.nsIn K mainGlobals "less" = some (some (.ref f_less))) (l_less : K.lookup f_less = some ⟨oc_less, od_less, .func (PySem.W.fnOf "less" "less" (defArgs s_less) (defBody s_less) (defScope s_less) .none kV_less dc_less pm_less an_less cd_less ct_less), sl_less⟩) (c_less : PySem.W.codeIn K cd_less "less" = true) (k_less : PySem.W.keepIn K (.ref f_less) = true)
    {od_same an_same : Option Addr} {sl_same : Array (Option Value)} {oc_same kV_same dc_same pm_same cd_same ct_same : Value}
    (a_same : PySem.W.nsIn K mainGlobals "same" = some (some (.ref f_same))) (l_same : K.lookup f_same = some ⟨oc_same, od_same, .func (PySem.W.fnOf "same" "same" (defArgs s_same) (defBody s_same) (defScope s_same) .none kV_same dc_same pm_same an_same cd_same ct_same), sl_same⟩) (c_same : PySem.W.codeIn K cd_same "same" = true) (k_same : PySem.W.keepIn K (.ref f_same) = true)
    {od_both an_both : Option Addr} {sl_both : Array (Option Value)} {oc_both kV_both dc_both pm_both cd_both ct_both : Value}
    (a_both : PySem.W.nsIn K mainGlobals "both" = some (some (.ref f_both))) (l_both : K.lookup f_both = some ⟨oc_both, od_both, .func (PySem.W.fnOf "both" "both" (defArgs s_both) (defBody s_both) (defScope s_both) .none kV_both dc_both pm_both an_both cd_both ct_both), sl_both⟩) (c_both : PySem.W.codeIn K cd_both "both" = true) (k_both : PySem.W.keepIn K (.ref f_both) = true)
    {od_either an_either : Option Addr} {sl_either : Array (Option Value)} {oc_either kV_either dc_either pm_either cd_either ct_either : Value}
    (a_either : PySem.W.nsIn K mainGlobals "either" = some (some (.ref f_either))) (l_either : K.lookup f_either = some ⟨oc_either, od_either, .func (PySem.W.fnOf "either" "either" (defArgs s_either) (defBody s_either) (defScope s_either) .none kV_either dc_either pm_either an_either cd_either ct_either), sl_either⟩) (c_either : PySem.W.codeIn K cd_either "either" = true) (k_either : PySem.W.keepIn K (.ref f_either) = true)
    {od_paired an_paired : Option Addr} {sl_paired : Array (Option Value)} {oc_paired kV_paired dc_paired pm_paired cd_paired ct_paired : Value}
    (a_paired : PySem.W.nsIn K mainGlobals "paired" = some (some (.ref f_paired))) (l_paired : K.lookup f_paired = some ⟨oc_paired, od_paired, .func (PySem.W.fnOf "paired" "paired" (defArgs s_paired) (defBody s_paired) (defScope s_paired) .none kV_paired dc_paired pm_paired an_paired cd_paired ct_paired), sl_paired⟩) (c_paired : PySem.W.codeIn K cd_paired "paired" = true) (k_paired : PySem.W.keepIn K (.ref f_paired) = true)
    {od_worth an_worth : Option Addr} {sl_worth : Array (Option Value)} {oc_worth kV_worth dc_worth pm_worth cd_worth ct_worth : Value}
    (a_worth : PySem.W.nsIn K mainGlobals "worth" = some (some (.ref f_worth))) (l_worth : K.lookup f_worth = some ⟨oc_worth, od_worth, .func (PySem.W.fnOf "worth" "worth" (defArgs s_worth) (defBody s_worth) (defScope s_worth) .none kV_worth dc_worth pm_worth an_worth cd_worth ct_worth), sl_worth⟩) (c_worth : PySem.W.codeIn K cd_worth "worth" = true) (k_worth : PySem.W.keepIn K (.ref f_worth) = true)
    {od_law_begin an_law_begin : Option Addr} {sl_law_begin : Array (Option Value)} {oc_law_begin kV_law_begin dc_law_begin pm_law_begin cd_law_begin ct_law_begin : Value}
    (a_law_begin : PySem.W.nsIn K mainGlobals "_law_begin" = some (some (.ref f_law_begin))) (l_law_begin : K.lookup f_law_begin = some ⟨oc_law_begin, od_law_begin, .func (PySem.W.fnOf "_law_begin" "_law_begin" (defArgs s_law_begin) (defBody s_law_begin) (defScope s_law_begin) .none kV_law_begin dc_law_begin pm_law_begin an_law_begin cd_law_begin ct_law_begin), sl_law_begin⟩) (c_law_begin : PySem.W.codeIn K cd_law_begin "_law_begin" = true) (k_law_begin : PySem.W.keepIn K (.ref f_law_begin) = true)
    {od_law_take an_law_take : Option Addr} {sl_law_take : Array (Option Value)} {oc_law_take kV_law_take dc_law_take pm_law_take cd_law_take ct_law_take : Value}
    (a_law_take : PySem.W.nsIn K mainGlobals "_law_take" = some (some (.ref f_law_take))) (l_law_take : K.lookup f_law_take = some ⟨oc_law_take, od_law_take, .func (PySem.W.fnOf "_law_take" "_law_take" (defArgs s_law_take) (defBody s_law_take) (defScope s_law_take) .none kV_law_take dc_law_take pm_law_take an_law_take cd_law_take ct_law_take), sl_law_take⟩) (c_law_take : PySem.W.codeIn K cd_law_take "_law_take" = true) (k_law_take : PySem.W.keepIn K (.ref f_law_take) = true)
    {od_law_same an_law_same : Option Addr} {sl_law_same : Array (Option Value)} {oc_law_same kV_law_same dc_law_same pm_law_same cd_law_same ct_law_same : Value}
    (a_law_same : PySem.W.nsIn K mainGlobals "_law_same" = some (some (.ref f_law_same))) (l_law_same : K.lookup f_law_same = some ⟨oc_law_same, od_law_same, .func (PySem.W.fnOf "_law_same" "_law_same" (defArgs s_law_same) (defBody s_law_same) (defScope s_law_same) .none kV_law_same dc_law_same pm_law_same an_law_same cd_law_same ct_law_same), sl_law_same⟩) (c_law_same : PySem.W.codeIn K cd_law_same "_law_same" = true) (k_law_same : PySem.W.keepIn K (.ref f_law_same) = true)
    {od_law_far an_law_far : Option Addr} {sl_law_far : Array (Option Value)} {oc_law_far kV_law_far dc_law_far pm_law_far cd_law_far ct_law_far : Value}
    (a_law_far : PySem.W.nsIn K mainGlobals "_law_far" = some (some (.ref f_law_far))) (l_law_far : K.lookup f_law_far = some ⟨oc_law_far, od_law_far, .func (PySem.W.fnOf "_law_far" "_law_far" (defArgs s_law_far) (defBody s_law_far) (defScope s_law_far) .none kV_law_far dc_law_far pm_law_far an_law_far cd_law_far ct_law_far), sl_law_far⟩) (c_law_far : PySem.W.codeIn K cd_law_far "_law_far" = true) (k_law_far : PySem.W.keepIn K (.ref f_law_far) = true)
    {od_law_one an_law_one : Option Addr} {sl_law_one : Array (Option Value)} {oc_law_one kV_law_one dc_law_one pm_law_one cd_law_one ct_law_one : Value}
    (a_law_one : PySem.W.nsIn K mainGlobals "_law_one" = some (some (.ref f_law_one))) (l_law_one : K.lookup f_law_one = some ⟨oc_law_one, od_law_one, .func (PySem.W.fnOf "_law_one" "_law_one" (defArgs s_law_one) (defBody s_law_one) (defScope s_law_one) .none kV_law_one dc_law_one pm_law_one an_law_one cd_law_one ct_law_one), sl_law_one⟩) (c_law_one : PySem.W.codeIn K cd_law_one "_law_one" = true) (k_law_one : PySem.W.keepIn K (.ref f_law_one) = true)
    {od_law_rooms an_law_rooms : Option Addr} {sl_law_rooms : Array (Option Value)} {oc_law_rooms kV_law_rooms dc_law_rooms pm_law_rooms cd_law_rooms ct_law_rooms : Value}
    (a_law_rooms : PySem.W.nsIn K mainGlobals "_law_rooms" = some (some (.ref f_law_rooms))) (l_law_rooms : K.lookup f_law_rooms = some ⟨oc_law_rooms, od_law_rooms, .func (PySem.W.fnOf "_law_rooms" "_law_rooms" (defArgs s_law_rooms) (defBody s_law_rooms) (defScope s_law_rooms) .none kV_law_rooms dc_law_rooms pm_law_rooms an_law_rooms cd_law_rooms ct_law_rooms), sl_law_rooms⟩) (c_law_rooms : PySem.W.codeIn K cd_law_rooms "_law_rooms" = true) (k_law_rooms : PySem.W.keepIn K (.ref f_law_rooms) = true)
    {od_law an_law : Option Addr} {sl_law : Array (Option Value)} {oc_law kV_law dc_law pm_law cd_law ct_law : Value}
    (a_law : PySem.W.nsIn K mainGlobals "law" = some (some (.ref f_law))) (l_law : K.lookup f_law = some ⟨oc_law, od_law, .func (PySem.W.fnOf "law" "law" (defArgs s_law) (defBody s_law) (defScope s_law) .none kV_law dc_law pm_law an_law cd_law ct_law), sl_law⟩) (c_law : PySem.W.codeIn K cd_law "law" = true) (k_law : PySem.W.keepIn K (.ref f_law) = true)
    (z_abs : PySem.W.nsIn K mainGlobals "abs" = some none)
    (z_all : PySem.W.nsIn K mainGlobals "all" = some none)
    (z_bool : PySem.W.nsIn K mainGlobals "bool" = some none)
    (z_int : PySem.W.nsIn K mainGlobals "int" = some none)
    (z_isinstance : PySem.W.nsIn K mainGlobals "isinstance" = some none)
    (z_len : PySem.W.nsIn K mainGlobals "len" = some none)
    (z_list : PySem.W.nsIn K mainGlobals "list" = some none)
    (z_range : PySem.W.nsIn K mainGlobals "range" = some none)
    (z_str : PySem.W.nsIn K mainGlobals "str" = some none)
    (z_tuple : PySem.W.nsIn K mainGlobals "tuple" = some none)
    (z_zip : PySem.W.nsIn K mainGlobals "zip" = some none)
    {t_CELLS : Tok} (n_CELLS : PySem.W.nsIn K mainGlobals "CELLS" = some (some (.int (16) t_CELLS)))
    {t_GREAT : Tok} (n_GREAT : PySem.W.nsIn K mainGlobals "GREAT" = some (some (.int (1000000000000) t_GREAT)))
    {t_NOUGHT : Tok} (n_NOUGHT : PySem.W.nsIn K mainGlobals "NOUGHT" = some (some (.int (-1) t_NOUGHT)))
    {t_NO_CELL : Tok} (n_NO_CELL : PySem.W.nsIn K mainGlobals "NO_CELL" = some (some (.int (-2) t_NO_CELL)))
    {t_TOO_GREAT : Tok} (n_TOO_GREAT : PySem.W.nsIn K mainGlobals "TOO_GREAT" = some (some (.int (-3) t_TOO_GREAT)))
    {a_PLAIN : Addr} (n_PLAIN : PySem.W.nsIn K mainGlobals "PLAIN" = some (some (.ref a_PLAIN))) {e_PLAIN : Array DictEntry} {m_PLAIN : Nat} (l_PLAIN : K.lookup a_PLAIN = some ⟨.type "dict", none, .dict e_PLAIN m_PLAIN, #[]⟩) (d_PLAIN : (a_PLAIN == sysModules) = false) (y_PLAIN : PySem.W.KeysLit w.params e_PLAIN.toList) (h0_PLAIN : PySem.W.nsIn K a_PLAIN "<" = some (some (.ref f_less))) (h1_PLAIN : PySem.W.nsIn K a_PLAIN "=" = some (some (.ref f_same))) (h2_PLAIN : PySem.W.nsIn K a_PLAIN "and" = some (some (.ref f_both))) (h3_PLAIN : PySem.W.nsIn K a_PLAIN "or" = some (some (.ref f_either))) (m0_PLAIN : PySem.W.nsIn K a_PLAIN "+" = some none) (m1_PLAIN : PySem.W.nsIn K a_PLAIN "-" = some none) (m2_PLAIN : PySem.W.nsIn K a_PLAIN "*" = some none) (m3_PLAIN : PySem.W.nsIn K a_PLAIN "div" = some none) (m4_PLAIN : PySem.W.nsIn K a_PLAIN "mod" = some none)
    {a_BOUNDED : Addr} (n_BOUNDED : PySem.W.nsIn K mainGlobals "BOUNDED" = some (some (.ref a_BOUNDED))) {e_BOUNDED : Array DictEntry} {m_BOUNDED : Nat} (l_BOUNDED : K.lookup a_BOUNDED = some ⟨.type "dict", none, .dict e_BOUNDED m_BOUNDED, #[]⟩) (d_BOUNDED : (a_BOUNDED == sysModules) = false) (y_BOUNDED : PySem.W.KeysLit w.params e_BOUNDED.toList) (h0_BOUNDED : PySem.W.nsIn K a_BOUNDED "+" = some (some (.ref f_plus))) (h1_BOUNDED : PySem.W.nsIn K a_BOUNDED "-" = some (some (.ref f_minus))) (h2_BOUNDED : PySem.W.nsIn K a_BOUNDED "*" = some (some (.ref f_times))) (m0_BOUNDED : PySem.W.nsIn K a_BOUNDED "div" = some none) (m1_BOUNDED : PySem.W.nsIn K a_BOUNDED "mod" = some none) (m2_BOUNDED : PySem.W.nsIn K a_BOUNDED "<" = some none) (m3_BOUNDED : PySem.W.nsIn K a_BOUNDED "=" = some none) (m4_BOUNDED : PySem.W.nsIn K a_BOUNDED "and" = some none) (m5_BOUNDED : PySem.W.nsIn K a_BOUNDED "or" = some none)
    {c_Reckoner : Addr} (g_Reckoner : PySem.W.nsIn K mainGlobals "Reckoner" = some (some (.ref c_Reckoner))) (q_Reckoner : PySem.W.keepIn K (.ref c_Reckoner) = true) (cp_Reckoner : PySem.W.plainGet K c_Reckoner Str.empty = true) (ch_Reckoner : PySem.W.hasDictIn K c_Reckoner = true) (co_Reckoner : PySem.W.plainOver K c_Reckoner = true) (ca_Reckoner : PySem.W.findIn K (.ref c_Reckoner) "__setattr__" = some (some (.builtin "object.__setattr__")))
    (na_Reckoner_worths : PySem.W.findIn K (.ref c_Reckoner) "worths" = some none)
    (na_Reckoner_rooms : PySem.W.findIn K (.ref c_Reckoner) "rooms" = some none)
    (na_Reckoner_seen : PySem.W.findIn K (.ref c_Reckoner) "seen" = some none)
    {f_Reckoner___init__ : Addr} {od_Reckoner___init__ an_Reckoner___init__ : Option Addr} {sl_Reckoner___init__ : Array (Option Value)} {oc_Reckoner___init__ kV_Reckoner___init__ dc_Reckoner___init__ pm_Reckoner___init__ cd_Reckoner___init__ ct_Reckoner___init__ : Value} (fi_Reckoner___init__ : PySem.W.findIn K (.ref c_Reckoner) "__init__" = some (some (.ref f_Reckoner___init__))) (fn_Reckoner___init__ : PySem.W.isFn K (.ref f_Reckoner___init__) = true) (l_Reckoner___init__ : K.lookup f_Reckoner___init__ = some ⟨oc_Reckoner___init__, od_Reckoner___init__, .func (PySem.W.fnOf "__init__" "Reckoner.__init__" (defArgs s_Reckoner___init__) (defBody s_Reckoner___init__) (defScope s_Reckoner___init__) .none kV_Reckoner___init__ dc_Reckoner___init__ pm_Reckoner___init__ an_Reckoner___init__ cd_Reckoner___init__ ct_Reckoner___init__), sl_Reckoner___init__⟩) (c_Reckoner___init__ : PySem.W.codeIn K cd_Reckoner___init__ "Reckoner.__init__" = true) (k_Reckoner___init__ : PySem.W.keepIn K (.ref f_Reckoner___init__) = true)
    {f_Reckoner_saw : Addr} {od_Reckoner_saw an_Reckoner_saw : Option Addr} {sl_Reckoner_saw : Array (Option Value)} {oc_Reckoner_saw kV_Reckoner_saw dc_Reckoner_saw pm_Reckoner_saw cd_Reckoner_saw ct_Reckoner_saw : Value} (fi_Reckoner_saw : PySem.W.findIn K (.ref c_Reckoner) "saw" = some (some (.ref f_Reckoner_saw))) (fn_Reckoner_saw : PySem.W.isFn K (.ref f_Reckoner_saw) = true) (l_Reckoner_saw : K.lookup f_Reckoner_saw = some ⟨oc_Reckoner_saw, od_Reckoner_saw, .func (PySem.W.fnOf "saw" "Reckoner.saw" (defArgs s_Reckoner_saw) (defBody s_Reckoner_saw) (defScope s_Reckoner_saw) .none kV_Reckoner_saw dc_Reckoner_saw pm_Reckoner_saw an_Reckoner_saw cd_Reckoner_saw ct_Reckoner_saw), sl_Reckoner_saw⟩) (c_Reckoner_saw : PySem.W.codeIn K cd_Reckoner_saw "Reckoner.saw" = true) (k_Reckoner_saw : PySem.W.keepIn K (.ref f_Reckoner_saw) = true)
    {f_Reckoner_of : Addr} {od_Reckoner_of an_Reckoner_of : Option Addr} {sl_Reckoner_of : Array (Option Value)} {oc_Reckoner_of kV_Reckoner_of dc_Reckoner_of pm_Reckoner_of cd_Reckoner_of ct_Reckoner_of : Value} (fi_Reckoner_of : PySem.W.findIn K (.ref c_Reckoner) "of" = some (some (.ref f_Reckoner_of))) (fn_Reckoner_of : PySem.W.isFn K (.ref f_Reckoner_of) = true) (l_Reckoner_of : K.lookup f_Reckoner_of = some ⟨oc_Reckoner_of, od_Reckoner_of, .func (PySem.W.fnOf "of" "Reckoner.of" (defArgs s_Reckoner_of) (defBody s_Reckoner_of) (defScope s_Reckoner_of) .none kV_Reckoner_of dc_Reckoner_of pm_Reckoner_of an_Reckoner_of cd_Reckoner_of ct_Reckoner_of), sl_Reckoner_of⟩) (c_Reckoner_of : PySem.W.codeIn K cd_Reckoner_of "Reckoner.of" = true) (k_Reckoner_of : PySem.W.keepIn K (.ref f_Reckoner_of) = true)
    {f_Reckoner_at_cell : Addr} {od_Reckoner_at_cell an_Reckoner_at_cell : Option Addr} {sl_Reckoner_at_cell : Array (Option Value)} {oc_Reckoner_at_cell kV_Reckoner_at_cell dc_Reckoner_at_cell pm_Reckoner_at_cell cd_Reckoner_at_cell ct_Reckoner_at_cell : Value} (fi_Reckoner_at_cell : PySem.W.findIn K (.ref c_Reckoner) "at_cell" = some (some (.ref f_Reckoner_at_cell))) (fn_Reckoner_at_cell : PySem.W.isFn K (.ref f_Reckoner_at_cell) = true) (l_Reckoner_at_cell : K.lookup f_Reckoner_at_cell = some ⟨oc_Reckoner_at_cell, od_Reckoner_at_cell, .func (PySem.W.fnOf "at_cell" "Reckoner.at_cell" (defArgs s_Reckoner_at_cell) (defBody s_Reckoner_at_cell) (defScope s_Reckoner_at_cell) .none kV_Reckoner_at_cell dc_Reckoner_at_cell pm_Reckoner_at_cell an_Reckoner_at_cell cd_Reckoner_at_cell ct_Reckoner_at_cell), sl_Reckoner_at_cell⟩) (c_Reckoner_at_cell : PySem.W.codeIn K cd_Reckoner_at_cell "Reckoner.at_cell" = true) (k_Reckoner_at_cell : PySem.W.keepIn K (.ref f_Reckoner_at_cell) = true)
    (mk_Reckoner : PySem.W.makesIn K c_Reckoner = true)
    : ∃ fd : FuncData, (∀ (s : Shared) (v : Value), BindsTo s fd ⟨[v], []⟩ [("_law_script", v)]) ∧ ∀ base : Heap, K.In base → base.Ns mainGlobals mg → FnOk l.prog w K mg base CX0 10 fa fd ["_law_script"] (spLaw K) := by
  have e := hfa.symm.trans (PySem.W.mg_of X G a_law)
  cases e
  have F_plus := fun_mk (st := s_plus) l_plus c_plus k_plus
  have D_plus : DefAt K mg "plus" s_plus ["one", "other"] := ⟨_, _, F_plus, PySem.W.mg_of X G a_plus, F_plus.binds (ps := ["one", "other"]) fun _ _ _ _ _ _ us hl => match us, hl with | [_, _], _ => rfl⟩
  have F_minus := fun_mk (st := s_minus) l_minus c_minus k_minus
  have D_minus : DefAt K mg "minus" s_minus ["one", "other"] := ⟨_, _, F_minus, PySem.W.mg_of X G a_minus, F_minus.binds (ps := ["one", "other"]) fun _ _ _ _ _ _ us hl => match us, hl with | [_, _], _ => rfl⟩
  have F_times := fun_mk (st := s_times) l_times c_times k_times
  have D_times : DefAt K mg "times" s_times ["one", "other"] := ⟨_, _, F_times, PySem.W.mg_of X G a_times, F_times.binds (ps := ["one", "other"]) fun _ _ _ _ _ _ us hl => match us, hl with | [_, _], _ => rfl⟩
  have F_less := fun_mk (st := s_less) l_less c_less k_less
  have D_less : DefAt K mg "less" s_less ["one", "other"] := ⟨_, _, F_less, PySem.W.mg_of X G a_less, F_less.binds (ps := ["one", "other"]) fun _ _ _ _ _ _ us hl => match us, hl with | [_, _], _ => rfl⟩
  have F_same := fun_mk (st := s_same) l_same c_same k_same
  have D_same : DefAt K mg "same" s_same ["one", "other"] := ⟨_, _, F_same, PySem.W.mg_of X G a_same, F_same.binds (ps := ["one", "other"]) fun _ _ _ _ _ _ us hl => match us, hl with | [_, _], _ => rfl⟩
  have F_both := fun_mk (st := s_both) l_both c_both k_both
  have D_both : DefAt K mg "both" s_both ["one", "other"] := ⟨_, _, F_both, PySem.W.mg_of X G a_both, F_both.binds (ps := ["one", "other"]) fun _ _ _ _ _ _ us hl => match us, hl with | [_, _], _ => rfl⟩
  have F_either := fun_mk (st := s_either) l_either c_either k_either
  have D_either : DefAt K mg "either" s_either ["one", "other"] := ⟨_, _, F_either, PySem.W.mg_of X G a_either, F_either.binds (ps := ["one", "other"]) fun _ _ _ _ _ _ us hl => match us, hl with | [_, _], _ => rfl⟩
  have F_paired := fun_mk (st := s_paired) l_paired c_paired k_paired
  have D_paired : DefAt K mg "paired" s_paired ["word", "one", "other"] := ⟨_, _, F_paired, PySem.W.mg_of X G a_paired, F_paired.binds (ps := ["word", "one", "other"]) fun _ _ _ _ _ _ us hl => match us, hl with | [_, _, _], _ => rfl⟩
  have F_worth := fun_mk (st := s_worth) l_worth c_worth k_worth
  have D_worth : DefAt K mg "worth" s_worth ["tree", "names", "cells"] := ⟨_, _, F_worth, PySem.W.mg_of X G a_worth, F_worth.binds (ps := ["tree", "names", "cells"]) fun _ _ _ _ _ _ us hl => match us, hl with | [_, _, _], _ => rfl⟩
  have F_law_begin := fun_mk (st := s_law_begin) l_law_begin c_law_begin k_law_begin
  have D_law_begin : DefAt K mg "_law_begin" s_law_begin ["_law_script"] := ⟨_, _, F_law_begin, PySem.W.mg_of X G a_law_begin, F_law_begin.binds (ps := ["_law_script"]) fun _ _ _ _ _ _ us hl => match us, hl with | [_], _ => rfl⟩
  have F_law_take := fun_mk (st := s_law_take) l_law_take c_law_take k_law_take
  have D_law_take : DefAt K mg "_law_take" s_law_take ["_law_draw", "_law_sides"] := ⟨_, _, F_law_take, PySem.W.mg_of X G a_law_take, F_law_take.binds (ps := ["_law_draw", "_law_sides"]) fun _ _ _ _ _ _ us hl => match us, hl with | [_, _], _ => rfl⟩
  have F_law_same := fun_mk (st := s_law_same) l_law_same c_law_same k_law_same
  have D_law_same : DefAt K mg "_law_same" s_law_same ["_law_found", "_law_due"] := ⟨_, _, F_law_same, PySem.W.mg_of X G a_law_same, F_law_same.binds (ps := ["_law_found", "_law_due"]) fun _ _ _ _ _ _ us hl => match us, hl with | [_, _], _ => rfl⟩
  have F_law_far := fun_mk (st := s_law_far) l_law_far c_law_far k_law_far
  have D_law_far : DefAt K mg "_law_far" s_law_far ["_law_draw"] := ⟨_, _, F_law_far, PySem.W.mg_of X G a_law_far, F_law_far.binds (ps := ["_law_draw"]) fun _ _ _ _ _ _ us hl => match us, hl with | [_], _ => rfl⟩
  have F_law_one := fun_mk (st := s_law_one) l_law_one c_law_one k_law_one
  have D_law_one : DefAt K mg "_law_one" s_law_one ["_law_draw", "_law_row"] := ⟨_, _, F_law_one, PySem.W.mg_of X G a_law_one, F_law_one.binds (ps := ["_law_draw", "_law_row"]) fun _ _ _ _ _ _ us hl => match us, hl with | [_, _], _ => rfl⟩
  have F_law_rooms := fun_mk (st := s_law_rooms) l_law_rooms c_law_rooms k_law_rooms
  have D_law_rooms : DefAt K mg "_law_rooms" s_law_rooms ["_law_draw"] := ⟨_, _, F_law_rooms, PySem.W.mg_of X G a_law_rooms, F_law_rooms.binds (ps := ["_law_draw"]) fun _ _ _ _ _ _ us hl => match us, hl with | [_], _ => rfl⟩
  have F_law := fun_mk (st := s_law) l_law c_law k_law
  have D_law : DefAt K mg "law" s_law ["_law_script"] := ⟨_, _, F_law, PySem.W.mg_of X G a_law, F_law.binds (ps := ["_law_script"]) fun _ _ _ _ _ _ us hl => match us, hl with | [_], _ => rfl⟩
  have Z_Reckoner : ClsF K c_Reckoner ["worths", "rooms", "seen"] := ⟨⟨cp_Reckoner, ch_Reckoner, co_Reckoner, ca_Reckoner⟩, fun x hx => by
    simp only [List.mem_cons, List.not_mem_nil, or_false] at hx
    rcases hx with rfl | rfl | rfl
    · exact na_Reckoner_worths
    · exact na_Reckoner_rooms
    · exact na_Reckoner_seen⟩
  have F_Reckoner___init__ := fun_mk (x := "__init__") (qual := "Reckoner.__init__") (st := s_Reckoner___init__) l_Reckoner___init__ c_Reckoner___init__ k_Reckoner___init__
  have D_Reckoner___init__ : MakAt K mg "Reckoner" c_Reckoner "Reckoner.__init__" s_Reckoner___init__ ["self", "names", "cells"] := ⟨_, _, PySem.W.mg_of X G g_Reckoner, ⟨mk_Reckoner, fi_Reckoner___init__, fn_Reckoner___init__, q_Reckoner⟩, F_Reckoner___init__, F_Reckoner___init__.binds (ps := ["self", "names", "cells"]) fun _ _ _ _ _ _ us hl => match us, hl with | [_, _, _], _ => rfl⟩
  have F_Reckoner_saw := fun_mk (x := "saw") (qual := "Reckoner.saw") (st := s_Reckoner_saw) l_Reckoner_saw c_Reckoner_saw k_Reckoner_saw
  have D_Reckoner_saw : MetAt K c_Reckoner "saw" "Reckoner.saw" s_Reckoner_saw ["self", "place"] := ⟨_, _, Z_Reckoner.c, ⟨fi_Reckoner_saw, fn_Reckoner_saw, k_Reckoner_saw⟩, F_Reckoner_saw, F_Reckoner_saw.binds (ps := ["self", "place"]) fun _ _ _ _ _ _ us hl => match us, hl with | [_, _], _ => rfl⟩
  have F_Reckoner_of := fun_mk (x := "of") (qual := "Reckoner.of") (st := s_Reckoner_of) l_Reckoner_of c_Reckoner_of k_Reckoner_of
  have D_Reckoner_of : MetAt K c_Reckoner "of" "Reckoner.of" s_Reckoner_of ["self", "tree"] := ⟨_, _, Z_Reckoner.c, ⟨fi_Reckoner_of, fn_Reckoner_of, k_Reckoner_of⟩, F_Reckoner_of, F_Reckoner_of.binds (ps := ["self", "tree"]) fun _ _ _ _ _ _ us hl => match us, hl with | [_, _], _ => rfl⟩
  have F_Reckoner_at_cell := fun_mk (x := "at_cell") (qual := "Reckoner.at_cell") (st := s_Reckoner_at_cell) l_Reckoner_at_cell c_Reckoner_at_cell k_Reckoner_at_cell
  have D_Reckoner_at_cell : MetAt K c_Reckoner "at_cell" "Reckoner.at_cell" s_Reckoner_at_cell ["self", "number"] := ⟨_, _, Z_Reckoner.c, ⟨fi_Reckoner_at_cell, fn_Reckoner_at_cell, k_Reckoner_at_cell⟩, F_Reckoner_at_cell, F_Reckoner_at_cell.binds (ps := ["self", "number"]) fun _ _ _ _ _ _ us hl => match us, hl with | [_, _], _ => rfl⟩
  have B : Blt mg := ⟨PySem.W.mg_none_of X G z_abs, PySem.W.mg_none_of X G z_all, PySem.W.mg_none_of X G z_bool, PySem.W.mg_none_of X G z_int, PySem.W.mg_none_of X G z_isinstance, PySem.W.mg_none_of X G z_len, PySem.W.mg_none_of X G z_list, PySem.W.mg_none_of X G z_range, PySem.W.mg_none_of X G z_str, PySem.W.mg_none_of X G z_tuple, PySem.W.mg_none_of X G z_zip⟩
  have g_CELLS := PySem.W.mg_of X G n_CELLS
  have g_GREAT := PySem.W.mg_of X G n_GREAT
  have g_NOUGHT := PySem.W.mg_of X G n_NOUGHT
  have g_NO_CELL := PySem.W.mg_of X G n_NO_CELL
  have g_TOO_GREAT := PySem.W.mg_of X G n_TOO_GREAT
  have g_PLAIN := PySem.W.mg_of X G n_PLAIN
  have g_BOUNDED := PySem.W.mg_of X G n_BOUNDED
  refine ⟨PySem.W.fnOf "law" "law" (defArgs s_law) (defBody s_law) (defScope s_law) .none kV_law dc_law pm_law an_law cd_law ct_law, fun s v => .of_eq rfl, fun base _ _ => ?_⟩
  have T := ok_take (P := l.prog) (w := w) (base := base) D_law_take B
  have O := ok_one D_law_one B T
  have OP : OpsAt l.prog w K mg base a_PLAIN a_BOUNDED := by
    refine ⟨g_PLAIN, g_BOUNDED, ?_, ?_, ⟨f_less, ⟨_, _, _, l_PLAIN, y_PLAIN, h0_PLAIN, rfl⟩, (ok_less D_less B).held (PySem.W.mg_of X G a_less)⟩, ⟨f_same, ⟨_, _, _, l_PLAIN, y_PLAIN, h1_PLAIN, rfl⟩, (ok_psame D_same B).held (PySem.W.mg_of X G a_same)⟩, ⟨f_both, ⟨_, _, _, l_PLAIN, y_PLAIN, h2_PLAIN, rfl⟩, (ok_both D_both B).held (PySem.W.mg_of X G a_both)⟩, ⟨f_either, ⟨_, _, _, l_PLAIN, y_PLAIN, h3_PLAIN, rfl⟩, (ok_either D_either B).held (PySem.W.mg_of X G a_either)⟩,
      ⟨f_plus, ⟨_, _, _, l_BOUNDED, y_BOUNDED, h0_BOUNDED, rfl⟩, (ok_plus D_plus B).held (PySem.W.mg_of X G a_plus)⟩, ⟨f_minus, ⟨_, _, _, l_BOUNDED, y_BOUNDED, h1_BOUNDED, rfl⟩, (ok_minus D_minus B).held (PySem.W.mg_of X G a_minus)⟩, ⟨f_times, ⟨_, _, _, l_BOUNDED, y_BOUNDED, h2_BOUNDED, rfl⟩, (ok_times D_times B).held (PySem.W.mg_of X G a_times)⟩⟩
    · intro x hx
      simp only [twoL, List.mem_cons, List.not_mem_nil, or_false] at hx
      rcases hx with rfl | rfl | rfl | rfl | rfl | rfl | rfl | rfl | rfl
      · exact ⟨_, _, _, l_PLAIN, d_PLAIN, y_PLAIN, m0_PLAIN, by decide +kernel⟩
      · exact ⟨_, _, _, l_PLAIN, d_PLAIN, y_PLAIN, m1_PLAIN, by decide +kernel⟩
      · exact ⟨_, _, _, l_PLAIN, d_PLAIN, y_PLAIN, m2_PLAIN, by decide +kernel⟩
      · exact ⟨_, _, _, l_PLAIN, d_PLAIN, y_PLAIN, m3_PLAIN, by decide +kernel⟩
      · exact ⟨_, _, _, l_PLAIN, d_PLAIN, y_PLAIN, m4_PLAIN, by decide +kernel⟩
      · exact ⟨_, _, _, l_PLAIN, d_PLAIN, y_PLAIN, h0_PLAIN, (show true = _ by decide +kernel)⟩
      · exact ⟨_, _, _, l_PLAIN, d_PLAIN, y_PLAIN, h1_PLAIN, (show true = _ by decide +kernel)⟩
      · exact ⟨_, _, _, l_PLAIN, d_PLAIN, y_PLAIN, h2_PLAIN, (show true = _ by decide +kernel)⟩
      · exact ⟨_, _, _, l_PLAIN, d_PLAIN, y_PLAIN, h3_PLAIN, (show true = _ by decide +kernel)⟩
    · intro x hx
      simp only [twoL, List.mem_cons, List.not_mem_nil, or_false] at hx
      rcases hx with rfl | rfl | rfl | rfl | rfl | rfl | rfl | rfl | rfl
      · exact ⟨_, _, _, l_BOUNDED, d_BOUNDED, y_BOUNDED, h0_BOUNDED, (show true = _ by decide +kernel)⟩
      · exact ⟨_, _, _, l_BOUNDED, d_BOUNDED, y_BOUNDED, h1_BOUNDED, (show true = _ by decide +kernel)⟩
      · exact ⟨_, _, _, l_BOUNDED, d_BOUNDED, y_BOUNDED, h2_BOUNDED, (show true = _ by decide +kernel)⟩
      · exact ⟨_, _, _, l_BOUNDED, d_BOUNDED, y_BOUNDED, m0_BOUNDED, by decide +kernel⟩
      · exact ⟨_, _, _, l_BOUNDED, d_BOUNDED, y_BOUNDED, m1_BOUNDED, by decide +kernel⟩
      · exact ⟨_, _, _, l_BOUNDED, d_BOUNDED, y_BOUNDED, m2_BOUNDED, by decide +kernel⟩
      · exact ⟨_, _, _, l_BOUNDED, d_BOUNDED, y_BOUNDED, m3_BOUNDED, by decide +kernel⟩
      · exact ⟨_, _, _, l_BOUNDED, d_BOUNDED, y_BOUNDED, m4_BOUNDED, by decide +kernel⟩
      · exact ⟨_, _, _, l_BOUNDED, d_BOUNDED, y_BOUNDED, m5_BOUNDED, by decide +kernel⟩
  have PA := ok_paired D_paired B OP g_GREAT g_TOO_GREAT g_NOUGHT
  have SA := ok_saw (P := l.prog) (w := w) (mg := mg) (base := base) D_Reckoner_saw Z_Reckoner
  have CE := ok_cell D_Reckoner_at_cell Z_Reckoner g_CELLS g_NO_CELL SA
  have OF := ok_of D_Reckoner_of Z_Reckoner B SA CE PA 4
  have WO := ok_worth D_worth B (ok_rkinit D_Reckoner___init__ Z_Reckoner) OF
  have FA := ok_farS D_law_far B T
  exact ok_law F_law B (ok_begin D_law_begin B) T (ok_same D_law_same B 5) FA WO (ok_rooms D_law_rooms B T O FA)
end L2.U
open PySem PySem.W PyProof.Rows
set_option maxHeartbeats 0 in
theorem PySem.Challenge.cw_hindstep_k05_bounds_of_sums_holds : PySem.Challenge.rw_hindstep_k05_bounds_of_sums.Holds := by
  w_on; o_law; k_head; (case hw => w_witness2)
  k_fill
  refine L2.walk_of (l := PySem.Challenge.rw_hindstep_k05_bounds_of_sums) (n := 63) (k := 10) (x := "_law_script") (CX := fun _ => L2.CX0) (sp := fun w => L2.U.spLaw _) rfl (by decide) rfl ⟨rfl, by decide, by decide⟩ (fun w h Y => PySem.W.kIn_of Y) ?F (fun _ _ a ns hl _ hS => ⟨_, rfl, a, ns, rfl, hS, hl, fun _ => rfl⟩) (fun _ _ _ _ _ h => h)
  case F =>
    intro w mg fa h KX G hmg
    refine' L2.U.all_mk KX G hmg ?a_plus ?l_plus ?c_plus ?k_plus ?a_minus ?l_minus ?c_minus ?k_minus ?a_times ?l_times ?c_times ?k_times ?a_less ?l_less ?c_less ?k_less ?a_same ?l_same ?c_same ?k_same ?a_both ?l_both ?c_both ?k_both ?a_either ?l_either ?c_either ?k_either ?a_paired ?l_paired ?c_paired ?k_paired ?a_worth ?l_worth ?c_worth ?k_worth ?a_law_begin ?l_law_begin ?c_law_begin ?k_law_begin ?a_law_take ?l_law_take ?c_law_take ?k_law_take ?a_law_same ?l_law_same ?c_law_same ?k_law_same ?a_law_far ?l_law_far ?c_law_far ?k_law_far ?a_law_one ?l_law_one ?c_law_one ?k_law_one ?a_law_rooms ?l_law_rooms ?c_law_rooms ?k_law_rooms ?a_law ?l_law ?c_law ?k_law ?z_abs ?z_all ?z_bool ?z_int ?z_isinstance ?z_len ?z_list ?z_range ?z_str ?z_tuple ?z_zip ?n_CELLS ?n_GREAT ?n_NOUGHT ?n_NO_CELL ?n_TOO_GREAT ?n_PLAIN ?l_PLAIN ?d_PLAIN ?y_PLAIN ?h0_PLAIN ?h1_PLAIN ?h2_PLAIN ?h3_PLAIN ?m0_PLAIN ?m1_PLAIN ?m2_PLAIN ?m3_PLAIN ?m4_PLAIN ?n_BOUNDED ?l_BOUNDED ?d_BOUNDED ?y_BOUNDED ?h0_BOUNDED ?h1_BOUNDED ?h2_BOUNDED ?m0_BOUNDED ?m1_BOUNDED ?m2_BOUNDED ?m3_BOUNDED ?m4_BOUNDED ?m5_BOUNDED ?g_Reckoner ?q_Reckoner ?cp_Reckoner ?ch_Reckoner ?co_Reckoner ?ca_Reckoner ?na_Reckoner_worths ?na_Reckoner_rooms ?na_Reckoner_seen ?fi_Reckoner___init__ ?fn_Reckoner___init__ ?l_Reckoner___init__ ?c_Reckoner___init__ ?k_Reckoner___init__ ?fi_Reckoner_saw ?fn_Reckoner_saw ?l_Reckoner_saw ?c_Reckoner_saw ?k_Reckoner_saw ?fi_Reckoner_of ?fn_Reckoner_of ?l_Reckoner_of ?c_Reckoner_of ?k_Reckoner_of ?fi_Reckoner_at_cell ?fn_Reckoner_at_cell ?l_Reckoner_at_cell ?c_Reckoner_at_cell ?k_Reckoner_at_cell ?mk_Reckoner
    (case a_plus => k_is)
    (case l_plus => k_is)
    (case c_plus => k_is)
    (case k_plus => k_is)
    (case a_minus => k_is)
    (case l_minus => k_is)
    (case c_minus => k_is)
    (case k_minus => k_is)
    (case a_times => k_is)
    (case l_times => k_is)
    (case c_times => k_is)
    (case k_times => k_is)
    (case a_less => k_is)
    (case l_less => k_is)
    (case c_less => k_is)
    (case k_less => k_is)
    (case a_same => k_is)
    (case l_same => k_is)
    (case c_same => k_is)
    (case k_same => k_is)
    (case a_both => k_is)
    (case l_both => k_is)
    (case c_both => k_is)
    (case k_both => k_is)
    (case a_either => k_is)
    (case l_either => k_is)
    (case c_either => k_is)
    (case k_either => k_is)
    (case a_paired => k_is)
    (case l_paired => k_is)
    (case c_paired => k_is)
    (case k_paired => k_is)
    (case a_worth => k_is)
    (case l_worth => k_is)
    (case c_worth => k_is)
    (case k_worth => k_is)
    (case a_law_begin => k_is)
    (case l_law_begin => k_is)
    (case c_law_begin => k_is)
    (case k_law_begin => k_is)
    (case a_law_take => k_is)
    (case l_law_take => k_is)
    (case c_law_take => k_is)
    (case k_law_take => k_is)
    (case a_law_same => k_is)
    (case l_law_same => k_is)
    (case c_law_same => k_is)
    (case k_law_same => k_is)
    (case a_law_far => k_is)
    (case l_law_far => k_is)
    (case c_law_far => k_is)
    (case k_law_far => k_is)
    (case a_law_one => k_is)
    (case l_law_one => k_is)
    (case c_law_one => k_is)
    (case k_law_one => k_is)
    (case a_law_rooms => k_is)
    (case l_law_rooms => k_is)
    (case c_law_rooms => k_is)
    (case k_law_rooms => k_is)
    (case a_law => k_is)
    (case l_law => k_is)
    (case c_law => k_is)
    (case k_law => k_is)
    (case z_abs => k_is)
    (case z_all => k_is)
    (case z_bool => k_is)
    (case z_int => k_is)
    (case z_isinstance => k_is)
    (case z_len => k_is)
    (case z_list => k_is)
    (case z_range => k_is)
    (case z_str => k_is)
    (case z_tuple => k_is)
    (case z_zip => k_is)
    (case n_CELLS => k_is)
    (case n_GREAT => k_is)
    (case n_NOUGHT => k_is)
    (case n_NO_CELL => k_is)
    (case n_TOO_GREAT => k_is)
    (case n_PLAIN => k_is)
    (case l_PLAIN => k_is)
    (case d_PLAIN => exact rfl)
    (case y_PLAIN => exact ⟨⟨_, _, rfl, rfl⟩, ⟨⟨_, _, rfl, rfl⟩, ⟨⟨_, _, rfl, rfl⟩, ⟨⟨_, _, rfl, rfl⟩, trivial⟩⟩⟩⟩)
    (case h0_PLAIN => k_is)
    (case h1_PLAIN => k_is)
    (case h2_PLAIN => k_is)
    (case h3_PLAIN => k_is)
    (case m0_PLAIN => k_is)
    (case m1_PLAIN => k_is)
    (case m2_PLAIN => k_is)
    (case m3_PLAIN => k_is)
    (case m4_PLAIN => k_is)
    (case n_BOUNDED => k_is)
    (case l_BOUNDED => k_is)
    (case d_BOUNDED => exact rfl)
    (case y_BOUNDED => exact ⟨⟨_, _, rfl, rfl⟩, ⟨⟨_, _, rfl, rfl⟩, ⟨⟨_, _, rfl, rfl⟩, trivial⟩⟩⟩)
    (case h0_BOUNDED => k_is)
    (case h1_BOUNDED => k_is)
    (case h2_BOUNDED => k_is)
    (case m0_BOUNDED => k_is)
    (case m1_BOUNDED => k_is)
    (case m2_BOUNDED => k_is)
    (case m3_BOUNDED => k_is)
    (case m4_BOUNDED => k_is)
    (case m5_BOUNDED => k_is)
    (case g_Reckoner => k_is)
    (case q_Reckoner => k_is)
    (case cp_Reckoner => k_is)
    (case ch_Reckoner => k_is)
    (case co_Reckoner => k_is)
    (case ca_Reckoner => k_is)
    (case na_Reckoner_worths => k_is)
    (case na_Reckoner_rooms => k_is)
    (case na_Reckoner_seen => k_is)
    (case fi_Reckoner___init__ => k_is)
    (case fn_Reckoner___init__ => k_is)
    (case l_Reckoner___init__ => k_is)
    (case c_Reckoner___init__ => k_is)
    (case k_Reckoner___init__ => k_is)
    (case fi_Reckoner_saw => k_is)
    (case fn_Reckoner_saw => k_is)
    (case l_Reckoner_saw => k_is)
    (case c_Reckoner_saw => k_is)
    (case k_Reckoner_saw => k_is)
    (case fi_Reckoner_of => k_is)
    (case fn_Reckoner_of => k_is)
    (case l_Reckoner_of => k_is)
    (case c_Reckoner_of => k_is)
    (case k_Reckoner_of => k_is)
    (case fi_Reckoner_at_cell => k_is)
    (case fn_Reckoner_at_cell => k_is)
    (case l_Reckoner_at_cell => k_is)
    (case c_Reckoner_at_cell => k_is)
    (case k_Reckoner_at_cell => k_is)
    (case mk_Reckoner => k_is)
#print axioms PySem.Challenge.cw_hindstep_k05_bounds_of_sums_holds
