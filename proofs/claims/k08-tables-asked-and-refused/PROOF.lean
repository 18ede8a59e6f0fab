import PyProof.Rows.All
import Wide.All
import OpenK.AllK
import Wide.FinOn
import HandS.ForMost
import HandS.ForExc
import HandS.IsInst
import HandS.Zip
import HandS.Style
import HandS.TryMany
import HandS.Conv
import HandS.SortInts
import HandS.ExcIs
import PySem.Challenge.RW_hindstep_k08_tables_asked_and_refused
set_option Elab.async false
set_option linter.all false
set_option maxRecDepth 100000
set_option maxHeartbeats 4000000
/-! U: rules that ask no kind of their parts (the union of the layer's), and steps that read them. Own text. -/
namespace L2.U
open PySem PySem.Spec PyProof.Rows
/-! ### unions -/
section
variable {X : Cx}
def rAddU (K : PySem.W.Frag) : R2 := fun x y H Q => rI0 (fun i j => .int (i + j)) x y H Q ∨ (∃ i j, x = .str i ∧ y = .str j ∧ i.length + j.length ≤ sizeLine ∧ Q (.str (i ++ j)) H) ∨ rCat x y H Q ∨ rCatT K x y H Q
theorem o_add {K : PySem.W.Frag} (h : X.K = K := by rfl) : OpR X (binaryOp .Add) (rAddU K) := h ▸ op_add.or (op_add_str.or (op_cat.or op_catT))
def rMulU : R2 := fun x y H Q => rI CMul (fun i j => .int (i * j)) x y H Q ∨ rRep x y H Q
theorem o_mul : OpR X (binaryOp .Mult) rMulU := op_mul.or op_rep
def rSubU : R2 := rI0 (fun i j => .int (i - j))
theorem o_sub : OpR X (binaryOp .Sub) rSubU := op_sub
def rDivU : R2 := rI CDivN fun i j => .int (i.fdiv j)
theorem o_div : OpR X (binaryOp .FloorDiv) rDivU := op_fdivN
def rModU : R2 := rI (fun _ j => j ≠ 0) fun i j => .int (i.fmod j)
theorem o_mod : OpR X (binaryOp .Mod) rModU := op_modN
def rPowU : R2 := rI CPow fun i j => .int (i ^ j.toNat)
theorem o_pow : OpR X (binaryOp .Pow) rPowU := op_pow
def rEqU (K : PySem.W.Frag) : R2 := fun x y H Q => rEq x y H Q ∨ rEqD K x y H Q
theorem o_eq {K : PySem.W.Frag} (hu : X.A.units + 64 < cLine) (h : X.K = K := by rfl) : OpR X (compareOp .Eq) (rEqU K) := h ▸ op_eq.or (op_eqD hu)
def rNeU (K : PySem.W.Frag) : R2 := fun x y H Q => rNe x y H Q ∨ rNeD K x y H Q
theorem o_ne {K : PySem.W.Frag} (hu : X.A.units + 64 < cLine) (h : X.K = K := by rfl) : OpR X (compareOp .NotEq) (rNeU K) := h ▸ op_ne.or (op_neD hu)
def rLtU : R2 := rI0 fun i j => .bl (decide (i < j))
theorem o_lt : OpR X (compareOp .Lt) rLtU := op_lt
def rLeU : R2 := rI0 fun i j => .bl (decide (i ≤ j))
theorem o_le : OpR X (compareOp .LtE) rLeU := op_le
def rGtU : R2 := rI0 fun i j => .bl (decide (j < i))
theorem o_gt : OpR X (compareOp .Gt) rGtU := op_gt
def rGeU : R2 := rI0 fun i j => .bl (decide (j ≤ i))
theorem o_ge : OpR X (compareOp .GtE) rGeU := op_ge
def rSgn (neg : Bool) : R2 := fun x y H Q => ∃ (c : Nat) (z : Str), x = .str ⟨#[c]⟩ ∧ y = .str z ∧ Q (.bl (if neg then !decide (c ∈ z.cps.toList) else decide (c ∈ z.cps.toList))) H
def rSub (neg : Bool) : R2 := fun x y H Q => ∃ i j, x = .str i ∧ y = .str j ∧ Q (.bl (if neg then !(!(Builtin.Str.occurrences j i 0 j.length 1).isEmpty) else !(Builtin.Str.occurrences j i 0 j.length 1).isEmpty)) H
def rInU (K : PySem.W.Frag) (neg : Bool) : R2 := fun x y H Q => rSgn neg x y H Q ∨ rIn K neg x y H Q ∨ rSub neg x y H Q
theorem o_in {K : PySem.W.Frag} (h : X.K = K := by rfl) : OpR X (compareOp .In) (rInU K false) := h ▸ OpR.or (r := rSgn false) op_in_sign (OpR.or op_in_seq (r' := rSub false) op_in_str)
theorem o_notIn {K : PySem.W.Frag} (h : X.K = K := by rfl) : OpR X (compareOp .NotIn) (rInU K true) := h ▸ OpR.or (r := rSgn true) op_notIn_sign (OpR.or op_notIn_seq (r' := rSub true) op_notin_str)
def rIsU (neg : Bool) : R2 := fun x y H Q => y = .non ∧ Q (.bl (if neg then !decide (x = .non) else decide (x = .non))) H
theorem o_is : OpR X (compareOp .Is) (rIsU false) := op_isN
theorem o_isNot : OpR X (compareOp .IsNot) (rIsU true) := op_notN
def rSlU (K : PySem.W.Frag) : V → Option Int → Option Int → Hp → VK → Prop := fun x lo hi H Q => rSlL K x lo hi H Q ∨ rSlT K x lo hi H Q ∨ rSlS x lo hi H Q
theorem sl_u {K : PySem.W.Frag} (h : X.K = K := by rfl) : SlR X (rSlU K) := h ▸ sl_list.or (sl_tup.or sl_str)
theorem u_ix {K : PySem.W.Frag} (h : X.K = K := by rfl) : IxR X (rIx K) := h ▸ ix_seq
theorem u_len {K : PySem.W.Frag} (h : X.K = K := by rfl) : CallR X (.builtin "len") (fun xs H Q => ∃ x n, xs = [x] ∧ LenV K x H n ∧ Q (.int n) H) := h ▸ call_len
theorem u_all {K : PySem.W.Frag} (hc : X.calm = true) (h : X.K = K := by rfl) : CallR X (.builtin "all") (rAll K) := h ▸ cr_all hc
theorem u_any {K : PySem.W.Frag} (hc : X.calm = true) (h : X.K = K := by rfl) : CallR X (.builtin "any") (rAny K) := h ▸ cr_any hc
theorem u_sum {K : PySem.W.Frag} (hc : X.calm = true) (h : X.K = K := by rfl) : CallR X (.builtin "sum") (rSum K) := h ▸ cr_sum hc
theorem u_sortedI {K : PySem.W.Frag} (h : X.K = K := by rfl) : CallR X (.builtin "sorted") (rSortedI K) := h ▸ cr_sortedI
theorem u_isi {K : PySem.W.Frag} (h : X.K = K := by rfl) : CallR X (.builtin "isinstance") (rIsi K) := h ▸ call_isi
theorem u_isiT {K : PySem.W.Frag} (h : X.K = K := by rfl) : CallR X (.builtin "isinstance") (rIsiT K) := h ▸ call_isiT
theorem u_join {K : PySem.W.Frag} {o e : Expr} {to te : TE} {apos pos : Pos} (ho : PE X o to) (he : PE X e te) (h : X.K = K := by rfl) (hs : starEach [e] X.env = [(false, eval e X.env)] := by rfl) (hbase : attributeBase o "join" X.env (eval o X.env) = eval o X.env := by rfl) (hline : (apos.endLine == pos.line) = true := by rfl) :
    PE X (.Call (.Attribute o "join" apos) [e] [] pos) (tM1 (fun x xs H Q => ∃ a p, ∃ ys : List Str, x = .str a ∧ xs = [.ref p] ∧ (SqL K H p (ys.map V.str) ∨ SqT K H p (ys.map V.str)) ∧
      (ys.map (·.length)).sum + ys.length * a.length ≤ 16777216 ∧ Q (.str (Txt.join a ys)) H) to te) := h ▸ pe_join ho he hs hbase hline
theorem u_bm {K : PySem.W.Frag} {T : String} {id : String} {name : Str} {r : V → List V → Hp → VK → Prop} {o e : Expr} {es : List Expr} {to : TE} {t : TA} {apos cpos : Pos} (pa : PlainAttrs T) (slot : Slot T name id) (hty : typeOf (.builtin id) = pure (.type "method_descriptor")) (hm : MtR X id r) (ho : PE X o to) (ha : PA X (e :: es) t) (h : X.K = K := by rfl)
    (hbase : attributeBase o name X.env (eval o X.env) = eval o X.env := by rfl)
    (hfew : ((backTo cpos (starEach (e :: es) X.env)).all (fun x => !x.1) && (backToKw cpos (keywordEach [] X.env)).all (fun x => x.1.isSome)
      && decide ((e :: es).length + ([] : List Keyword).length + (if ([] : List Keyword).isEmpty then 0 else 1) < 30)) = true := by rfl)
    (hline : (apos.endLine == cpos.line) = true := by rfl) (hs : starEach (e :: es) X.env = (false, eval e X.env) :: starEach es X.env := by rfl) (hplain : (backTo cpos (starEach es X.env)).any (·.1) = false := by rfl) :
    PE X (.Call (.Attribute o name apos) (e :: es) [] cpos) (tBM K T r to t) := h ▸ pe_bm pa slot hty hm ho ha hbase hfew hline hs hplain
theorem u_bm0 {K : PySem.W.Frag} {T : String} {id : String} {name : Str} {r : V → List V → Hp → VK → Prop} {o : Expr} {to : TE} {apos cpos : Pos} (pa : PlainAttrs T) (slot : Slot T name id) (hty : typeOf (.builtin id) = pure (.type "method_descriptor")) (hm : MtR X id r) (ho : PE X o to) (h : X.K = K := by rfl)
    (hbase : attributeBase o name X.env (eval o X.env) = eval o X.env := by rfl) (hline : (apos.endLine == cpos.line) = true := by rfl) : PE X (.Call (.Attribute o name apos) [] [] cpos) (tBM0 K T r to) := h ▸ pe_bm0 pa slot hty hm ho hbase hline
theorem u_tup {K : PySem.W.Frag} {es : List Expr} {k : Nat} {pos : Pos} {t : TGs} {n : Nat} (hc : X.calm = true) (h : PGs X es t) (hK : X.K = K := by rfl)
    (hn : (assignEach es X.env).length = n := by rfl) (hst : (assignEach es X.env).findIdx? (·.1) = none := by rfl) : PG X (.Tuple es k pos) (gTup K n t) := hK ▸ pg_tup hc h hn hst
theorem u_iList {K : PySem.W.Frag} {tg l : Expr} {tl : TE} (hl : PE X l tl) (h : X.K = K := by rfl) : PI X tg l (iList K tl) := h ▸ pi_list hl
theorem u_iTup {K : PySem.W.Frag} {tg l : Expr} {tl : TE} (hl : PE X l tl) (h : X.K = K := by rfl) : PI X tg l (iTup K tl) := h ▸ pi_tup hl
end
theorem vals_of_get : ∀ {xs : List V} {us : List Value}, xs.length = us.length → (∀ (i : Nat) x u, xs[i]? = some x → us[i]? = some u → RelV x u) → Vals xs us
  | [], [], _, _ => .nil
  | [], _ :: _, h, _ => by simp at h
  | _ :: _, [], h, _ => by simp at h
  | x :: xs, u :: us, h, k => .cons (k 0 x u rfl rfl) (vals_of_get (by simpa using h) fun i y w a b => k (i + 1) y w (by simpa using a) (by simpa using b))
section
variable {X : Cx}
/-- list(text): its signs -/
def signsV (x : Str) : List V := x.cps.toList.map fun c => .str ⟨#[c]⟩
theorem call_listS (hc : X.calm = true) : CallR X (.type "list") (fun xs H Q => ∃ x, xs = [.str x] ∧ x.length ≤ sizeLine ∧ ∀ l, H l = none → Q (.ref l) (upd H l (.lst (signsV x)))) := by
  intro pins s σ H xs us Q I r h
  obtain ⟨x, rfl, hx, q⟩ := h
  obtain ⟨u, rfl, t, rfl⟩ := vals1 r
  refine call_list_str (I.ok.hd hc) x t (fun h' tk acc' c' hk hS hacc => ?_) hx
  have hv : Vals (signsV x) acc'.toList := vals_of_get (by unfold signsV; rw [List.length_map, Array.length_toList, Array.length_toList, hacc.1]) fun i y w a b => by
    unfold signsV at a
    rw [List.getElem?_map] at a
    obtain ⟨c, hc1, e⟩ := Option.map_eq_some_iff.mp a
    obtain ⟨c', u', hc2, rfl⟩ := hacc.2 i w (by rw [← Array.getElem?_toList]; exact b)
    rw [← Array.getElem?_toList, hc1] at hc2
    cases hc2
    rw [← e]
    exact ⟨u', rfl⟩
  exact ⟨.ref s.heap.objs.size, _, I.laid (t' := tk) hk (Nat.le_refl _) (show ObjOk X.prog X.w _ h' _ (.lst (signsV x)) from ⟨by unfold signsV; rw [List.length_map, Array.length_toList]; exact hx, acc'.toList, c', hv, hS⟩), rfl, q _ (I.hok.fresh (Nat.le_refl _))⟩
def rListU (K : PySem.W.Frag) : List V → Hp → VK → Prop := fun xs H Q => (∃ p ys, xs = [.ref p] ∧ (SqL K H p ys ∨ SqT K H p ys) ∧ ∀ l, H l = none → Q (.ref l) (upd H l (.lst ys))) ∨ (∃ x, xs = [.str x] ∧ x.length ≤ sizeLine ∧ ∀ l, H l = none → Q (.ref l) (upd H l (.lst (signsV x))))
theorem call_listU {K : PySem.W.Frag} (hc : X.calm = true) (h : X.K = K := by rfl) : CallR X (.type "list") (rListU K) := h ▸ CallR.or call_list_of (call_listS hc)
end
/-! ### defs -/
structure OkF (P : Program) (w : World) (K : PySem.W.Frag) (mg : Str → Option Value) (base : Heap) (CX : CXT) (k : Nat) (x : Str) (ps : List Str) (sp : Sp) : Prop where
  ex : ∃ (f : Addr) (fd : FuncData), mg x = some (.ref f) ∧ PySem.W.keepIn K (.ref f) = true ∧ Binds K fd ps [] ∧ FnOk P w K mg base CX k f fd ps sp
structure DefAt (K : PySem.W.Frag) (mg : Str → Option Value) (x : Str) (st : Stmt) (ps : List Str) : Prop where
  ex : ∃ (f : Addr) (fd : FuncData), Fun K x x st f fd ∧ mg x = some (.ref f) ∧ Binds K fd ps []
section
variable {P : Program} {w : World} {K : PySem.W.Frag} {mg : Str → Option Value} {base : Heap} {x : Str} {st : Stmt} {N ps : List Str} {k : Nat} {sp : Sp}
theorem DefAt.ok (D : DefAt K mg x st ps) (S : FnScope N ps (defScope st)) (len : ∀ vs H Q E, sp vs H Q E → vs.length = ps.length)
    (hbody : ∀ (f : Addr) (cdv : Value) (A : Around) (outer : List Env) (s : Shared) (H : Hp) (vs : List V) (Q : VK) (E : XK), Room k (A.deeper (envOfC x (defScope st) s.heap.objs.size f cdv)) → sp vs H Q E →
      ∃ t, PSs (cxOf CX0 P w K mg base N x (defScope st) f cdv A outer s H E).nox (defBody st) t ∧ t { nx := fun _ H' => Q .non H', rt := Q } (start N vs) H) : OkF P w K mg base CX0 (k + 1) x ps sp := by
  obtain ⟨f, fd, F, g, b⟩ := D.ex
  exact ⟨f, fd, g, F.kp, b, F.ok S len fun cdv A outer s H vs Q E hr h => hbody f cdv A outer s H vs Q E hr h⟩
theorem DefAt.okX (D : DefAt K mg x st ps) (S : FnScope N ps (defScope st)) (len : ∀ vs H Q E, sp vs H Q E → vs.length = ps.length)
    (hbody : ∀ (f : Addr) (cdv : Value) (A : Around) (outer : List Env) (s : Shared) (H : Hp) (vs : List V) (Q : VK) (E : XK), Room k (A.deeper (envOfC x (defScope st) s.heap.objs.size f cdv)) → sp vs H Q E →
      ∃ t, PSs (cxOf (L2.CX P w) P w K mg base N x (defScope st) f cdv A outer s H E) (defBody st) t ∧ t { nx := fun _ H' => Q .non H', rt := Q } (start N vs) H) : OkF P w K mg base (L2.CX P w) (k + 1) x ps sp := by
  obtain ⟨f, fd, F, g, b⟩ := D.ex
  exact ⟨f, fd, g, F.kp, b, F.okX S len fun cdv A outer s H vs Q E hr h => hbody f cdv A outer s H vs Q E hr h⟩
theorem DefAt.okNo {CX : CXT} (D : DefAt K mg x st ps) (h : ∀ vs H Q E, ¬ sp vs H Q E) : OkF P w K mg base CX k x ps sp := by
  obtain ⟨f, fd, F, g, b⟩ := D.ex
  exact ⟨f, fd, g, F.kp, b, fun vs H Q E z => (h _ _ _ _ z).elim, fun A outer s H args us vs Q E _ _ _ _ z => (h _ _ _ _ z).elim⟩
theorem OkF.mono {CX : CXT} {j : Nat} (O : OkF P w K mg base CX j x ps sp) (h : j ≤ k) : OkF P w K mg base CX k x ps sp := by
  obtain ⟨f, fd, a, b, c, d⟩ := O.ex
  exact ⟨f, fd, a, b, c, d.mono h⟩
end
section
variable {X : Cx} {CX : CXT} {k : Nat} {x : Str} {ps : List Str} {sp : Sp} {E : XK} {p pos : Pos} {e : Expr} {es : List Expr} {t : TA}
theorem u_call (O : OkF X.prog X.w X.K X.mg X.base CX k x ps sp) (hr : Room k X.A) (hx : Passes CX X E) (ha : PA X (e :: es) t) (hg : Gl X x := by rfl) (hdb : (x == ("__debug__" : Str)) = false := by decide)
    (he : starEach (e :: es) X.env = (false, eval e X.env) :: starEach es X.env := by rfl) (hpl : (backTo pos (starEach es X.env)).any (·.1) = false := by rfl) :
    PE X (.Call (.Name x p) (e :: es) [] pos) (tCall sp [] E t) := by
  obtain ⟨f, fd, hm, hk, hb, F⟩ := O.ex
  exact pe_call F hr hg hm hk hb .nil hx ha hdb he hpl
theorem u_call0 (O : OkF X.prog X.w X.K X.mg X.base CX k x ps sp) (hr : Room k X.A) (hx : Passes CX X E) (hg : Gl X x := by rfl) (hdb : (x == ("__debug__" : Str)) = false := by decide) :
    PE X (.Call (.Name x p) [] [] pos) (tCall sp [] E tNil) := by
  obtain ⟨f, fd, hm, hk, hb, F⟩ := O.ex
  exact pe_call0 F hr hg hm hk hb .nil hx hdb
end
/-! ### own exceptions without __init__ -/
structure ExcAt (K : PySem.W.Frag) (mg : Str → Option Value) (x : Str) (C : Addr) : Prop where
  g : mg x = some (.ref C)
  ex : ∃ (bmB : List Value) (B newId initId : String), ExcBaseFacts B newId initId bmB ∧ PySem.W.excIn K C bmB newId = true
  kp : PySem.W.keepIn K (.ref C) = true
  sb : PySem.W.subIn K (.ref C) (.type "BaseException") = some true
  ty : PySem.W.typeIn K (.ref C) = some (.type "type")
section
variable {X : Cx} {x : Str} {C : Addr} {p pos : Pos}
/-- X() -/
theorem u_exc (T : ExcAt X.K X.mg x C) (hg : Gl X x := by rfl) (hdb : (x == ("__debug__" : Str)) = false := by decide) : PMk X (.Call (.Name x p) [] [] pos) (fun _ H Q => Q (.ref C) none H) := by
  intro pins s σ H Q I h
  refine wpAny_Call_Name_kw (ld_glob I hg T.g ?_ hdb)
  obtain ⟨bmB, B, newId, initId, F, q⟩ := T.ex
  refine PySem.W.callWith_K0 I.kIn T.kp ?_
  obtain ⟨bm, N, nm, qn, bs, hdct, sn, sub, ab, col, dd, k0, k1, k2, k3, k5, mN, hC, hN, hni, TT⟩ := exc_obj I.kIn q
  refine wpAny_call_exc_subT F TT hC hN hni (fun h' e hm => ?_) (Nat.zero_le _)
  exact mk_of I hm (raises_own T.sb T.ty) h (I.hok.gone hm.new)
theorem names_own (T : ExcAt X.K X.mg x C) (hg : Gl X x := by rfl) (hdb : (x == ("__debug__" : Str)) = false := by decide) : Names X x (.ref C) := ⟨hg, hdb, .inl T.g⟩
end
section
variable {X : Cx} {CX : CXT} {k : Nat} {x : Str} {ps : List Str} {sp : Sp} {p pos : Pos} {e : Expr} {es : List Expr} {t : TA}
/-- a call within a try's body: what it lets out is wished for at the slots -/
theorem u_callS {W : WX} (O : OkF X.prog X.w X.K X.mg X.base (L2.CX X.prog X.w) k x ps sp) (hr : Room k X.A) (tk : Takes X W) (ha : PA X (e :: es) t) (hg : Gl X x := by rfl) (hdb : (x == ("__debug__" : Str)) = false := by decide)
    (he : starEach (e :: es) X.env = (false, eval e X.env) :: starEach es X.env := by rfl) (hpl : (backTo pos (starEach es X.env)).any (·.1) = false := by rfl) :
    PE X (.Call (.Name x p) (e :: es) [] pos) (tCallS sp (WE W) t) := by
  obtain ⟨f, fd, hm, hk, hb, F⟩ := O.ex
  exact pe_callS F hr hg hm hk hb (fun σ => passAt tk σ) ha hdb he hpl
end
/-- try .. except: the wish at the body's exceptions depends on the ends -/
def tTry (tb : WX → TS) (W : Ends → WX) : TS := fun D σ H => tb (W D) D σ H
section
variable {X : Cx} {x n : Str} {c : Value} {i : Nat} {body suite : List Stmt} {b₀ : Stmt} {np pos pos' : Pos} {tb : WX → TS} {ts : Addr → Value → Option Addr → TS} {Wout : WX}
theorem u_try_only {K : PySem.W.Frag} (hs : X.stack = X.env :: X.outer) (hf : X.env.frame = some X.env.locals) (hc : Names X x c) (tk : Takes X Wout)
    (hb : ∀ (W : WX) (pn : List (Addr × Obj)) (xe : Value → Shared → Prop), Takes (X.tr pn xe) W → PassesOwn (model X.prog X.w) X.A X.env xe → PSs (X.tr pn xe) body (tb W))
    (hsu : ∀ (a : Addr) (oe : Obj) (cls : Value) (d : Option Addr) (pn : List (Addr × Obj)), Zc cls d oe → (∃ vs, oe.data = .fields vs) → PSs (X.suite a ((a, oe) :: pn)) (b₀ :: suite) (ts a cls d)) (h : X.K = K := by rfl) :
    PS X (.Try body [.ExceptHandler (some (.Name x np)) none (b₀ :: suite) pos'] [] [] pos) (tTry tb (wOnly K c ts Wout)) := h ▸ ps_try_only hs hf hc tk hb hsu
theorem u_try_many {K : PySem.W.Frag} {h₀ : ExceptHandler} {hds : List ExceptHandler} {l : List (Value × (Addr → Value → Option Addr → TS))} (hs : X.stack = X.env :: X.outer) (hf : X.env.frame = some X.env.locals) (tk : Takes X Wout)
    (hb : ∀ (W : WX) (pn : List (Addr × Obj)) (xe : Value → Shared → Prop), Takes (X.tr pn xe) W → PassesOwn (model X.prog X.w) X.A X.env xe → PSs (X.tr pn xe) body (tb W))
    (hh : HdsOk X (h₀ :: hds) l) (h : X.K = K := by rfl) : PS X (.Try body (h₀ :: hds) [] [] pos) (tTry tb fun D => wMany K Wout D l) := h ▸ ps_try_many hs hf tk hb hh
end
def rEnumU (K : PySem.W.Frag) (ta : TA) : TI := fun σ H R => ta σ H fun vs H1 => ∃ a xs, vs = [.ref a] ∧ SqL K H1 a xs ∧ R (Ite K a) H1
theorem u_enum {X : Cx} {K : PySem.W.Frag} {e : Expr} {ta : TA} {p pos tpos : Pos} {elts : List Expr} {kk : Nat} (hm : X.mg "enumerate" = none) (ha : PA X [e] ta) (hg : Gl X "enumerate" := by rfl) (h : X.K = K := by rfl) (hs : starEach [e] X.env = [(false, eval e X.env)] := by rfl) :
    PI X (.Tuple elts kk tpos) (.Call (.Name "enumerate" p) [e] [] pos) (rEnumU K ta) := h ▸ pi_enum hg hm ha hs
def ipU : TIp := fun x y H Q => rI0 (fun i j => .int (i + j)) x y H Q ∨ rExt2 x y H Q
theorem ip_addU {X : Cx} : PIp X .Add ipU := by
  intro pins s σ H x y v u Q I rx ry h
  rcases h with h | h
  · obtain ⟨i, j, rfl, rfl, q⟩ := h
    exact ip_add pins s σ H _ _ v u Q I rx ry ⟨i, j, rfl, rfl, q⟩
  · exact iop_ext pins s σ H x y v u Q I rx ry h
/-! ### promises by the number of arguments -/
def sp1 (p : V → Hp → VK → XK → Prop) : Sp := fun vs H Q E => ∃ a, vs = [a] ∧ p a H Q E
def sp2 (p : V → V → Hp → VK → XK → Prop) : Sp := fun vs H Q E => ∃ a b, vs = [a, b] ∧ p a b H Q E
def sp3 (p : V → V → V → Hp → VK → XK → Prop) : Sp := fun vs H Q E => ∃ a b c, vs = [a, b, c] ∧ p a b c H Q E
def sp4 (p : V → V → V → V → Hp → VK → XK → Prop) : Sp := fun vs H Q E => ∃ a b c d, vs = [a, b, c, d] ∧ p a b c d H Q E
theorem len4 {p} : ∀ vs H Q E, sp4 p vs H Q E → vs.length = 4 := by
  rintro _ _ _ _ ⟨_, _, _, _, rfl, _⟩
  rfl
theorem len1 {p} : ∀ vs H Q E, sp1 p vs H Q E → vs.length = 1 := by
  rintro _ _ _ _ ⟨_, rfl, _⟩
  rfl
theorem len2 {p} : ∀ vs H Q E, sp2 p vs H Q E → vs.length = 2 := by
  rintro _ _ _ _ ⟨_, _, rfl, _⟩
  rfl
theorem len3 {p} : ∀ vs H Q E, sp3 p vs H Q E → vs.length = 3 := by
  rintro _ _ _ _ ⟨_, _, _, rfl, _⟩
  rfl
/-! ### truth -/
def tTr (K : PySem.W.Frag) (ta : TE) : TT := fun σ H Q => ta σ H fun x H' => ∃ k, TruV K x H' k ∧ Q k H'
theorem u_truth {X : Cx} {a : Expr} {ta : TE} (ha : PE X a ta) {K : PySem.W.Frag} (he : ∀ whole, isTrue a X.env whole = (do let v ← whole; standAt a.pos; holding [v] (truthy v)) := by intro _; rfl) (h : X.K = K := by rfl) : PT X a (tTr K ta) := h ▸ pt_truth ha he
theorem sz {n : Nat} (h : Nat.ble n 16777216 = true) : n ≤ sizeLine := by
  rw [show sizeLine = 16777216 from sizeLine_eq]
  exact Nat.le_of_ble_eq_true h
theorem sz_of {n : Nat} (h : n ≤ 1000) : n ≤ sizeLine := Nat.le_of_lt (small1000 h)
/-! ### steps of a reading -/
section
variable {σ : St} {H : Hp} {Q : VK} {QB : Bool → Hp → Prop} {QA : List V → Hp → Prop} {v x y : V} {i j : Int} {n m : Nat} {a b : Str} {p q : Addr} {xs ys : List V} {ta tb tc : TE} {tt uu : TT} {tr : TA} {K : PySem.W.Frag} {D : Ends} {ts us : TS} {o : HO} {E : XK} {k : Bool}
theorem s_var (h : σ[n]? = some (some v)) (z : Q v H) : tVar n σ H Q := ⟨v, h, z⟩
theorem s_c (z : Q v H) : tC v σ H Q := z
theorem s_op {r : R2} (z : ta σ H fun x H1 => tb σ H1 fun y H2 => r x y H2 Q) : tOp r ta tb σ H Q := z
theorem s_un {r : V → Hp → VK → Prop} (z : ta σ H fun x H1 => r x H1 Q) : tUn r ta σ H Q := z
theorem s_neg (z : Q (.int (-i)) H) : rU (fun i => .int (-i)) (.int i) H Q := ⟨i, rfl, z⟩
theorem s_test (z : ta σ H fun x H' => ∃ k, x = .bl k ∧ QB k H') : tTest ta σ H QB := z
theorem s_tB (z : ta σ H fun x H' => ∃ k, x = .bl k ∧ QB k H') : tB ta σ H QB := z
theorem s_bl {R : Bool → Prop} (z : R k) : ∃ k', V.bl k = .bl k' ∧ R k' := ⟨k, rfl, z⟩
theorem s_add (z : Q (.int (i + j)) H) : rAddU K (.int i) (.int j) H Q := .inl ⟨i, j, rfl, rfl, z⟩
theorem s_addS (h : a.length + b.length ≤ sizeLine) (z : Q (.str (a ++ b)) H) : rAddU K (.str a) (.str b) H Q := .inr (.inl ⟨a, b, rfl, rfl, h, z⟩)
theorem s_addL (h1 : H p = some (.lst xs)) (h2 : H q = some (.lst ys)) (h : xs.length + ys.length ≤ sizeLine) (z : ∀ l, H l = none → Q (.ref l) (upd H l (.lst (xs ++ ys)))) : rAddU K (.ref p) (.ref q) H Q :=
  .inr (.inr (.inl ⟨p, q, xs, ys, rfl, rfl, h1, h2, h, z⟩))
theorem s_mul (h : CMul i j) (z : Q (.int (i * j)) H) : rMulU (.int i) (.int j) H Q := .inl ⟨i, j, rfl, rfl, h, z⟩
theorem s_rep (h : H p = some (.lst xs)) (h1 : -(2 ^ 63) ≤ j) (h2 : j < 2 ^ 63) (h3 : xs.length * j.toNat ≤ sizeLine) (z : ∀ l, H l = none → Q (.ref l) (upd H l (.lst (List.replicate j.toNat xs).flatten))) : rMulU (.ref p) (.int j) H Q :=
  .inr ⟨p, j, xs, rfl, rfl, h, h1, h2, h3, z⟩
theorem s_sub (z : Q (.int (i - j)) H) : rSubU (.int i) (.int j) H Q := ⟨i, j, rfl, rfl, z⟩
theorem s_div (h : CDivN i j) (z : Q (.int (i.fdiv j)) H) : rDivU (.int i) (.int j) H Q := ⟨i, j, rfl, rfl, h, z⟩
theorem s_mod (h : j ≠ 0) (z : Q (.int (i.fmod j)) H) : rModU (.int i) (.int j) H Q := ⟨i, j, rfl, rfl, h, z⟩
theorem s_pow (h : CPow i j) (z : Q (.int (i ^ j.toNat)) H) : rPowU (.int i) (.int j) H Q := ⟨i, j, rfl, rfl, h, z⟩
theorem s_lt (z : Q (.bl (decide (i < j))) H) : rLtU (.int i) (.int j) H Q := ⟨i, j, rfl, rfl, z⟩
theorem s_le (z : Q (.bl (decide (i ≤ j))) H) : rLeU (.int i) (.int j) H Q := ⟨i, j, rfl, rfl, z⟩
theorem s_gt (z : Q (.bl (decide (j < i))) H) : rGtU (.int i) (.int j) H Q := ⟨i, j, rfl, rfl, z⟩
theorem s_ge (z : Q (.bl (decide (j ≤ i))) H) : rGeU (.int i) (.int j) H Q := ⟨i, j, rfl, rfl, z⟩
theorem s_eq (h : scal x y = true) (z : Q (.bl (decide (x = y))) H) : rEqU K x y H Q := .inl ⟨h, z⟩
theorem s_ne (h : scal x y = true) (z : Q (.bl (!decide (x = y))) H) : rNeU K x y H Q := .inl ⟨h, z⟩
theorem s_eqD {d e : PyData} (hx : Dp K H x d) (hy : Dp K H y e) (sd : SeqAt.shaped d = true) (se : SeqAt.shaped e = true) (z : Q (.bl (PyData.eqv d e)) H) : rEqU K x y H Q := .inr ⟨d, e, hx, hy, sd, se, z⟩
theorem s_neD {d e : PyData} (hx : Dp K H x d) (hy : Dp K H y e) (sd : SeqAt.shaped d = true) (se : SeqAt.shaped e = true) (z : Q (.bl (!PyData.eqv d e)) H) : rNeU K x y H Q := .inr ⟨d, e, hx, hy, sd, se, z⟩
theorem s_isN (z : Q (.bl (decide (x = .non))) H) : rIsU false x .non H Q := ⟨rfl, z⟩
theorem s_notN (z : Q (.bl (!decide (x = .non))) H) : rIsU true x .non H Q := ⟨rfl, z⟩
theorem s_inS {c : Nat} (z : Q (.bl (decide (c ∈ a.cps.toList))) H) : rInU K false (.str ⟨#[c]⟩) (.str a) H Q := .inl ⟨c, a, rfl, rfl, z⟩
theorem s_notInS {c : Nat} (z : Q (.bl (!decide (c ∈ a.cps.toList))) H) : rInU K true (.str ⟨#[c]⟩) (.str a) H Q := .inl ⟨c, a, rfl, rfl, z⟩
theorem s_inL (h : SqL K H p xs ∨ SqT K H p xs) (h1 : flatV x = true) (h2 : xs.all flatV = true) (z : Q (.bl (inV x xs)) H) : rInU K false x (.ref p) H Q := .inr (.inl ⟨p, xs, rfl, h, h1, h2, z⟩)
theorem s_notInL (h : SqL K H p xs ∨ SqT K H p xs) (h1 : flatV x = true) (h2 : xs.all flatV = true) (z : Q (.bl (!inV x xs)) H) : rInU K true x (.ref p) H Q := .inr (.inl ⟨p, xs, rfl, h, h1, h2, z⟩)
theorem s_ixL (h : SqL K H p xs) (h1 : atI xs i = some v) (z : Q v H) : rIx K (.ref p) (.int i) H Q := .inl ⟨p, xs, i, v, rfl, rfl, h, h1, z⟩
theorem s_ixT (h : SqT K H p xs) (h1 : atI xs i = some v) (z : Q v H) : rIx K (.ref p) (.int i) H Q := .inr (.inl ⟨p, xs, i, v, rfl, rfl, h, h1, z⟩)
theorem s_ixS {c : Nat} (h : a.length ≤ sizeLine) (h1 : atI a.cps.toList i = some c) (z : Q (.str ⟨#[c]⟩) H) : rIx K (.str a) (.int i) H Q := .inr (.inr ⟨a, i, c, rfl, rfl, h, h1, z⟩)
theorem s_sl {r : V → Option Int → Option Int → Hp → VK → Prop} {tl th : TO} (z : ta σ H fun x H1 => tl σ H1 fun l H2 => th σ H2 fun u H3 => r x l u H3 Q) : tSl r ta tl th σ H Q := z
theorem s_noPart {QO : Option Int → Hp → Prop} (z : QO none H) : tNoPart σ H QO := z
theorem s_part {QO : Option Int → Hp → Prop} (z : ta σ H fun x H1 => ∃ i, x = .int i ∧ QO (some i) H1) : tPart ta σ H QO := z
theorem s_partI {R : Int → Prop} (z : R i) : ∃ i', V.int i = .int i' ∧ R i' := ⟨i, rfl, z⟩
theorem s_slS {lo hi : Option Int} (h : a.length ≤ sizeLine) (z : Q (.str (cutS a lo hi)) H) : rSlU K (.str a) lo hi H Q := .inr (.inr ⟨a, rfl, h, z⟩)
theorem s_slL {lo hi : Option Int} (h : SqL K H p xs) (z : ∀ l, H l = none → Q (.ref l) (upd H l (.lst (cutV xs lo hi)))) : rSlU K (.ref p) lo hi H Q := .inl ⟨p, xs, rfl, h, z⟩
theorem s_nil (z : QA [] H) : tNil σ H QA := z
theorem s_cons (z : ta σ H fun x H1 => tr σ H1 fun xs H2 => QA (x :: xs) H2) : tCons ta tr σ H QA := z
theorem s_tup (z : tr σ H fun xs H1 => xs.length ≤ sizeLine ∧ ∀ p, H1 p = none → Q (.ref p) (upd H1 p (.tup xs))) : tTup tr σ H Q := z
theorem s_lst (z : tr σ H fun xs H1 => xs.length ≤ sizeLine ∧ ∀ p, H1 p = none → Q (.ref p) (upd H1 p (.lst xs))) : tLst tr σ H Q := z
theorem s_new {C : Prop} (h : n ≤ 1000) (z : C) : n ≤ sizeLine ∧ C := ⟨Nat.le_of_lt (small1000 h), z⟩
theorem s_call {sp : Sp} (z : tr σ H fun vs H1 => sp (vs ++ []) H1 Q E) : tCall sp [] E tr σ H Q := z
theorem s_sp1 {P : V → Hp → VK → XK → Prop} (z : P x H Q E) : sp1 P ([x] ++ []) H Q E := ⟨x, rfl, z⟩
theorem s_sp2 {P : V → V → Hp → VK → XK → Prop} (z : P x y H Q E) : sp2 P ([x, y] ++ []) H Q E := ⟨x, y, rfl, z⟩
theorem s_sp3 {P : V → V → V → Hp → VK → XK → Prop} (z : P x y v H Q E) : sp3 P ([x, y, v] ++ []) H Q E := ⟨x, y, v, rfl, z⟩
theorem s_sp4 {w : V} {P : V → V → V → V → Hp → VK → XK → Prop} (z : P x y v w H Q E) : sp4 P ([x, y, v, w] ++ []) H Q E := ⟨x, y, v, w, rfl, z⟩
theorem s_sq4 {w : V} {P : V → V → V → V → Hp → VK → XK → Prop} (z : P x y v w H Q E) : sp4 P [x, y, v, w] H Q E := ⟨x, y, v, w, rfl, z⟩
theorem s_cb {r : List V → Hp → VK → Prop} (z : tr σ H fun vs H1 => r vs H1 Q) : tCB r tr σ H Q := z
theorem s_len {R : Nat → Prop} (h : LenV K x H n) (z : R n) : ∃ x' n', [x] = [x'] ∧ LenV K x' H n' ∧ R n' := ⟨x, n, rfl, h, z⟩
theorem s_and (z : tt σ H fun c H1 => if c = true then uu σ H1 QB else QB false H1) : tAnd tt uu σ H QB := z
theorem s_or (z : tt σ H fun c H1 => if c = true then QB true H1 else uu σ H1 QB) : tOr tt uu σ H QB := z
theorem s_not (z : tt σ H fun c H1 => QB (!c) H1) : tNot tt σ H QB := z
theorem s_andV (z : ta σ H fun x H1 => ∃ c, x = .bl c ∧ if c = true then tb σ H1 Q else Q (.bl false) H1) : tAndV ta tb σ H Q := z
theorem s_orV (z : ta σ H fun x H1 => ∃ c, x = .bl c ∧ if c = true then Q (.bl true) H1 else tb σ H1 Q) : tOrV ta tb σ H Q := z
theorem s_notV (z : ta σ H fun x H1 => ∃ c, x = .bl c ∧ Q (.bl (!c)) H1) : tNotV ta σ H Q := z
theorem s_bln {R : Bool → Prop} (e : k = true) (z : R true) : ∃ k', V.bl k = .bl k' ∧ R k' := ⟨true, by rw [e], z⟩
theorem s_if (z : tt σ H fun c H1 => if c = true then ta σ H1 Q else tb σ H1 Q) : tIf tt ta tb σ H Q := z
theorem s_chain {r r' : R2} (z : ta σ H fun x H1 => tb σ H1 fun y H2 => r x y H2 fun z H3 => ∃ k, z = .bl k ∧ (if k = true then tc σ H3 fun w' H4 => r' y w' H4 Q else Q (.bl false) H3)) : tChain r r' ta tb tc σ H Q := z
theorem s_tr (z : ta σ H fun x H' => ∃ k, TruV K x H' k ∧ QB k H') : tTr K ta σ H QB := z
theorem s_truB {R : Bool → Prop} (z : R k) : ∃ k', TruV K (.bl k) H k' ∧ R k' := ⟨k, rfl, z⟩
theorem s_truL {R : Bool → Prop} (h : SqL K H p xs) (z : R (!xs.isEmpty)) : ∃ k', TruV K (.ref p) H k' ∧ R k' := ⟨_, .inl ⟨xs, h, rfl⟩, z⟩
theorem s_listL (h : SqL K H p xs ∨ SqT K H p xs) (z : ∀ l, H l = none → Q (.ref l) (upd H l (.lst xs))) : rListU K [.ref p] H Q := .inl ⟨p, xs, rfl, h, z⟩
theorem s_listS (h : a.length ≤ sizeLine) (z : ∀ l, H l = none → Q (.ref l) (upd H l (.lst (signsV a)))) : rListU K [.str a] H Q := .inr ⟨a, rfl, h, z⟩
theorem s_m1 {r : V → List V → Hp → VK → Prop} (z : ta σ H fun x H1 => (∃ a, x = .str a) ∧ tb σ H1 fun y H2 => r x [y] H2 Q) : tM1 r ta tb σ H Q := z
theorem s_m0 {r : V → List V → Hp → VK → Prop} (z : ta σ H fun x H1 => (∃ a, x = .str a) ∧ r x [] H1 Q) : tM0 r ta σ H Q := z
theorem s_isStr {C : Prop} (z : C) : (∃ b, V.str a = .str b) ∧ C := ⟨⟨a, rfl⟩, z⟩
theorem s_enum {R : It → Hp → Prop} (z : tr σ H fun vs H1 => ∃ a xs, vs = [.ref a] ∧ SqL K H1 a xs ∧ R (Ite K a) H1) : rEnumU K tr σ H R := z
theorem s_enumL {R : Addr → Prop} (h : SqL K H p xs) (z : R p) : ∃ a xs, [V.ref p] = [.ref a] ∧ SqL K H a xs ∧ R a := ⟨p, xs, rfl, h, z⟩
theorem s_callS {sp : Sp} {EE : St → XK} (z : tr σ H fun vs H1 => sp vs H1 Q (EE σ)) : tCallS sp EE tr σ H Q := z
theorem s_sq1 {P : V → Hp → VK → XK → Prop} (z : P x H Q E) : sp1 P [x] H Q E := ⟨x, rfl, z⟩
theorem s_sq2 {P : V → V → Hp → VK → XK → Prop} (z : P x y H Q E) : sp2 P [x, y] H Q E := ⟨x, y, rfl, z⟩
theorem s_sq3 {P : V → V → V → Hp → VK → XK → Prop} (z : P x y v H Q E) : sp3 P [x, y, v] H Q E := ⟨x, y, v, rfl, z⟩
theorem s_aug {ti : TIp} (h : σ[n]? = some (some x)) (z : ta σ H fun y H1 => ti x y H1 fun z H2 => D.nx (σ.set n (some z)) H2) : tAug n ta ti D σ H := ⟨x, h, z⟩
theorem s_ipI (z : Q (.int (i + j)) H) : ipU (.int i) (.int j) H Q := .inl ⟨i, j, rfl, rfl, z⟩
theorem s_ipL (h1 : H p = some (.lst xs)) (h2 : H q = some (.lst ys)) (h : xs.length + ys.length ≤ sizeLine) (z : Q (.ref p) (upd H p (.lst (xs ++ ys)))) : ipU (.ref p) (.ref q) H Q := .inr ⟨p, q, xs, ys, rfl, rfl, h1, h2, h, z⟩
theorem s_bm {T : String} {r : V → List V → Hp → VK → Prop} (z : ta σ H fun x H1 => tyV K T x H1 ∧ tr σ H1 fun xs H2 => r x xs H2 Q) : tBM K T r ta tr σ H Q := z
theorem s_bm0 {T : String} {r : V → List V → Hp → VK → Prop} (z : ta σ H fun x H1 => tyV K T x H1 ∧ r x [] H1 Q) : tBM0 K T r ta σ H Q := z
theorem s_tyL {C : Prop} (h : SqL K H p xs) (z : C) : tyV K "list" (.ref p) H ∧ C := ⟨.inl ⟨rfl, _, h⟩, z⟩
theorem s_append (h : H p = some (.lst xs)) (hl : xs.length < sizeLine) (z : Q .non (upd H p (.lst (xs ++ [x])))) : rAppend (.ref p) [x] H Q := ⟨p, xs, x, rfl, rfl, h, hl, z⟩
theorem s_extend (h : H p = some (.lst xs)) (h2 : H q = some (.lst ys)) (hl : xs.length + ys.length ≤ sizeLine) (z : Q .non (upd H p (.lst (xs ++ ys)))) : rExtend (.ref p) [.ref q] H Q := ⟨p, q, xs, ys, rfl, rfl, h, h2, hl, z⟩
theorem s_lstRg {te : St → Hp → (Int → Int → Hp → Prop) → Prop} (z : te σ H fun a b H1 => RgOk a b ∧ ∀ q, H1 q = none → Q (.ref q) (upd H1 q (.lst (rgV a b)))) : tLstRg te σ H Q := z
theorem s_prg1 {R : Int → Int → Hp → Prop} (z : ta σ H fun x H1 => ∃ b, x = .int b ∧ R 0 b H1) : tRg1 ta σ H R := z
theorem s_try {tb : WX → TS} {W : Ends → WX} (z : tb (W D) D σ H) : tTry tb W D σ H := z
theorem s_only {c cls : Value} {d : Option Addr} {t : Addr → Value → Option Addr → TS} {Wout : WX} (h : PySem.W.exmOne K cls c = some true) (z : ∀ a, H a = none → t a cls d D σ H) : WE (wOnly K c t Wout D) σ cls d H := ⟨true, h, fun _ => z, fun (e : true = false) => absurd e.symm Bool.false_ne_true⟩
theorem s_many1 {c cls : Value} {d : Option Addr} {t : Addr → Value → Option Addr → TS} {Wout : WX} {l : List (Value × (Addr → Value → Option Addr → TS))} (h : PySem.W.exmOne K cls c = some true) (z : ∀ a, H a = none → t a cls d D σ H) : WE (wMany K Wout D ((c, t) :: l)) σ cls d H := ⟨true, h, fun _ => z, fun (e : true = false) => absurd e.symm Bool.false_ne_true⟩
theorem s_many0 {c cls : Value} {d : Option Addr} {t : Addr → Value → Option Addr → TS} {Wout : WX} {l : List (Value × (Addr → Value → Option Addr → TS))} (h : PySem.W.exmOne K cls c = some false) (z : WE (wMany K Wout D l) σ cls d H) : WE (wMany K Wout D ((c, t) :: l)) σ cls d H := ⟨false, h, fun (e : false = true) => absurd e Bool.false_ne_true, fun _ => z⟩
/-! statements -/
theorem s_start {σ' : St} (e : σ = σ') (z : ts D σ' H) : ts D σ H := e ▸ z
theorem s_seq {nx : St → Hp → Prop} {rt : VK} {bk ct : St → Hp → Prop} (z : ts ⟨us ⟨nx, rt, bk, ct⟩, rt, bk, ct⟩ σ H) : tSeq ts us ⟨nx, rt, bk, ct⟩ σ H := z
theorem s_next (z : D.nx σ H) : tNext D σ H := z
theorem s_brk (z : D.bk σ H) : tBreak D σ H := z
theorem s_cont (z : D.ct σ H) : tCont D σ H := z
theorem s_drop (z : ta σ H fun _ H1 => D.nx σ H1) : tDrop ta D σ H := z
theorem s_ret (z : ta σ H D.rt) : tRet ta D σ H := z
theorem s_ifS (z : tt σ H fun b H1 => if b = true then ts D σ H1 else us D σ H1) : tIfS tt ts us D σ H := z
theorem s_asg {g : TG} (z : ta σ H fun x H1 => g x σ H1 D.nx) : tAsg ta g D σ H := z
theorem s_gName {R : St → Hp → Prop} (z : R (σ.set n (some v)) H) : gName n v σ H R := z
theorem s_gSub {R : St → Hp → Prop} {to ti : TE} {t : TSet} (z : to σ H fun o H1 => ti σ H1 fun i H2 => t o i v H2 fun H3 => R σ H3) : gSub to ti t v σ H R := z
theorem s_setL {R : Hp → Prop} (h : H p = some (.lst xs)) (h1 : ixN xs.length i = some n) (z : R (upd H p (.lst (xs.set n v)))) : rSetL (.ref p) (.int i) v H R := ⟨p, xs, i, n, rfl, rfl, h, h1, z⟩
theorem s_gTup {R : St → Hp → Prop} {t : TGs} (h : SqT K H p xs) (h1 : xs.length = n) (z : t xs σ H R) : gTup K n t (.ref p) σ H R := ⟨p, xs, rfl, h, h1, z⟩
theorem s_gCons {R : St → Hp → Prop} {t : TG} {u : TGs} (z : t x σ H fun σ' H' => u xs σ' H' R) : gCons t u (x :: xs) σ H R := ⟨x, xs, rfl, z⟩
theorem s_gNil {R : St → Hp → Prop} (z : R σ H) : gNil [] σ H R := ⟨rfl, z⟩
theorem s_nx {nx : St → Hp → Prop} {rt : VK} {bk ct : St → Hp → Prop} (z : nx σ H) : Ends.nx ⟨nx, rt, bk, ct⟩ σ H := z
theorem s_rt {nx : St → Hp → Prop} {rt : VK} {bk ct : St → Hp → Prop} (z : rt v H) : Ends.rt ⟨nx, rt, bk, ct⟩ v H := z
theorem s_bk {nx : St → Hp → Prop} {rt : VK} {bk ct : St → Hp → Prop} (z : bk σ H) : Ends.bk ⟨nx, rt, bk, ct⟩ σ H := z
theorem s_ct {nx : St → Hp → Prop} {rt : VK} {bk ct : St → Hp → Prop} (z : ct σ H) : Ends.ct ⟨nx, rt, bk, ct⟩ σ H := z
theorem s_seqJ {nx0 : St → Hp → Prop} {rt : VK} {bk ct : St → Hp → Prop} (J : St → Hp → Prop) (h2 : ∀ σ' H', J σ' H' → us ⟨nx0, rt, bk, ct⟩ σ' H') (h1 : ∀ nx : St → Hp → Prop, (∀ σ' H', J σ' H' → nx σ' H') → ts ⟨nx, rt, bk, ct⟩ σ H) : tSeq ts us ⟨nx0, rt, bk, ct⟩ σ H := h1 _ h2
theorem s_abs {R : Int → Prop} (z : R i) : ∃ i', [V.int i] = [.int i'] ∧ R i' := ⟨i, rfl, z⟩
theorem s_lenL {R : Nat → Prop} (h : SqL K H p xs) (z : R xs.length) : ∃ x' n', [V.ref p] = [x'] ∧ LenV K x' H n' ∧ R n' := ⟨_, _, rfl, .inl ⟨_, h, rfl⟩, z⟩
theorem s_lenT {R : Nat → Prop} (h : SqT K H p xs) (z : R xs.length) : ∃ x' n', [V.ref p] = [x'] ∧ LenV K x' H n' ∧ R n' := ⟨_, _, rfl, .inr ⟨_, h, rfl⟩, z⟩
theorem s_lenS {R : Nat → Prop} (h : a.length ≤ sizeLine) (z : R a.length) : ∃ x' n', [V.str a] = [x'] ∧ LenV K x' H n' ∧ R n' := ⟨_, _, rfl, ⟨h, rfl⟩, z⟩
/-- a branch -/
theorem br {c : Prop} [Decidable c] {A B : Prop} (h1 : c → A) (h2 : ¬ c → B) : if decide c = true then A else B := by
  by_cases h : c
  · rw [if_pos (decide_eq_true h)]
    exact h1 h
  · rw [if_neg (by rw [decide_eq_false h]; exact Bool.false_ne_true)]
    exact h2 h
theorem brN {c : Prop} [Decidable c] {A B : Prop} (h1 : ¬ c → A) (h2 : c → B) : if (!decide c) = true then A else B := by
  by_cases h : c
  · rw [if_neg (by rw [decide_eq_true h]; exact Bool.false_ne_true)]
    exact h2 h
  · rw [if_pos (by rw [decide_eq_false h]; rfl)]
    exact h1 h
theorem brB {c : Bool} {A B : Prop} (h1 : c = true → A) (h2 : c = false → B) : if c = true then A else B := by
  cases c
  · exact iteF (h2 rfl)
  · exact iteT (h1 rfl)
theorem same_upd {H : Hp} {p : Addr} {o : HO} (h : H p = none) : Same H (upd H p o) := fun b x e => by
  rw [upd_ne (ne_of_none e h)]
  exact e
theorem Same.sqT {K : PySem.W.Frag} {H H' : Hp} {a : Addr} {xs : List V} (e : Same H H') (h : SqT K H a xs) : SqT K H' a xs := by
  rcases h with (h | ⟨o, h⟩) | h
  · exact .inl (.inl (e _ _ h))
  · exact .inl (.inr ⟨o, e _ _ h⟩)
  · exact .inr h
end
end L2.U
/-! D: what the laws' own helpers promise (a draw, a list begun, one of a row, sameness), comprehensions by a word. Own text. -/
namespace L2.U
open PySem PySem.Spec PyProof.Rows RZ
/-! ### the heap but for one object -/
def Keep (p : Addr) (H H' : Hp) : Prop := ∀ b o, b ≠ p → H b = some o → H' b = some o
theorem Keep.refl (p : Addr) (H : Hp) : Keep p H H := fun _ _ _ h => h
theorem Keep.trans {p : Addr} {H H' H'' : Hp} (a : Keep p H H') (b : Keep p H' H'') : Keep p H H'' := fun c o n h => b c o n (a c o n h)
theorem Keep.upd {p : Addr} {H : Hp} {o : HO} : Keep p H (upd H p o) := fun c u n h => by rw [upd_ne n]; exact h
theorem Same.keep {p : Addr} {H H' : Hp} (s : Same H H') : Keep p H H' := fun b o _ h => s b o h
theorem Keep.sqL {K : PySem.W.Frag} {p a : Addr} {H H' : Hp} {xs : List V} (k : Keep p H H') (n : a ≠ p) (h : SqL K H a xs) : SqL K H' a xs := by
  rcases h with (h | ⟨o, h⟩) | h
  · exact .inl (.inl (k _ _ n h))
  · exact .inl (.inr ⟨o, k _ _ n h⟩)
  · exact .inr h
theorem Keep.free {p a : Addr} {H H' : Hp} (k : Keep p H H') (n : a ≠ p) (h : H' a = none) : H a = none := by
  cases q : H a with
  | none => rfl
  | some o =>
    rw [k a o n q] at h
    cases h
structure Draw (H : Hp) (p a : Addr) : Prop where
  ex : ∃ (ns : List Int) (c h s : Int), H p = some (.lst [.ref a, .int c, .int h, .int s]) ∧ H a = some (.lst (ns.map V.int)) ∧ a ≠ p ∧ ns.length ≤ 1000 ∧ 0 ≤ c ∧ 0 ≤ h ∧ 0 ≤ s ∧ s < 2147483647
theorem Draw.same {H H' : Hp} {p a : Addr} (d : Draw H p a) (s : Same H H') : Draw H' p a := by
  obtain ⟨ns, c, h, t, e, hS, r⟩ := d.ex
  exact ⟨ns, c, h, t, s _ _ e, s _ _ hS, r⟩
theorem Draw.ne {H : Hp} {p a q : Addr} (d : Draw H p a) (h : H q = none) : q ≠ p := fun e => by
  obtain ⟨ns, c, g, t, e2, hS, r⟩ := d.ex
  rw [e, e2] at h
  cases h
theorem Draw.ne2 {H : Hp} {p a q : Addr} (d : Draw H p a) (h : H q = none) : q ≠ a := fun e => by
  obtain ⟨ns, c, g, t, e2, hS, r⟩ := d.ex
  rw [e, hS] at h
  cases h
theorem Draw.updN {H : Hp} {p a q : Addr} {o : HO} (d : Draw H p a) (n : q ≠ p) (m : q ≠ a) : Draw (upd H q o) p a := by
  obtain ⟨ns, c, h, t, e, hS, r⟩ := d.ex
  exact ⟨ns, c, h, t, by rw [upd_ne n.symm]; exact e, by rw [upd_ne m.symm]; exact hS, r⟩
/-! ### promises -/
abbrev spTake : Sp := sp2 fun d n H Q _ => ∃ (p a : Addr) (k : Int), d = .ref p ∧ n = .int k ∧ 0 < k ∧ k < 1073741824 ∧ Draw H p a ∧ ∀ H' r, Keep p H H' → Draw H' p a → 0 ≤ r → r < k → Q (.int r) H'
abbrev spBegin (K : PySem.W.Frag) : Sp := sp1 fun v H Q _ => ∃ (b : Addr) (ns : List Int), v = .ref b ∧ SqL K H b (ns.map V.int) ∧ ns.length ≤ 63 ∧ ∀ H' p a, Same H H' → H p = none → Draw H' p a → Q (.ref p) H'
abbrev spOne (K : PySem.W.Frag) : Sp := sp2 fun d r H Q _ => ∃ (p a b : Addr) (xs : List V), d = .ref p ∧ r = .ref b ∧ b ≠ p ∧ SqL K H b xs ∧ 0 < xs.length ∧ xs.length < 1000000 ∧ Draw H p a ∧ ∀ H' v, Keep p H H' → Draw H' p a → v ∈ xs → Q v H'
def OkD : Nat → PyData → Prop
  | 0, _ => False
  | n + 1, .list ds => ds.length ≤ 1000000 ∧ ∀ d ∈ ds, OkD n d
  | n + 1, .tuple ds => ds.length ≤ 1000000 ∧ ∀ d ∈ ds, OkD n d
  | _ + 1, .dict _ => False
  | _ + 1, _ => True
abbrev spSame (K : PySem.W.Frag) (n : Nat) : Sp := sp2 fun x y H Q _ => ∃ d : PyData, Dp K H x d ∧ Dp K H y d ∧ OkD n d ∧ ∀ H', Same H H' → Q (.bl true) H'
/-! ### the heap but for some objects -/
def hid (S : List Addr) (H : Hp) : Hp := fun b => if b ∈ S then none else H b
section
variable {S S' : List Addr} {H H' : Hp} {q b : Addr} {o : HO}
theorem hid_get (n : b ∉ S) : hid S H b = H b := if_neg n
theorem hid_none (n : b ∈ S) : hid S H b = none := if_pos n
theorem hid_same : Same (hid S H) H := fun b o e => by
  unfold hid at e
  split at e
  · cases e
  · exact e
theorem hid_up (m : q ∈ S) : hid S (upd H q o) = hid S H := by
  funext b
  unfold hid
  by_cases hb : b ∈ S
  · rw [if_pos hb, if_pos hb]
  · rw [if_neg hb, if_neg hb, upd_ne fun e => hb (by rw [e]; exact m)]
theorem Same.hid (s : Same H H') : Same (hid S H) (hid S H') := fun b o e => by
  unfold U.hid at e ⊢
  split at e
  · cases e
  · rename_i hb
    rw [if_neg hb]
    exact s _ _ e
theorem Keep.hid {p : Addr} (k : Keep p H H') (m : p ∈ S) : Same (hid S H) (hid S H') := fun b o e => by
  unfold U.hid at e ⊢
  split at e
  · cases e
  · rename_i hb
    rw [if_neg hb]
    exact k b o (fun z => hb (by rw [z]; exact m)) e
theorem hid_free (h : H q = none) : hid S H q = none := by
  unfold hid
  split
  · rfl
  · exact h
theorem hid_new (h : H q = none) : hid (q :: S) H = hid S H := by
  funext b
  unfold hid
  by_cases hb : b = q
  · rw [if_pos (by rw [hb]; exact List.mem_cons_self), hb, h]
    split <;> rfl
  · by_cases hS : b ∈ S
    · rw [if_pos (List.mem_cons_of_mem _ hS), if_pos hS]
    · rw [if_neg (by simp [hb, hS]), if_neg hS]
theorem hid_less (h : ∀ x ∈ S, x ∈ S') : Same (hid S' H) (hid S H) := fun b o e => by
  unfold hid at e ⊢
  split at e
  · cases e
  · rename_i hb
    rw [if_neg fun m => hb (h b m)]
    exact e
theorem hid_hid : hid S (hid S' H) = hid (S ++ S') H := by
  funext b
  unfold hid
  by_cases h1 : b ∈ S
  · rw [if_pos h1, if_pos (List.mem_append_left _ h1)]
  · by_cases h2 : b ∈ S'
    · rw [if_neg h1, if_pos h2, if_pos (List.mem_append_right _ h2)]
    · rw [if_neg h1, if_neg h2, if_neg (by simp [h1, h2])]
theorem hid_nil : hid [] H = H := by
  funext b
  exact if_neg (fun m => nomatch m)
end
/-! ### data -/
section
variable {K : PySem.W.Frag} {H H' : Hp}
mutual
theorem Dp.same (s : Same H H') : ∀ (d : PyData) (v : V), Dp K H v d → Dp K H' v d
  | .none, _, h => by cases h; exact .non
  | .bool b, _, h => by cases h; exact .bl b
  | .int i, _, h => by cases h; exact .int i
  | .str x, _, h => by cases h; exact .str x
  | .list ds, _, h => by
    cases h with
    | lst hs ha => exact .lst (s.seq hs) (Dp.sameAll s ds _ ha)
  | .tuple ds, _, h => by
    cases h with
    | tup hs ha => exact .tup (Same.sqT s hs) (Dp.sameAll s ds _ ha)
  | .dict _, _, h => by cases h
theorem Dp.sameAll (s : Same H H') : ∀ (ds : List PyData) (vs : List V), DpAll K H vs ds → DpAll K H' vs ds
  | [], _, h => by cases h; exact .nil
  | d :: ds, _, h => by
    cases h with
    | cons h1 h2 => exact .cons (Dp.same s d _ h1) (Dp.sameAll s ds _ h2)
end
theorem DpAll.length : ∀ {vs : List V} {ds : List PyData}, DpAll K H vs ds → vs.length = ds.length
  | _, _, .nil => rfl
  | _, _, .cons _ h => by rw [List.length_cons, List.length_cons, DpAll.length h]
theorem DpAll.get : ∀ {vs : List V} {ds : List PyData} {i : Nat} {v : V}, DpAll K H vs ds → vs[i]? = some v → ∃ d, ds[i]? = some d ∧ Dp K H v d
  | _, _, _, _, .nil, e => by simp at e
  | _, _, 0, _, .cons h _, e => by
    cases e
    exact ⟨_, rfl, h⟩
  | _, _, i + 1, v, .cons _ h, e => DpAll.get (i := i) (v := v) h e
end
/-! ### data without lists: no list's place is among its own -/
mutual
def noL : PyData → Bool
  | .list _ => false
  | .dict _ => false
  | .tuple ds => noLAll ds
  | .none => true | .bool _ => true | .int _ => true | .str _ => true
def noLAll : List PyData → Bool
  | [] => true
  | d :: ds => noL d && noLAll ds
end
section
variable {K : PySem.W.Frag} {H : Hp} {p : Addr}
theorem SqT.avoid {a : Addr} {xs ys : List V} (hp : H p = some (.lst ys)) (h : SqT K H a xs) : SqT K (hid [p] H) a xs := by
  have ne : ∀ o, H a = some o → o ≠ .lst ys → hid [p] H a = some o := fun o e n => by
    rw [hid_get, e]
    intro m
    rw [List.mem_singleton.mp m, hp] at e
    exact n (Option.some.inj e).symm
  rcases h with (h | ⟨o, h⟩) | h
  · exact .inl (.inl (ne _ h (fun z => by cases z)))
  · exact .inl (.inr ⟨o, ne _ h (fun z => by cases z)⟩)
  · exact .inr h
mutual
theorem Dp.avoid {ys : List V} (hp : H p = some (.lst ys)) : ∀ (d : PyData) (v : V), noL d = true → Dp K H v d → Dp K (hid [p] H) v d
  | .none, _, _, h => by cases h; exact .non
  | .bool b, _, _, h => by cases h; exact .bl b
  | .int i, _, _, h => by cases h; exact .int i
  | .str x, _, _, h => by cases h; exact .str x
  | .list ds, _, n, _ => by simp [noL] at n
  | .tuple ds, _, n, h => by
    cases h with
    | tup hs ha => exact .tup (SqT.avoid hp hs) (Dp.avoidAll hp ds _ (by simpa [noL] using n) ha)
  | .dict _, _, n, _ => by simp [noL] at n
theorem Dp.avoidAll {ys : List V} (hp : H p = some (.lst ys)) : ∀ (ds : List PyData) (vs : List V), noLAll ds = true → DpAll K H vs ds → DpAll K (hid [p] H) vs ds
  | [], _, _, h => by cases h; exact .nil
  | d :: ds, _, n, h => by
    have n' : noL d = true ∧ noLAll ds = true := by simpa [noLAll] using n
    cases h with
    | cons h1 h2 => exact .cons (Dp.avoid hp d _ n'.1 h1) (Dp.avoidAll hp ds _ n'.2 h2)
end
theorem DpAll.take : ∀ {vs : List V} {ds : List PyData} (n : Nat), DpAll K H vs ds → DpAll K H (vs.take n) (ds.take n)
  | _, _, 0, _ => .nil
  | _, _, _ + 1, .nil => .nil
  | _, _, n + 1, .cons h1 h2 => .cons h1 (DpAll.take n h2)
theorem DpAll.drop : ∀ {vs : List V} {ds : List PyData} (n : Nat), DpAll K H vs ds → DpAll K H (vs.drop n) (ds.drop n)
  | _, _, 0, h => h
  | _, _, _ + 1, .nil => .nil
  | _, _, n + 1, .cons _ h2 => DpAll.drop n h2
end
theorem DpAll.set {K : PySem.W.Frag} {H : Hp} {v : V} {d : PyData} (h : Dp K H v d) : ∀ {vs : List V} {ds : List PyData} (i : Nat), DpAll K H vs ds → DpAll K H (vs.set i v) (ds.set i d)
  | _, _, _, .nil => .nil
  | _, _, 0, .cons _ h2 => .cons h h2
  | _, _, i + 1, .cons h1 h2 => .cons h1 (DpAll.set h i h2)
theorem atI_m1 {xs : List V} {x : V} (h : xs[xs.length - 1]? = some x) : atI xs (-1) = some x := by
  have h0 : 0 < xs.length := by
    rcases Nat.eq_zero_or_pos xs.length with z | z
    · rw [List.getElem?_eq_none (by omega)] at h
      cases h
    · exact z
  unfold atI ixN
  rw [if_neg (by omega), if_pos (by omega)]
  show xs[((-1 : Int) + xs.length).toNat]? = some x
  rw [show ((-1 : Int) + xs.length).toNat = xs.length - 1 by omega]
  exact h
theorem Draw.lst {H : Hp} {p a : Addr} (d : Draw H p a) : ∃ ys, H p = some (.lst ys) := by
  obtain ⟨ns, c, h, t, e, _⟩ := d.ex
  exact ⟨_, e⟩
theorem cutV_take (xs : List V) (i : Nat) : cutV xs none (some (i : Int)) = xs.take i := by
  unfold cutV
  rw [HT.sIx_none, HT.sIx_nat, List.drop_zero, Nat.sub_zero]
  rcases Nat.lt_or_ge i xs.length with h | h
  · rw [Nat.min_eq_left (Nat.le_of_lt h)]
  · rw [Nat.min_eq_right h, List.take_length, List.take_of_length_le h]
theorem cutV_drop (xs : List V) (i : Nat) : cutV xs (some (i : Int)) none = xs.drop i := by
  unfold cutV
  rw [HT.sIx_none, HT.sIx_nat]
  rcases Nat.lt_or_ge i xs.length with h | h
  · rw [Nat.min_eq_left (Nat.le_of_lt h)]
    exact List.take_of_length_le (by rw [List.length_drop]; exact Nat.le_refl _)
  · rw [Nat.min_eq_right h, List.drop_length, List.drop_eq_nil_of_le h]
    exact List.take_nil
/-! ### kinds -/
def tyD : PyData → String
  | .none => "NoneType" | .bool _ => "bool" | .int _ => "int" | .str _ => "str" | .list _ => "list" | .tuple _ => "tuple" | .dict _ => "dict"
def isList : PyData → Bool
  | .list _ => true | _ => false
def isSeq : PyData → Bool
  | .list _ => true | .tuple _ => true | _ => false
def isBool : PyData → Bool
  | .bool _ => true | _ => false
def isStr : PyData → Bool
  | .str _ => true | _ => false
section
variable {K : PySem.W.Frag} {H : Hp} {Q : VK} {x : V} {d : PyData}
theorem Dp.ty (h : Dp K H x d) : TyX K H x (.type (tyD d)) := by
  cases h with
  | non => exact .base .non
  | bl b => exact .base (.bl b)
  | int i => exact .base (.int i)
  | str z => exact .base (.str z)
  | lst hs _ =>
    rcases hs with (h | ⟨o, h⟩) | ⟨o, its, n, e, c, _⟩
    · exact .base (.lst h)
    · exact .base (.frz h)
    · exact .kList e c
  | tup hs _ =>
    rcases hs with (h | ⟨o, h⟩) | ⟨o, its, n, e, c, _⟩
    · exact .base (.tup h)
    · exact .fTuple h
    · exact .kTuple e c
theorem s_isiLT {tp : Addr} (hd : Dp K H x d) (h : H tp = some (.tup [.ty "list", .ty "tuple"])) (z : Q (.bl (isSeq d)) H) : rIsiT K [x, .ref tp] H Q :=
  ⟨x, tp, _, _, [.type "list", .type "tuple"], isSeq d, rfl, h, .cons (.ty _) (.cons (.ty _) .nil), Dp.ty hd, by clear hd z; cases d <;> rfl, z⟩
theorem s_isiL (hd : Dp K H x d) (z : Q (.bl (isList d)) H) : rIsi K [x, .ty "list"] H Q := ⟨x, _, _, _, isList d, rfl, .ty _, Dp.ty hd, by clear hd z; cases d <;> rfl, z⟩
theorem s_isiB (hd : Dp K H x d) (z : Q (.bl (isBool d)) H) : rIsi K [x, .ty "bool"] H Q := ⟨x, _, _, _, isBool d, rfl, .ty _, Dp.ty hd, by clear hd z; cases d <;> rfl, z⟩
theorem s_isiS (hd : Dp K H x d) (z : Q (.bl (isStr d)) H) : rIsi K [x, .ty "str"] H Q := ⟨x, _, _, _, isStr d, rfl, .ty _, Dp.ty hd, by clear hd z; cases d <;> rfl, z⟩
theorem s_isNV (z : Q (.bl (decide (x = .non))) H) : tIsN (fun _ H Q => Q x H) [] H Q := z
end
/-! ### comprehensions -/
def lcB (J : It) (g : TG) (tt : TT) (te : TE) (vs : List Nat) (σ : St) (H1 : Hp) (Q : VK) : Prop :=
  ∀ D, H1 D = none → ∃ W : Nat → Nat → Hp → Prop, (∃ m, W 0 m (upd H1 D (.lst []))) ∧ ∀ i m H, W i m H →
  (J.stop i H ∧ Q (.ref D) H) ∨ (J.go i H ∧ ∃ Nx : Hp → Prop, (∀ H', Nx H' → ∃ m', m' < m ∧ W (i + 1) m' H') ∧ ∀ x H', J.yld i H x H' → g x (wipe σ vs) H' fun σ2 H2 => wipe σ2 vs = wipe σ vs ∧ tt σ2 H2 fun b H3 =>
    if b = true then te σ2 H3 fun y H4 => ∃ acc, H4 D = some (.lst acc) ∧ acc.length < sizeLine ∧ Nx (upd H4 D (.lst (acc ++ [y]))) else Nx H3)
/-- what an element's end is asked: the new list with the element -/
def LcPost (S : Addr → Nat → List V → Hp → Prop) (D : Addr) (i : Nat) (y : V) (H4 : Hp) : Prop :=
  ∃ acc, H4 D = some (.lst acc) ∧ acc.length < sizeLine ∧ (∃ acc', (upd H4 D (.lst (acc ++ [y]))) D = some (.lst acc') ∧ acc'.length ≤ i + 1 ∧ S D (i + 1) acc' (upd H4 D (.lst (acc ++ [y]))))
def LcSkip (S : Addr → Nat → List V → Hp → Prop) (D : Addr) (i : Nat) (H3 : Hp) : Prop := ∃ acc', H3 D = some (.lst acc') ∧ acc'.length ≤ i + 1 ∧ S D (i + 1) acc' H3
theorem LcPost.mk {S : Addr → Nat → List V → Hp → Prop} {D : Addr} {i : Nat} {y : V} {H4 : Hp} {acc : List V} (h : H4 D = some (.lst acc)) (l : acc.length ≤ i) (n : i < 1000000) (s : S D (i + 1) (acc ++ [y]) (upd H4 D (.lst (acc ++ [y])))) : LcPost S D i y H4 :=
  ⟨acc, h, Nat.lt_of_le_of_lt l (Nat.lt_trans n (by decide)), _, upd_same, by rw [List.length_append]; exact Nat.add_le_add_right l 1, s⟩
theorem LcSkip.mk {S : Addr → Nat → List V → Hp → Prop} {D : Addr} {i : Nat} {H3 : Hp} {acc : List V} (h : H3 D = some (.lst acc)) (l : acc.length ≤ i) (s : S D (i + 1) acc H3) : LcSkip S D i H3 := ⟨acc, h, Nat.le_succ_of_le l, s⟩
section
variable {K : PySem.W.Frag} {σ : St} {H1 : Hp} {Q : VK} {J : It} {g : TG} {te : TE} {vs : List Nat}
theorem tYes_mk {H : Hp} {R : Bool → Hp → Prop} (z : R true H) : tYes σ H R := z
theorem s_lc {wi : TI} {tt : TT} (z : wi σ H1 fun J H => lcB J g tt te vs σ H Q) : tLc wi g tt te vs σ H1 Q := z
theorem s_iStr {ta : TE} {R : It → Hp → Prop} (z : ta σ H1 fun v H => ∃ x, v = .str x ∧ R (Its x) H) : iStr ta σ H1 R := z
theorem s_str {a : Str} {R : Str → Prop} (z : R a) : ∃ x, V.str a = .str x ∧ R x := ⟨a, rfl, z⟩
theorem s_iRng1 {ta : TA} {R : It → Hp → Prop} (z : ta σ H1 fun vs H => ∃ j : Int, vs = [.int j] ∧ -(2 ^ 62) ≤ j ∧ j < 2 ^ 62 ∧ R (Itr 0 j.toNat) H) : iRng1 ta σ H1 R := z
theorem s_rng1 {j : Int} {R : Int → Prop} (h1 : -(2 ^ 62) ≤ j) (h2 : j < 2 ^ 62) (z : R j) : ∃ k : Int, [V.int j] = [.int k] ∧ -(2 ^ 62) ≤ k ∧ k < 2 ^ 62 ∧ R k := ⟨j, rfl, h1, h2, z⟩
theorem s_iList {ta : TE} {R : It → Hp → Prop} (z : ta σ H1 fun v H => ∃ a, v = .ref a ∧ (∃ xs, SqL K H a xs) ∧ R (Itl K a) H) : iList K ta σ H1 R := z
theorem s_iTup {ta : TE} {R : It → Hp → Prop} (z : ta σ H1 fun v H => ∃ a, v = .ref a ∧ (∃ xs, SqT K H a xs) ∧ R (Itt K a) H) : iTup K ta σ H1 R := z
theorem s_itL {a : Addr} {xs : List V} {R : Addr → Prop} (h : SqL K H1 a xs) (z : R a) : ∃ b, V.ref a = .ref b ∧ (∃ xs, SqL K H1 b xs) ∧ R b := ⟨a, rfl, ⟨xs, h⟩, z⟩
theorem s_itT {a : Addr} {xs : List V} {R : Addr → Prop} (h : SqT K H1 a xs) (z : R a) : ∃ b, V.ref a = .ref b ∧ (∃ xs, SqT K H1 b xs) ∧ R b := ⟨a, rfl, ⟨xs, h⟩, z⟩
theorem s_iZipA {ta : TA} {R : It → Hp → Prop} (z : ta σ H1 fun vs H => ∃ a b xs ys, vs = [.ref a, .ref b] ∧ ((SqL K H a xs ∧ SqL K H b ys ∧ R (Itz K a b) H) ∨ (SqT K H a xs ∧ SqT K H b ys ∧ R (ItzT K a b) H))) : iZipA K ta σ H1 R := z
def forB (J : It) (g : TG) (tb : TS) (D : Ends) (σ : St) (H : Hp) : Prop := ∃ W : Nat → Nat → St → Hp → Prop, (∃ m, W 0 m σ H) ∧ ∀ i m σ H, W i m σ H →
  (J.stop i H ∧ D.nx σ H) ∨ (J.go i H ∧ ∃ N : St → Hp → Prop, (∀ σ' H', N σ' H' → ∃ m', m' < m ∧ W (i + 1) m' σ' H') ∧ ∀ x H', J.yld i H x H' → g x σ H' fun σ2 H2 => tb { D with nx := N, ct := N, bk := D.nx } σ2 H2)
theorem s_for {wi : TI} {tb : TS} {D : Ends} (z : wi σ H1 fun J H => forB J g tb D σ H) : tFor wi g tb D σ H1 := z
theorem forB_range {lo : Int} {n : Nat} {tb : TS} {nx : St → Hp → Prop} {rt : VK} {bk ct : St → Hp → Prop} (Pv : Nat → St → Hp → Prop) (h0 : Pv 0 σ H1)
    (hs : ∀ i σ H, i < n → Pv i σ H → g (.int (lo + i)) σ H fun σ2 H2 => tb ⟨Pv (i + 1), rt, nx, Pv (i + 1)⟩ σ2 H2) (hd : ∀ σ H, Pv n σ H → nx σ H) : forB (Itr lo n) g tb ⟨nx, rt, bk, ct⟩ σ H1 := for_range Pv h0 hs hd
theorem forB_list {a : Addr} {xs : List V} {tb : TS} {nx : St → Hp → Prop} {rt : VK} {bk ct : St → Hp → Prop} (Pv : Nat → St → Hp → Prop) (h0 : Pv 0 σ H1) (hl : ∀ i σ H, i ≤ xs.length → Pv i σ H → SqL K H a xs)
    (hs : ∀ i x σ H, xs[i]? = some x → Pv i σ H → g x σ H fun σ2 H2 => tb ⟨Pv (i + 1), rt, nx, Pv (i + 1)⟩ σ2 H2) (hd : ∀ σ H, Pv xs.length σ H → nx σ H) : forB (Itl K a) g tb ⟨nx, rt, bk, ct⟩ σ H1 := for_list Pv h0 hl hs hd
theorem s_yes {A B : Hp → Prop} (z : A H1) : tYes σ H1 (fun b H3 => if b = true then A H3 else B H3) := tYes_mk (if_pos rfl ▸ z)
theorem forB_of {tb : TS} {nx : St → Hp → Prop} {rt : VK} {bk ct : St → Hp → Prop} (n : Nat) (Pv : Nat → St → Hp → Prop) (h0 : Pv 0 σ H1) (hgo : ∀ i σ H, i < n → Pv i σ H → J.go i H) (hst : ∀ σ H, Pv n σ H → J.stop n H)
    (hs : ∀ i σ H x H', i < n → Pv i σ H → J.yld i H x H' → g x σ H' fun σ2 H2 => tb ⟨Pv (i + 1), rt, nx, Pv (i + 1)⟩ σ2 H2) (hd : ∀ σ H, Pv n σ H → nx σ H) : forB J g tb ⟨nx, rt, bk, ct⟩ σ H1 := by
  refine ⟨fun i m σ H => m = n - i ∧ i ≤ n ∧ Pv i σ H, ⟨n, rfl, Nat.zero_le _, h0⟩, ?_⟩
  rintro i m σ H ⟨rfl, hi, p⟩
  by_cases hlt : i < n
  · exact .inr ⟨hgo i σ H hlt p, Pv (i + 1), fun σ' H' p' => ⟨n - (i + 1), by omega, rfl, hlt, p'⟩, fun x H' hy => hs i σ H x H' hlt p hy⟩
  · have e : i = n := by omega
    subst e
    exact .inl ⟨hst σ H p, hd σ H p⟩
def WhB (Pv : Nat → St → Hp → Prop) (m : Nat) (tb : TS) (rt : VK) (nx : St → Hp → Prop) (σ : St) (H : Hp) : Prop := ∃ N : St → Hp → Prop, (∀ σ' H', N σ' H' → ∃ m', m' < m ∧ Pv m' σ' H') ∧ tb ⟨N, rt, nx, N⟩ σ H
theorem WhB.mk {Pv : Nat → St → Hp → Prop} {m : Nat} {tb : TS} {rt : VK} {nx : St → Hp → Prop} (z : tb ⟨fun σ' H' => ∃ m', m' < m ∧ Pv m' σ' H', rt, nx, fun σ' H' => ∃ m', m' < m ∧ Pv m' σ' H'⟩ σ H1) : WhB Pv m tb rt nx σ H1 := ⟨_, fun _ _ h => h, z⟩
theorem s_while {tc : TT} {tb : TS} {nx : St → Hp → Prop} {rt : VK} {bk ct : St → Hp → Prop} (Pv : Nat → St → Hp → Prop) (m0 : Nat) (h0 : Pv m0 σ H1) (hs : ∀ m σ H, Pv m σ H → tc σ H fun b H1 => if b = true then WhB Pv m tb rt nx σ H1 else nx σ H1) : tWhile tc tb ⟨nx, rt, bk, ct⟩ σ H1 := ⟨Pv, ⟨m0, h0⟩, hs⟩
/-- a comprehension, by a word S (the new list's place, the turn, what it holds, the heap) -/
theorem lcB_of {tt : TT} (n : Nat) (S : Addr → Nat → List V → Hp → Prop) (h0 : ∀ D, H1 D = none → S D 0 [] (upd H1 D (.lst [])))
    (hgo : ∀ D i acc H, H1 D = none → i < n → S D i acc H → J.go i H) (hst : ∀ D acc H, H1 D = none → S D n acc H → J.stop n H)
    (hs : ∀ D i acc H x H', H1 D = none → i < n → H D = some (.lst acc) → acc.length ≤ i → S D i acc H → J.yld i H x H' → g x (wipe σ vs) H' fun σ2 H2 => wipe σ2 vs = wipe σ vs ∧ tt σ2 H2 fun b H3 => if b = true then te σ2 H3 (LcPost S D i) else LcSkip S D i H3)
    (hd : ∀ D acc H, H1 D = none → H D = some (.lst acc) → acc.length ≤ n → S D n acc H → Q (.ref D) H) : lcB J g tt te vs σ H1 Q := by
  intro D hD
  refine ⟨fun i m H => m = n - i ∧ i ≤ n ∧ ∃ acc, H D = some (.lst acc) ∧ acc.length ≤ i ∧ S D i acc H, ⟨n, rfl, Nat.zero_le _, [], upd_same, Nat.le_refl _, h0 D hD⟩, ?_⟩
  rintro i m H ⟨rfl, hi, acc, ha, hl, hS⟩
  by_cases hlt : i < n
  · exact .inr ⟨hgo D i acc H hD hlt hS, fun H' => ∃ acc', H' D = some (.lst acc') ∧ acc'.length ≤ i + 1 ∧ S D (i + 1) acc' H', fun H' ⟨acc', e1, e2, e3⟩ => ⟨n - (i + 1), by omega, rfl, hlt, acc', e1, e2, e3⟩, fun x H' hy => hs D i acc H x H' hD hlt ha hl hS hy⟩
  · have e : i = n := by omega
    subst e
    exact .inl ⟨hst D acc H hD hS, hd D acc H hD ha hl hS⟩
/-- each sign of a text, by a function, the heap as it is -/
theorem lcB_str {a : Str} {i : Nat} (f : Nat → V) (hn : a.length ≤ 1000000) (hw : ∀ x, wipe ((wipe σ vs).set i (some x)) vs = wipe σ vs)
    (he : ∀ c H R, R (f c) H → te ((wipe σ vs).set i (some (.str ⟨#[c]⟩))) H R) (q : ∀ D, H1 D = none → Q (.ref D) (upd H1 D (.lst (a.cps.toList.map f)))) : lcB (Its a) (gName i) tYes te vs σ H1 Q := by
  refine lcB_of a.cps.size (fun D n acc H => acc = (a.cps.toList.take n).map f ∧ H = upd H1 D (.lst acc)) (fun D _ => ⟨rfl, rfl⟩) (fun D i acc H _ h _ => h) (fun D acc H _ _ => Nat.le_refl _) ?_ ?_
  · rintro D k acc H x H' hD hk ha hl ⟨e1, e2⟩ ⟨rfl, c, hc, rfl⟩
    refine ⟨hw _, s_yes ?_⟩
    refine he c _ _ (LcPost.mk ha hl (Nat.lt_of_lt_of_le hk hn) ⟨?_, ?_⟩)
    · rw [List.take_add_one, show a.cps.toList[k]? = some c by rw [Array.getElem?_toList]; exact hc, List.map_append, ← e1]
      rfl
    · rw [e2, upd_upd]
  · rintro D acc H hD ha hl ⟨e1, rfl⟩
    have e : acc = a.cps.toList.map f := by rw [e1, List.take_of_length_le (by rw [Array.length_toList]; exact Nat.le_refl _)]
    rw [e]
    exact q D hD
end
end L2.U
/-! Tab: tables of lines: the mathematics, how they lie in the heap. Own text. -/
namespace L2.U
open PySem PySem.Spec PyProof.Rows RZ
abbrev Tab := List (Int × Int)
def rowAt (t : Tab) (i : Nat) : Int := (t.getD i (0, 0)).1
def lineAt (t : Tab) (i : Nat) : Int := (t.getD i (0, 0)).2
def dPair (p : Int × Int) : PyData := .tuple [.int p.1, .int p.2]
def dTab (t : Tab) : PyData := .list (t.map dPair)
def dInts (ns : List Int) : PyData := .list (ns.map .int)
section
variable {K : PySem.W.Frag} {H : Hp} {v : V}
theorem DpAll.ints_of : ∀ {ns : List Int} {xs : List V}, DpAll K H xs (ns.map .int) → xs = ns.map V.int
  | [], _, h => by cases h; rfl
  | n :: ns, _, h => by
    cases h with
    | cons h1 h2 =>
      cases h1
      rw [DpAll.ints_of h2]
      rfl
theorem DpAll.ints : ∀ ns : List Int, DpAll K H (ns.map V.int) (ns.map .int)
  | [] => .nil
  | n :: ns => .cons (.int n) (DpAll.ints ns)
theorem Dp.ints {a : Addr} {ns : List Int} (h : SqL K H a (ns.map V.int)) : Dp K H (.ref a) (dInts ns) := .lst h (DpAll.ints ns)
theorem Dp.ints_of {ns : List Int} (h : Dp K H v (dInts ns)) : ∃ a, v = .ref a ∧ SqL K H a (ns.map V.int) := by
  cases h with
  | lst hs ha =>
    rw [DpAll.ints_of ha] at hs
    exact ⟨_, rfl, hs⟩
theorem Dp.tab_of {t : Tab} (h : Dp K H v (dTab t)) : ∃ a xs, v = .ref a ∧ SqL K H a xs ∧ DpAll K H xs (t.map dPair) := by
  cases h with
  | lst hs ha => exact ⟨_, _, rfl, hs, ha⟩
theorem getD_of {t : Tab} {i : Nat} {p : Int × Int} (h : t[i]? = some p) : t.getD i (0, 0) = p := by rw [List.getD_eq_getElem?_getD, h]; rfl
theorem Dp.pair_of {p : Int × Int} (h : Dp K H v (dPair p)) : ∃ b, v = .ref b ∧ SqT K H b [.int p.1, .int p.2] := by
  cases h with
  | tup hs ha =>
    cases ha with
    | cons h1 h2 =>
      cases h2 with
      | cons h3 h4 =>
        cases h1
        cases h3
        cases h4
        exact ⟨_, rfl, hs⟩
theorem DpAll.pair {t : Tab} {xs : List V} {i : Nat} {x : V} (h : DpAll K H xs (t.map dPair)) (hi : xs[i]? = some x) : ∃ b, x = .ref b ∧ SqT K H b [.int (rowAt t i), .int (lineAt t i)] := by
  obtain ⟨d, e, hd⟩ := DpAll.get h hi
  rw [List.getElem?_map] at e
  obtain ⟨p, e1, rfl⟩ := Option.map_eq_some_iff.mp e
  obtain ⟨b, rfl, hs⟩ := Dp.pair_of hd
  refine ⟨b, rfl, ?_⟩
  unfold rowAt lineAt
  rw [getD_of e1]
  exact hs
theorem Dp.pair {b : Addr} {r l : Int} (h : SqT K H b [.int r, .int l]) : Dp K H (.ref b) (dPair (r, l)) := .tup h (.cons (.int r) (.cons (.int l) .nil))
theorem DpAll.app : ∀ {xs ys : List V} {ds es : List PyData}, DpAll K H xs ds → DpAll K H ys es → DpAll K H (xs ++ ys) (ds ++ es)
  | _, _, _, _, .nil, h => h
  | _, _, _, _, .cons h1 h2, h => .cons h1 (DpAll.app h2 h)
theorem DpAll.one {d : PyData} (h : Dp K H v d) : DpAll K H [v] [d] := .cons h .nil
theorem DpAll.at {xs : List V} {ds : List PyData} {i : Nat} {d : PyData} (h : DpAll K H xs ds) (hi : ds[i]? = some d) : ∃ x, xs[i]? = some x ∧ Dp K H x d := by
  have hl := DpAll.length h
  have hlt := (List.getElem?_eq_some_iff.mp hi).1
  obtain ⟨d', e1, e2⟩ := DpAll.get h (List.getElem?_eq_getElem (show i < xs.length by omega))
  rw [hi] at e1
  cases e1
  exact ⟨_, List.getElem?_eq_getElem (by omega), e2⟩
end
/-! ### good data -/
theorem canLayAll_ints : ∀ ns : List Int, PyData.canLayAll0 (ns.map .int) = true
  | [] => by simp [PyData.canLayAll0]
  | n :: ns => by simp only [List.map_cons, PyData.canLayAll0, PyData.canLay0, canLayAll_ints ns, Bool.and_self]
theorem depthAll_ints : ∀ ns : List Int, PyData.depthAll (ns.map .int) = 0
  | [] => by simp [PyData.depthAll]
  | n :: ns => by simp [PyData.depthAll, PyData.depth, depthAll_ints ns]
theorem shaped_ints (ns : List Int) : SeqAt.shaped (dInts ns) = true := by
  unfold SeqAt.shaped dInts
  rw [PyData.canLay0, canLayAll_ints, PyData.depth, depthAll_ints]
  rfl
theorem eqvAll_ints : ∀ ns ms : List Int, PyData.eqvAll (ns.map .int) (ms.map .int) = decide (ns = ms)
  | [], [] => by simp [PyData.eqvAll]
  | [], _ :: _ => by simp [PyData.eqvAll]
  | _ :: _, [] => by simp [PyData.eqvAll]
  | n :: ns, m :: ms => by
    simp only [List.map_cons, PyData.eqvAll, PyData.eqv, eqvAll_ints ns ms]
    by_cases h1 : n = m <;> by_cases h2 : ns = ms <;> simp [h1, h2]
theorem eqv_ints (ns ms : List Int) : PyData.eqv (dInts ns) (dInts ms) = decide (ns = ms) := by
  unfold dInts
  rw [PyData.eqv, eqvAll_ints]
theorem okD_ints {ns : List Int} (h : ns.length ≤ 1000000) (n : Nat) : OkD (n + 2) (dInts ns) := ⟨by rw [List.length_map]; exact h, fun d hd => by
  obtain ⟨i, _, rfl⟩ := List.mem_map.mp hd
  trivial⟩
theorem okD_pair (p : Int × Int) (n : Nat) : OkD (n + 2) (dPair p) := ⟨Nat.le_of_ble_eq_true rfl, fun d hd => by
  simp only [List.mem_cons, List.not_mem_nil, or_false] at hd
  rcases hd with rfl | rfl <;> trivial⟩
theorem okD_tab {t : Tab} (h : t.length ≤ 1000000) (n : Nat) : OkD (n + 3) (dTab t) := ⟨by rw [List.length_map]; exact h, fun d hd => by
  obtain ⟨p, _, rfl⟩ := List.mem_map.mp hd
  exact okD_pair p n⟩
/-! ### packing -/
def packTo (ls : List Int) : Nat → Tab
  | 0 => []
  | i + 1 => packTo ls i ++ (if i = 0 ∨ ls.getD i 0 ≠ ls.getD (i - 1) 0 then [((i : Int), ls.getD i 0)] else [])
def pack (ls : List Int) : Tab := packTo ls ls.length
/-! ### good tables -/
def GoodAt (t : Tab) (m : Int) (i : Nat) : Prop := 0 ≤ lineAt t i ∧ rowAt t i < m ∧ (i = 0 ∨ (rowAt t (i - 1) < rowAt t i ∧ lineAt t i ≠ lineAt t (i - 1)))
def Good (t : Tab) (m : Int) : Prop := 1 ≤ m ∧ m ≤ 400 ∧ 0 < t.length ∧ rowAt t 0 = 0 ∧ ∀ i, i < t.length → GoodAt t m i
theorem Good.row {t : Tab} {m : Int} (g : Good t m) : ∀ i, i < t.length → 0 ≤ rowAt t i ∧ rowAt t i < m := by
  intro i
  induction i with
  | zero => exact fun h => ⟨by rw [g.2.2.2.1]; exact Int.le_refl _, (g.2.2.2.2 0 h).2.1⟩
  | succ i ih =>
    intro h
    obtain ⟨_, h2, h3⟩ := g.2.2.2.2 (i + 1) h
    have h0 := ih (by omega)
    rcases h3 with h3 | ⟨h3, _⟩
    · cases h3
    · rw [Nat.add_sub_cancel] at h3
      exact ⟨by omega, h2⟩
theorem Good.rising {t : Tab} {m : Int} (g : Good t m) {i : Nat} (h : i + 1 < t.length) : rowAt t i < rowAt t (i + 1) := by
  obtain ⟨_, _, h3⟩ := g.2.2.2.2 (i + 1) h
  rcases h3 with h3 | ⟨h3, _⟩
  · cases h3
  · exact h3
/-! ### unpacking -/
def nextRow : Tab → Int → Int
  | [], m => m
  | p :: _, _ => p.1
def unpackL : Tab → Int → List Int
  | [], _ => []
  | p :: rest, m => List.replicate (nextRow rest m - p.1).toNat p.2 ++ unpackL rest m
theorem nextRow_drop (t : Tab) (m : Int) (i : Nat) : nextRow (t.drop i) m = if i < t.length then rowAt t i else m := by
  by_cases h : i < t.length
  · rw [if_pos h, List.drop_eq_getElem_cons h]
    show t[i].1 = _
    unfold rowAt
    rw [getD_of (List.getElem?_eq_getElem h)]
  · rw [if_neg h, List.drop_eq_nil_of_le (by omega)]
    rfl
theorem unpackL_drop (t : Tab) (m : Int) {i : Nat} (h : i < t.length) : unpackL (t.drop i) m = List.replicate ((if i + 1 < t.length then rowAt t (i + 1) else m) - rowAt t i).toNat (lineAt t i) ++ unpackL (t.drop (i + 1)) m := by
  have e : t.drop i = t[i] :: t.drop (i + 1) := List.drop_eq_getElem_cons h
  have e1 := getD_of (List.getElem?_eq_getElem h)
  rw [e, ← nextRow_drop]
  unfold rowAt lineAt
  rw [e1]
  rfl
theorem unpackL_snoc (m l : Int) : ∀ t : Tab, unpackL (t ++ [(m, l)]) (m + 1) = unpackL t m ++ [l]
  | [] => by
    show List.replicate (m + 1 - m).toNat l ++ [] = [] ++ [l]
    rw [show (m + 1 - m).toNat = 1 by omega]
    rfl
  | p :: rest => by
    have e : nextRow (rest ++ [(m, l)]) (m + 1) = nextRow rest m := by cases rest <;> rfl
    show List.replicate (nextRow (rest ++ [(m, l)]) (m + 1) - p.1).toNat p.2 ++ unpackL (rest ++ [(m, l)]) (m + 1) = (List.replicate (nextRow rest m - p.1).toNat p.2 ++ unpackL rest m) ++ [l]
    rw [e, unpackL_snoc m l rest, List.append_assoc]
theorem unpackL_more (m : Int) : ∀ t : Tab, t ≠ [] → rowAt t (t.length - 1) ≤ m → unpackL t (m + 1) = unpackL t m ++ [lineAt t (t.length - 1)]
  | [], h, _ => absurd rfl h
  | [p], _, h => by
    have h' : p.1 ≤ m := h
    show List.replicate (m + 1 - p.1).toNat p.2 ++ [] = (List.replicate (m - p.1).toNat p.2 ++ []) ++ [p.2]
    rw [List.append_nil, List.append_nil, show (m + 1 - p.1).toNat = (m - p.1).toNat + 1 by omega, List.replicate_succ']
  | p :: q :: rest, _, h => by
    have ih := unpackL_more m (q :: rest) (by simp) h
    show List.replicate (q.1 - p.1).toNat p.2 ++ unpackL (q :: rest) (m + 1) = (List.replicate (q.1 - p.1).toNat p.2 ++ unpackL (q :: rest) m) ++ [lineAt (q :: rest) ((q :: rest).length - 1)]
    rw [ih, List.append_assoc]
theorem getD_app_lt {t : Tab} {p : Int × Int} {j : Nat} (h : j < t.length) : (t ++ [p]).getD j (0, 0) = t.getD j (0, 0) := by
  rw [List.getD_eq_getElem?_getD, List.getD_eq_getElem?_getD, List.getElem?_append_left h]
theorem getD_app_eq {t : Tab} {p : Int × Int} : (t ++ [p]).getD t.length (0, 0) = p := by
  rw [List.getD_eq_getElem?_getD, List.getElem?_append_right (Nat.le_refl _), Nat.sub_self]
  rfl
/-- what a packing keeps -/
theorem packTo_keeps (ls : List Int) (hp : ∀ x ∈ ls, 0 ≤ x) : ∀ i, i < ls.length →
    (packTo ls (i + 1)) ≠ [] ∧ (packTo ls (i + 1)).length ≤ i + 1 ∧ rowAt (packTo ls (i + 1)) 0 = 0 ∧ (∀ j, j < (packTo ls (i + 1)).length → GoodAt (packTo ls (i + 1)) (i + 1 : Nat) j) ∧
      lineAt (packTo ls (i + 1)) ((packTo ls (i + 1)).length - 1) = ls.getD i 0 ∧ rowAt (packTo ls (i + 1)) ((packTo ls (i + 1)).length - 1) ≤ i ∧ unpackL (packTo ls (i + 1)) (i + 1 : Nat) = ls.take (i + 1) := by
  intro i
  have pos : ∀ j, j < ls.length → 0 ≤ ls.getD j 0 := fun j hj => by
    rw [List.getD_eq_getElem?_getD, List.getElem?_eq_getElem hj]
    exact hp _ (List.getElem_mem hj)
  have tk : ∀ j, j < ls.length → ls.take (j + 1) = ls.take j ++ [ls.getD j 0] := fun j hj => by
    rw [List.take_add_one, List.getElem?_eq_getElem hj, List.getD_eq_getElem?_getD, List.getElem?_eq_getElem hj]
    rfl
  induction i with
  | zero =>
    intro hi
    have e : packTo ls 1 = [(0, ls.getD 0 0)] := by
      show [] ++ (if (0 = 0 ∨ _) then _ else _) = _
      rw [if_pos (.inl rfl)]
      rfl
    rw [e]
    refine ⟨by simp, Nat.le_refl 1, rfl, fun j hj => ?_, rfl, Int.le_refl _, ?_⟩
    · have : j = 0 := by simp at hj; omega
      subst this
      exact ⟨pos 0 hi, by show (0 : Int) < 1; decide, .inl rfl⟩
    · rw [tk 0 hi]
      rfl
  | succ i ih =>
    intro hi
    obtain ⟨h1, h2, h3, h4, h5, h6, h7⟩ := ih (by omega)
    have hl : 0 < (packTo ls (i + 1)).length := List.length_pos_iff.mpr h1
    have ec : ((i + 1 + 1 : Nat) : Int) = ((i + 1 : Nat) : Int) + 1 := by omega
    have estep : packTo ls (i + 1 + 1) = packTo ls (i + 1) ++ (if i + 1 = 0 ∨ ls.getD (i + 1) 0 ≠ ls.getD (i + 1 - 1) 0 then [(((i + 1 : Nat) : Int), ls.getD (i + 1) 0)] else []) := rfl
    by_cases hne : ls.getD (i + 1) 0 ≠ ls.getD i 0
    · have e : packTo ls (i + 1 + 1) = packTo ls (i + 1) ++ [(((i + 1 : Nat) : Int), ls.getD (i + 1) 0)] := by
        rw [estep, if_pos (.inr (by rw [Nat.add_sub_cancel]; exact hne))]
      rw [e]
      generalize packTo ls (i + 1) = t at *
      have el : (t ++ [(((i + 1 : Nat) : Int), ls.getD (i + 1) 0)]).length = t.length + 1 := by simp
      refine ⟨by simp, by rw [el]; omega, ?_, fun j hj => ?_, ?_, ?_, ?_⟩
      · unfold rowAt
        rw [getD_app_lt hl]
        exact h3
      · rw [el] at hj
        by_cases hj2 : j < t.length
        · obtain ⟨g1, g2, g3⟩ := h4 j hj2
          unfold GoodAt rowAt lineAt at *
          rw [getD_app_lt hj2, getD_app_lt (show j - 1 < t.length by omega)]
          exact ⟨g1, by omega, g3⟩
        · have : j = t.length := by omega
          subst this
          unfold GoodAt rowAt lineAt at *
          rw [getD_app_eq, getD_app_lt (show t.length - 1 < t.length by omega)]
          exact ⟨pos (i + 1) hi, by show ((i + 1 : Nat) : Int) < _; omega, .inr ⟨by show _ < ((i + 1 : Nat) : Int); omega, by rw [h5]; exact hne⟩⟩
      · rw [el, Nat.add_sub_cancel]
        unfold lineAt
        rw [getD_app_eq]
      · rw [el, Nat.add_sub_cancel]
        unfold rowAt
        rw [getD_app_eq]
        exact Int.le_refl _
      · rw [ec, unpackL_snoc, h7, tk (i + 1) hi]
    · have hne' : ls.getD (i + 1) 0 = ls.getD i 0 := Decidable.not_not.mp hne
      have e : packTo ls (i + 1 + 1) = packTo ls (i + 1) := by
        rw [estep, if_neg (by rw [Nat.add_sub_cancel]; rintro (z | z); cases z; exact hne z), List.append_nil]
      rw [e]
      generalize packTo ls (i + 1) = t at *
      refine ⟨h1, by omega, h3, fun j hj => ?_, by rw [h5, hne'], by omega, ?_⟩
      · obtain ⟨g1, g2, g3⟩ := h4 j hj
        exact ⟨g1, by omega, g3⟩
      · rw [ec, unpackL_more _ _ h1 (by omega), h7, tk (i + 1) hi, h5, hne']
theorem pack_good {ls : List Int} (hp : ∀ x ∈ ls, 0 ≤ x) (h1 : 0 < ls.length) (h2 : ls.length ≤ 400) : Good (pack ls) ls.length ∧ unpackL (pack ls) ls.length = ls ∧ (pack ls).length ≤ ls.length := by
  obtain ⟨n, hn⟩ : ∃ n, ls.length = n + 1 := ⟨ls.length - 1, by omega⟩
  obtain ⟨a1, a2, a3, a4, _, _, a7⟩ := packTo_keeps ls hp n (by omega)
  unfold pack
  rw [hn]
  refine ⟨⟨by omega, by omega, List.length_pos_iff.mpr a1, a3, a4⟩, ?_, a2⟩
  rw [a7, ← hn, List.take_length]
theorem unpackL_len {t : Tab} {m : Int} (g : Good t m) : ∀ k i, i + k = t.length → ((unpackL (t.drop i) m).length : Int) = m - (if i < t.length then rowAt t i else m)
  | 0, i, h => by
    rw [List.drop_eq_nil_of_le (by omega), if_neg (by omega)]
    show (0 : Int) = _
    omega
  | k + 1, i, h => by
    have ih := unpackL_len g k (i + 1) (by omega)
    have hi : i < t.length := by omega
    rw [unpackL_drop t m hi, List.length_append, List.length_replicate, if_pos hi]
    have r1 := g.row i hi
    by_cases h2 : i + 1 < t.length
    · rw [if_pos h2] at ih ⊢
      have r2 := g.rising h2
      omega
    · rw [if_neg h2] at ih ⊢
      omega
theorem unpackL_len0 {t : Tab} {m : Int} (g : Good t m) : ((unpackL t m).length : Int) = m := by
  have h := unpackL_len g t.length 0 (by omega)
  rw [List.drop_zero, if_pos g.2.2.1, g.2.2.2.1] at h
  omega
theorem unpackL_split {t : Tab} {m : Int} (g : Good t m) : ∀ i, i ≤ t.length → ∃ X, unpackL t m = X ++ unpackL (t.drop i) m ∧ (X.length : Int) = (if i < t.length then rowAt t i else m)
  | 0, _ => ⟨[], rfl, by rw [if_pos g.2.2.1, g.2.2.2.1]; rfl⟩
  | i + 1, h => by
    obtain ⟨X, e, l⟩ := unpackL_split g i (by omega)
    have hi : i < t.length := by omega
    rw [if_pos hi] at l
    rw [unpackL_drop t m hi] at e
    refine ⟨X ++ List.replicate ((if i + 1 < t.length then rowAt t (i + 1) else m) - rowAt t i).toNat (lineAt t i), by rw [e, List.append_assoc], ?_⟩
    rw [List.length_append, List.length_replicate]
    have r1 := g.row i hi
    by_cases h2 : i + 1 < t.length
    · rw [if_pos h2]
      have r2 := g.rising h2
      omega
    · rw [if_neg h2]
      omega
/-- a row's line, by the pair whose rows it is among -/
theorem unpackL_at {t : Tab} {m : Int} (g : Good t m) {i : Nat} (hi : i < t.length) {r : Int} (h1 : rowAt t i ≤ r) (h2 : r < if i + 1 < t.length then rowAt t (i + 1) else m) : (unpackL t m)[r.toNat]? = some (lineAt t i) := by
  obtain ⟨X, e, l⟩ := unpackL_split g i (by omega)
  rw [if_pos hi] at l
  have r1 := g.row i hi
  rw [e, List.getElem?_append_right (by omega), unpackL_drop t m hi, List.getElem?_append_left (by rw [List.length_replicate]; omega), List.getElem?_replicate, if_pos (by omega)]
theorem flat_rep {α : Type} (x : α) : ∀ n, (List.replicate n [x]).flatten = List.replicate n x
  | 0 => rfl
  | n + 1 => by rw [List.replicate_succ, List.flatten_cons, flat_rep x n]; rfl
/-! ### promises -/
abbrev spPacked (K : PySem.W.Frag) : Sp := sp1 fun v H Q _ => ∃ (b : Addr) (ns : List Int), v = .ref b ∧ SqL K H b (ns.map V.int) ∧ ns.length ≤ 1000 ∧
  ∀ H' r xs, Same H H' → H r = none → H' r = some (.lst xs) → DpAll K (hid [r] H') xs ((pack ns).map dPair) → Q (.ref r) H'
abbrev spNeed (K : PySem.W.Frag) (cT : Addr) : Sp := sp2 fun t m H Q E => ∃ (tab : Tab) (many : Int), m = .int many ∧ Dp K H t (dTab tab) ∧ tab.length ≤ 1000 ∧
  (Good tab many → ∀ H', Same H H' → Q .non H') ∧ (¬ Good tab many → ∀ H', Same H H' → E (.ref cT) none H')
abbrev spUnpacked (K : PySem.W.Frag) (cT : Addr) : Sp := sp2 fun t m H Q E => ∃ (tab : Tab) (many : Int), m = .int many ∧ Dp K H t (dTab tab) ∧ tab.length ≤ 1000 ∧
  (Good tab many → ∀ H' r, Same H H' → H r = none → H' r = some (.lst ((unpackL tab many).map V.int)) → Q (.ref r) H') ∧ (¬ Good tab many → ∀ H', Same H H' → E (.ref cT) none H')
abbrev spLineAt (K : PySem.W.Frag) (cT cP : Addr) : Sp := sp3 fun t m r H Q E => ∃ (tab : Tab) (many row : Int), m = .int many ∧ r = .int row ∧ Dp K H t (dTab tab) ∧ tab.length ≤ 1000 ∧
  (Good tab many → ∀ H' v, Same H H' → 0 ≤ row → row < many → (unpackL tab many)[row.toNat]? = some v → Q (.int v) H') ∧ (¬ Good tab many → ∀ H', Same H H' → E (.ref cT) none H') ∧ (Good tab many → ¬ (0 ≤ row ∧ row < many) → ∀ H', Same H H' → E (.ref cP) none H')
/-- the rows of a line among those below n -/
def rowsOf (ls : List Int) (line : Int) : Nat → List Int
  | 0 => []
  | i + 1 => rowsOf ls line i ++ (if ls.getD i 0 = line then [(i : Int)] else [])
abbrev spRowsOf (K : PySem.W.Frag) (cT : Addr) : Sp := sp3 fun t m l H Q E => ∃ (tab : Tab) (many line : Int), m = .int many ∧ l = .int line ∧ Dp K H t (dTab tab) ∧ tab.length ≤ 1000 ∧
  (Good tab many → ∀ H' r, Same H H' → H r = none → H' r = some (.lst ((rowsOf (unpackL tab many) line (unpackL tab many).length).map V.int)) → Q (.ref r) H') ∧ (¬ Good tab many → ∀ H', Same H H' → E (.ref cT) none H')
end L2.U
/-! Tab8: whether a table is good, by the law; a row's line as the last pair's not behind it. Own text. -/
namespace L2.U
open PySem PySem.Spec PyProof.Rows RZ
def g1 (t : Tab) (m : Int) (i : Nat) : Bool := (decide (0 ≤ rowAt t i) && decide (rowAt t i < m)) && decide (0 ≤ lineAt t i)
def g2 (t : Tab) (i : Nat) : Bool := decide (rowAt t i < rowAt t (i + 1)) && !decide (V.int (lineAt t i) = V.int (lineAt t (i + 1)))
theorem good_of {t : Tab} {m : Int} (h1 : 1 ≤ m) (h2 : m ≤ 400) (h3 : t ≠ []) (h4 : rowAt t 0 = 0) (h5 : ∀ i, i < t.length → g1 t m i = true) (h6 : ∀ i, i < t.length - 1 → g2 t i = true) : Good t m := by
  refine ⟨h1, h2, List.length_pos_iff.mpr h3, h4, fun i hi => ?_⟩
  have a := h5 i hi
  unfold g1 at a
  simp only [Bool.and_eq_true, decide_eq_true_eq] at a
  refine ⟨a.2, a.1.2, ?_⟩
  cases i with
  | zero => exact .inl rfl
  | succ i =>
    have b := h6 i (by omega)
    unfold g2 at b
    simp only [Bool.and_eq_true, decide_eq_true_eq, Bool.not_eq_true', decide_eq_false_iff_not] at b
    exact .inr ⟨b.1, fun e => b.2 (by rw [Nat.add_sub_cancel] at e; rw [e])⟩
theorem Good.g1 {t : Tab} {m : Int} (g : Good t m) (i : Nat) (hi : i < t.length) : g1 t m i = true := by
  have r := g.row i hi
  have l := (g.2.2.2.2 i hi).1
  unfold U.g1
  simp only [Bool.and_eq_true, decide_eq_true_eq]
  exact ⟨r, l⟩
theorem Good.g2 {t : Tab} {m : Int} (g : Good t m) (i : Nat) (hi : i < t.length - 1) : g2 t i = true := by
  have r := g.rising (show i + 1 < t.length by omega)
  obtain ⟨_, _, h⟩ := g.2.2.2.2 (i + 1) (by omega)
  unfold U.g2
  simp only [Bool.and_eq_true, decide_eq_true_eq, Bool.not_eq_true', decide_eq_false_iff_not]
  refine ⟨r, fun e => ?_⟩
  rcases h with z | ⟨_, z⟩
  · cases z
  · exact z (by rw [Nat.add_sub_cancel]; exact (V.int.inj e).symm)
/-- the lines of the pairs whose row is not behind r -/
def fTo (t : Tab) (r : Int) : Nat → List Int
  | 0 => []
  | i + 1 => fTo t r i ++ (if rowAt t i ≤ r then [lineAt t i] else [])
theorem Good.mono {t : Tab} {m : Int} (g : Good t m) : ∀ k i, i + k < t.length → rowAt t i ≤ rowAt t (i + k)
  | 0, i, _ => Int.le_refl _
  | k + 1, i, h => by
    have a := g.mono k i (by omega)
    have b := g.rising (i := i + k) (by omega)
    rw [show i + (k + 1) = i + k + 1 by omega]
    omega
theorem Good.seg {t : Tab} {m : Int} (g : Good t m) {r : Int} (r0 : 0 ≤ r) : ∀ n, n < t.length → (∃ i, i < n ∧ rowAt t i ≤ r ∧ r < rowAt t (i + 1)) ∨ rowAt t n ≤ r
  | 0, h => .inr (by rw [g.2.2.2.1]; exact r0)
  | n + 1, h => by
    rcases g.seg r0 n (by omega) with ⟨i, a, b, c⟩ | b
    · exact .inl ⟨i, by omega, b, c⟩
    · by_cases c : rowAt t (n + 1) ≤ r
      · exact .inr c
      · exact .inl ⟨n, by omega, b, by omega⟩
theorem Good.at {t : Tab} {m : Int} (g : Good t m) {r : Int} (r0 : 0 ≤ r) (r1 : r < m) : ∃ i, i < t.length ∧ rowAt t i ≤ r ∧ r < (if i + 1 < t.length then rowAt t (i + 1) else m) := by
  have h := g.2.2.1
  rcases g.seg r0 (t.length - 1) (by omega) with ⟨i, a, b, c⟩ | b
  · exact ⟨i, by omega, b, by rw [if_pos (by omega)]; exact c⟩
  · exact ⟨t.length - 1, by omega, b, by rw [if_neg (by omega)]; exact r1⟩
theorem fTo_last {t : Tab} {m : Int} (g : Good t m) {r : Int} {i : Nat} (hi : i < t.length) (h1 : rowAt t i ≤ r) (h2 : r < (if i + 1 < t.length then rowAt t (i + 1) else m)) : ∀ n, i < n → n ≤ t.length → ∃ X, fTo t r n = X ++ [lineAt t i]
  | 0, h, _ => absurd h (Nat.not_lt_zero _)
  | n + 1, h, hn => by
    show ∃ X, fTo t r n ++ (if rowAt t n ≤ r then [lineAt t n] else []) = X ++ [lineAt t i]
    by_cases e : n = i
    · subst e
      rw [if_pos h1]
      exact ⟨_, rfl⟩
    · have hin : i < n := by omega
      obtain ⟨X, ih⟩ := fTo_last g hi h1 h2 n hin (by omega)
      rw [if_pos (by omega)] at h2
      have mo := g.mono (n - (i + 1)) (i + 1) (by omega)
      rw [show i + 1 + (n - (i + 1)) = n by omega] at mo
      rw [if_neg (by omega), ih, List.append_nil]
      exact ⟨X, rfl⟩
theorem fTo_len (t : Tab) (r : Int) : ∀ n, (fTo t r n).length ≤ n
  | 0 => Nat.le_refl _
  | n + 1 => by
    have := fTo_len t r n
    show (fTo t r n ++ _).length ≤ n + 1
    rw [List.length_append]
    split
    · exact Nat.add_le_add_right this 1
    · exact Nat.le_succ_of_le this
/-- the law's own line of a row -/
theorem fTo_line {t : Tab} {m : Int} (g : Good t m) {r : Int} (r0 : 0 ≤ r) (r1 : r < m) : ∃ X, ∃ l, fTo t r t.length = X ++ [l] ∧ (unpackL t m)[r.toNat]? = some l := by
  obtain ⟨i, hi, a, b⟩ := g.at r0 r1
  obtain ⟨X, e⟩ := fTo_last g hi a b t.length hi (Nat.le_refl _)
  exact ⟨X, _, e, unpackL_at g hi a b⟩
/-- what is due -/
noncomputable def dueD (t : Tab) (m s : Int) (c : Int) : PyData := open Classical in
  if Good t m then (if c = 0 then dInts (unpackL t m) else if c = 1 then (if 0 ≤ s ∧ s < m then .int ((unpackL t m).getD s.toNat 0) else .str (Str.ofString "BadPlace")) else dInts (rowsOf (unpackL t m) s (unpackL t m).length))
  else .str (Str.ofString "BadTable")
theorem canLay_pairs : ∀ t : Tab, PyData.canLayAll0 (t.map dPair) = true
  | [] => by simp [PyData.canLayAll0]
  | p :: t => by simp [PyData.canLayAll0, PyData.canLay0, dPair, canLay_pairs t]
theorem depth_pairs : ∀ t : Tab, PyData.depthAll (t.map dPair) ≤ 1
  | [] => by simp [PyData.depthAll]
  | p :: t => by
    have := depth_pairs t
    simp [PyData.depthAll, PyData.depth, dPair]
    omega
theorem canLay_tab (t : Tab) : (dTab t).canLay0 = true := by
  unfold dTab
  rw [PyData.canLay0, canLay_pairs]
theorem shaped_tab (t : Tab) : SeqAt.shaped (dTab t) = true := by
  have h := depth_pairs t
  unfold SeqAt.shaped
  rw [canLay_tab, Bool.true_and]
  unfold dTab
  rw [PyData.depth]
  exact decide_eq_true (by omega)
theorem noL_tab8 : ∀ t : Tab, noLAll (t.map dPair) = true
  | [] => by simp [noLAll]
  | p :: t => by simp [noLAll, noL, dPair, noL_tab8 t]
theorem rowsOf_len8 (ls : List Int) (l : Int) : ∀ n, (rowsOf ls l n).length ≤ n
  | 0 => Nat.le_refl _
  | n + 1 => by
    have := rowsOf_len8 ls l n
    show (rowsOf ls l n ++ _).length ≤ n + 1
    rw [List.length_append]
    split
    · exact Nat.add_le_add_right this 1
    · exact Nat.le_succ_of_le this
abbrev spFar : Sp := sp1 fun d H Q _ => ∃ p a : Addr, d = .ref p ∧ Draw H p a ∧ ∀ H' n, Keep p H H' → Draw H' p a → Q (.int n) H'
abbrev spTable (K : PySem.W.Frag) : Sp := sp1 fun d H Q _ => ∃ p a : Addr, d = .ref p ∧ Draw H p a ∧ ∀ (H' : Hp) (r : Addr) (xs : List V) (t : Tab), Keep p H H' → Draw H' p a → H r = none → H' r = some (.lst xs) → DpAll K (hid [p, r] H') xs (t.map dPair) → 1 ≤ t.length → t.length ≤ 8 → Q (.ref r) H'
abbrev spGood (K : PySem.W.Frag) : Sp := sp2 fun v m H Q _ => ∃ (t : Tab) (many : Int), m = .int many ∧ Dp K H v (dTab t) ∧ t.length ≤ 1000 ∧ (Good t many → ∀ H', Same H H' → Q (.bl true) H') ∧ (¬ Good t many → ∀ H', Same H H' → Q (.bl false) H')
abbrev spTold8 (K : PySem.W.Frag) : Sp := sp4 fun c v m s H Q _ => ∃ (t : Tab) (choice many spot : Int), c = .int choice ∧ m = .int many ∧ s = .int spot ∧ Dp K H v (dTab t) ∧ t.length ≤ 1000 ∧ ∀ H' u, Same H H' → Dp K H' u (dueD t many spot choice) → Q u H'
end L2.U
namespace L2.U
open PySem PySem.Spec PyProof.Rows RZ TL
def topS (i : Nat) : Stmt := PySem.Challenge.pw_hindstep_k08_tables_asked_and_refused.main.body.getD i (.Pass ⟨0, 0, 0, 0⟩)
abbrev s_need_table : Stmt := topS 6
theorem sc_need_table : FnScope ["table", "many", "at", "row", "line"] ["table", "many"] (defScope s_need_table) := ⟨rfl, rfl, rfl, by decide +kernel, rfl, by decide +kernel, by decide +kernel⟩
abbrev s_unpacked : Stmt := topS 7
theorem sc_unpacked : FnScope ["table", "many", "found", "at", "row", "line", "behind"] ["table", "many"] (defScope s_unpacked) := ⟨rfl, rfl, rfl, by decide +kernel, rfl, by decide +kernel, by decide +kernel⟩
abbrev s_line_at : Stmt := topS 8
theorem sc_line_at : FnScope ["table", "many", "row", "low", "high", "middle"] ["table", "many", "row"] (defScope s_line_at) := ⟨rfl, rfl, rfl, by decide +kernel, rfl, by decide +kernel, by decide +kernel⟩
abbrev s_rows_of : Stmt := topS 9
theorem sc_rows_of : FnScope ["table", "many", "line", "row", "own"] ["table", "many", "line"] (defScope s_rows_of) := ⟨rfl, rfl, rfl, by decide +kernel, rfl, by decide +kernel, by decide +kernel⟩
abbrev s_law_begin : Stmt := topS 11
theorem sc_law_begin : FnScope ["_law_script"] ["_law_script"] (defScope s_law_begin) := ⟨rfl, rfl, rfl, by decide +kernel, rfl, by decide +kernel, by decide +kernel⟩
abbrev s_law_take : Stmt := topS 12
theorem sc_law_take : FnScope ["_law_draw", "_law_sides", "_law_cell", "_law_got"] ["_law_draw", "_law_sides"] (defScope s_law_take) := ⟨rfl, rfl, rfl, by decide +kernel, rfl, by decide +kernel, by decide +kernel⟩
abbrev s_law_same : Stmt := topS 13
theorem sc_law_same : FnScope ["_law_found", "_law_due", "_law_one_here", "_law_other"] ["_law_found", "_law_due"] (defScope s_law_same) := ⟨rfl, rfl, rfl, by decide +kernel, rfl, by decide +kernel, by decide +kernel⟩
abbrev s_law_far : Stmt := topS 14
theorem sc_law_far : FnScope ["_law_draw", "_law_number"] ["_law_draw"] (defScope s_law_far) := ⟨rfl, rfl, rfl, by decide +kernel, rfl, by decide +kernel, by decide +kernel⟩
abbrev s_law_one : Stmt := topS 15
theorem sc_law_one : FnScope ["_law_draw", "_law_row"] ["_law_draw", "_law_row"] (defScope s_law_one) := ⟨rfl, rfl, rfl, by decide +kernel, rfl, by decide +kernel, by decide +kernel⟩
abbrev s_law_table : Stmt := topS 16
theorem sc_law_table : FnScope ["_law_draw", "_law_found", "_law_row", "_law_k", "_law_at", "_law_pair"] ["_law_draw"] (defScope s_law_table) := ⟨rfl, rfl, rfl, by decide +kernel, rfl, by decide +kernel, by decide +kernel⟩
abbrev s_law_table_good : Stmt := topS 17
theorem sc_law_table_good : FnScope ["_law_table_here", "_law_many", "_law_at", "_law_row", "_law_line"] ["_law_table_here", "_law_many"] (defScope s_law_table_good) := ⟨rfl, rfl, rfl, by decide +kernel, rfl, by decide +kernel, by decide +kernel⟩
abbrev s_law_told : Stmt := topS 18
theorem sc_law_told : FnScope ["_law_choice", "_law_table_here", "_law_many", "_law_spot"] ["_law_choice", "_law_table_here", "_law_many", "_law_spot"] (defScope s_law_told) := ⟨rfl, rfl, rfl, by decide +kernel, rfl, by decide +kernel, by decide +kernel⟩
abbrev s_law : Stmt := topS 19
theorem sc_law : FnScope ["_law_script", "_law_draw", "_law_k", "_law_table_here", "_law_many", "_law_at", "_law_spot", "_law_due", "_law_lines", "_law_row", "_law_choice", "_law_handed", "_law_r", "_law_first", "_law_line"] ["_law_script"] (defScope s_law) := ⟨rfl, rfl, rfl, by decide +kernel, rfl, by decide +kernel, by decide +kernel⟩
structure Blt (mg : Str → Option Value) : Prop where
  abs : mg "abs" = none
  all : mg "all" = none
  bool : mg "bool" = none
  enumerate : mg "enumerate" = none
  isinstance : mg "isinstance" = none
  len : mg "len" = none
  list : mg "list" = none
  range : mg "range" = none
  str : mg "str" = none
  tuple : mg "tuple" = none
  zip : mg "zip" = none
section
variable {P : Program} {w : World} {K : PySem.W.Frag} {mg : Str → Option Value} {base : Heap}
local macro_rules | `(tactic| walk_at "rd1") => `(tactic| first
  | with_reducible refine s_var (by with_unfolding_all exact rfl) ?_
  | with_reducible refine s_c ?_ | with_reducible refine s_op ?_ | with_reducible refine s_cons ?_ | with_reducible refine s_nil ?_
  | with_reducible refine s_nx ?_ | with_reducible refine s_rt ?_ | with_reducible refine s_seq ?_ | with_reducible refine s_test ?_ | with_reducible refine s_bl ?_
  | with_reducible refine s_add ?_ | with_reducible refine s_sub ?_ | with_reducible refine s_lt ?_ | with_reducible refine s_le ?_ | with_reducible refine s_ge ?_ | with_reducible refine s_gt ?_
  | with_reducible refine s_and ?_ | with_reducible refine s_or ?_ | with_reducible refine s_not ?_ | with_reducible refine s_cb ?_ | with_reducible refine s_ret ?_ | with_reducible refine s_ifS ?_ | with_reducible refine s_if ?_
  | with_reducible refine s_asg ?_ | with_reducible refine s_gName ?_ | with_reducible refine s_gSub ?_ | with_reducible refine s_drop ?_ | with_reducible refine s_next ?_
  | with_reducible refine s_abs ?_ | with_reducible refine s_call ?_ | with_reducible refine s_sp1 ?_ | with_reducible refine s_sp2 ?_ | with_reducible refine s_sp3 ?_
  | with_reducible refine s_tup ?_ | with_reducible refine s_lst ?_ | with_reducible refine s_sl ?_ | with_reducible refine s_noPart ?_ | with_reducible refine s_part ?_ | with_reducible refine s_partI ?_
  | with_reducible refine s_tr ?_ | with_reducible refine s_truB ?_ | with_reducible refine s_lc ?_ | with_reducible refine s_iStr ?_ | with_reducible refine s_str ?_ | with_reducible refine s_iRng1 ?_ | with_reducible refine s_iList ?_ | with_reducible refine s_iTup ?_ | with_reducible refine s_iZipA ?_
  | with_reducible refine s_for ?_ | with_reducible refine s_sp4 ?_ | with_reducible refine s_sq4 ?_ | with_reducible refine s_try ?_ | with_reducible refine s_lstRg ?_ | with_reducible refine s_prg1 ?_ | with_reducible refine s_enum ?_ | with_reducible refine s_bm ?_ | with_reducible refine s_bm0 ?_ | with_reducible refine s_callS ?_ | with_reducible refine s_sq1 ?_ | with_reducible refine s_sq2 ?_ | with_reducible refine s_sq3 ?_ | with_reducible refine s_ipI ?_ | with_reducible refine s_aug (by with_unfolding_all exact rfl) ?_ | with_reducible refine s_yes ?_ | with_reducible refine s_m1 ?_ | with_reducible refine s_m0 ?_ | with_reducible refine s_isStr ?_ | with_reducible refine s_isN ?_ | with_reducible refine s_notN ?_ | with_reducible refine s_chain ?_ | with_reducible refine s_andV ?_ | with_reducible refine s_orV ?_ | with_reducible refine s_notV ?_ | with_reducible refine s_un ?_ | with_reducible refine s_neg ?_)
local macro_rules | `(tactic| walk_at "rd") => `(tactic| repeat walk_at "rd1")
theorem ok_need {t_MOST : Tok} {c_BadTable : Addr} (D : DefAt K mg "need_table" s_need_table ["table", "many"]) (B : Blt mg) (C_MOST : mg "MOST" = some (.int 400 t_MOST)) (X_BadTable : ExcAt K mg "BadTable" c_BadTable) :
    OkF P w K mg base (L2.CX P w) 1 "need_table" ["table", "many"] (spNeed K c_BadTable) := by
  refine D.okX sc_need_table len2 (fun f cdv A outer s H vs Q E hr h => ?_)
  obtain ⟨_, _, rfl, tab, many, rfl, hT, hl, qg, qb⟩ := h
  obtain ⟨a, xs, rfl, hS, hD⟩ := Dp.tab_of hT
  have hxl : xs.length = tab.length := by rw [DpAll.length hD, List.length_map]
  refine ⟨_, (pss_cons (ps_if (PW.pt (pw_or (pt_not (pt_chain o_le o_le pe_int (pv 1) (pe_glob (v := .int 400) (by rfl) C_MOST ⟨_, rfl⟩))) (pw_or (pt_cmpR (o_eq (K := K) hr.units) (pe_callB (u_len (K := K)) (by rfl) B.len (by decide +kernel) (pa_cons (pv 0) pa_nil)) pe_int (nomark _)) (pw_or1 (pt_cmpR (o_ne (K := K) hr.units) (pe_ix (u_ix (K := K)) (pe_ix (u_ix (K := K)) (pv 0) pe_int (fun _ _ => rfl)) pe_int (fun _ _ => rfl)) pe_int (nomark _)))))) (pss_one (ps_raise rfl (takes_of rfl rfl rfl rfl) (u_exc X_BadTable))) pss_nil)
    (pss_one (ps_for (passes_of rfl) (by rfl) (u_enum (K := K) B.enumerate (pa_cons (pv 0) pa_nil)) (u_tup (K := K) rfl (pgs_cons (pg_name (i := 2) sc_need_table.nd rfl (by first | exact .inl rfl | exact .inr rfl)) (pgs_cons (u_tup (K := K) rfl (pgs_cons (pg_name (i := 3) sc_need_table.nd rfl (by first | exact .inl rfl | exact .inr rfl)) (pgs_cons (pg_name (i := 4) sc_need_table.nd rfl (by first | exact .inl rfl | exact .inr rfl)) pgs_nil))) pgs_nil))) (pss_cons (ps_if (PW.pt (pw_or (pt_cmpR o_lt (pv 4) pe_int (nomark _)) (pw_or1 (pt_cmpR o_ge (pv 3) (pv 1) (nomark _))))) (pss_one (ps_raise rfl (takes_of rfl rfl rfl rfl) (u_exc X_BadTable))) pss_nil)
    (pss_one (ps_if (PW.pt (pw_and (pt_cmpR o_gt (pv 2) pe_int (nomark _)) (pw_and1 (PW.pt (pw_or (pt_cmpR o_le (pv 3) (pe_ix (u_ix (K := K)) (pe_ix (u_ix (K := K)) (pv 0) (pe_op o_sub (pv 2) pe_int) (fun _ _ => rfl)) pe_int (fun _ _ => rfl)) (nomark _)) (pw_or1 (pt_cmpR (o_eq (K := K) hr.units) (pv 4) (pe_ix (u_ix (K := K)) (pe_ix (u_ix (K := K)) (pv 0) (pe_op o_sub (pv 2) pe_int) (fun _ _ => rfl)) pe_int (fun _ _ => rfl)) (nomark _)))))))) (pss_one (ps_raise rfl (takes_of rfl rfl rfl rfl) (u_exc X_BadTable))) pss_nil)))))), ?_⟩
  refine s_start (σ' := [some (.ref a), some (.int many), none, none, none]) rfl ?_
  walk_at "rd"
  have bad0 : ¬ Good tab many → ∀ (DD : Ends) (σ : St), (fun (_ : Ends) (_ : St) (H : Hp) => E (.ref c_BadTable) none H) DD σ H := fun ng _ _ => qb ng H (Same.refl _)
  have loop : 1 ≤ many → many ≤ 400 → 0 < tab.length → rowAt tab 0 = 0 → forB (Ite K a) (gTup K 2 (gCons (gName 2) (gCons (gTup K 2 (gCons (gName 3) (gCons (gName 4) gNil))) gNil)))
      (tSeq (tIfS (tOr (tTest (tOp rLtU (tVar 4) (tC (.int 0)))) (tTest (tOp rGeU (tVar 3) (tVar 1)))) (fun _ σ H => E (.ref c_BadTable) none H) tNext)
        (tIfS (tAnd (tTest (tOp rGtU (tVar 2) (tC (.int 0)))) (tOr (tTest (tOp rLeU (tVar 3) (tOp (rIx K) (tOp (rIx K) (tVar 0) (tOp rSubU (tVar 2) (tC (.int 1)))) (tC (.int 0))))) (tTest (tOp (rEqU K) (tVar 4) (tOp (rIx K) (tOp (rIx K) (tVar 0) (tOp rSubU (tVar 2) (tC (.int 1)))) (tC (.int 1))))))) (fun _ σ H => E (.ref c_BadTable) none H) tNext))
      ⟨fun _ H' => Q .non H', Q, fun _ _ => False, fun _ _ => False⟩ [some (.ref a), some (.int many), none, none, none] H := by
    intro m1 m2 l0 r0
    refine forB_of tab.length (fun i σ H' => ∃ x y z, σ = [some (.ref a), some (.int many), x, y, z] ∧ Same H H' ∧ ∀ j, j < i → GoodAt tab many j) ⟨none, none, none, rfl, Same.refl _, fun j hj => nomatch hj⟩ ?_ ?_ ?_ ?_
    · rintro i σ H' hi ⟨x, y, z, rfl, sm, _⟩
      exact ⟨xs, xs[i], sm.seq hS, List.getElem?_eq_getElem _⟩
    · rintro σ H' ⟨x, y, z, rfl, sm, _⟩
      exact ⟨xs, sm.seq hS, by omega⟩
    · rintro i σ H' v _ hi ⟨x, y, z, rfl, sm, gd⟩ ⟨T, u, rfl, nT, rfl, hu⟩
      have hx := hu xs (sm.seq hS)
      obtain ⟨b, rfl, hb⟩ := DpAll.pair hD hx
      have sT := sm.trans (same_upd (o := .tup [.int (i : Nat), .ref b]) nT)
      have eT : SqT K (upd H' T (.tup [.int (i : Nat), .ref b])) T [.int (i : Nat), .ref b] := SqT.of upd_same
      generalize upd H' T (.tup [.int (i : Nat), .ref b]) = H2 at sT eT ⊢
      refine s_gTup eT rfl (s_gCons (s_gName (s_gCons (s_gTup (Same.sqT sT hb) rfl (s_gCons (s_gName (s_gCons (s_gName (s_gNil (s_gNil ?_)))))) ))))
      have stop : ¬ GoodAt tab many i → E (.ref c_BadTable) none H2 := fun ng => qb (fun g => ng (g.2.2.2.2 i hi)) H2 sT
      walk_at "rd"
      refine br (fun c1 => ?_) (fun c1 => ?_)
      · refine iteT ?_
        exact stop fun g => absurd g.1 (by omega)
      walk_at "rd"
      refine br (fun c2 => ?_) (fun c2 => ?_)
      · exact stop fun g => absurd g.2.1 (by omega)
      walk_at "rd"
      refine br (fun c3 => ?_) (fun c3 => ?_)
      · have hj : i - 1 < xs.length := by omega
        obtain ⟨b1, eb1, hb1⟩ := DpAll.pair hD (List.getElem?_eq_getElem hj)
        have e1 : atI xs ((i : Int) - 1) = some (.ref b1) := at_of (j := i - 1) (by omega) (by rw [List.getElem?_eq_getElem hj, eb1])
        walk_at "rd"
        refine s_ixL (sT.seq hS) e1 ?_
        walk_at "rd"
        refine s_ixT (Same.sqT sT hb1) rfl ?_
        walk_at "rd"
        refine br (fun c4 => ?_) (fun c4 => ?_)
        · refine iteT ?_
          exact stop fun g => by
            rcases g.2.2 with z | ⟨z, _⟩ <;> omega
        walk_at "rd"
        refine s_ixL (sT.seq hS) e1 ?_
        walk_at "rd"
        refine s_ixT (Same.sqT sT hb1) rfl ?_
        refine s_eq rfl ?_
        walk_at "rd"
        refine br (fun c5 => ?_) (fun c5 => ?_)
        · exact stop fun g => by
            rcases g.2.2 with z | ⟨_, z⟩
            · omega
            · exact z (V.int.inj c5)
        walk_at "rd"
        refine ⟨_, _, _, rfl, sT, fun j hj => ?_⟩
        by_cases hji : j < i
        · exact gd j hji
        · have : j = i := by omega
          subst this
          exact ⟨by omega, by omega, .inr ⟨by omega, fun z => c5 (by rw [z])⟩⟩
      · refine iteF ?_
        walk_at "rd"
        refine ⟨_, _, _, rfl, sT, fun j hj => ?_⟩
        by_cases hji : j < i
        · exact gd j hji
        · have : j = i := by omega
          subst this
          exact ⟨by omega, by omega, .inl (by omega)⟩
    · rintro σ H' ⟨x, y, z, rfl, sm, gd⟩
      exact qg ⟨m1, m2, l0, r0, gd⟩ H' sm
  refine br (fun c1 => ?_) (fun c1 => ?_)
  · walk_at "rd"
    refine brB (fun c2 => ?_) (fun c2 => ?_)
    · refine iteT ?_
      exact bad0 (fun g => absurd c2 (by rw [decide_eq_true g.2.1]; decide)) ⟨fun _ _ => False, Q, fun _ _ => False, fun _ _ => False⟩ []
    have m2 : many ≤ 400 := by
      by_cases h : many ≤ 400
      · exact h
      · rw [decide_eq_false h] at c2
        exact absurd c2 (by decide)
    walk_at "rd"
    refine s_lenL hS ?_
    walk_at "rd"
    refine s_eq rfl ?_
    walk_at "rd"
    refine br (fun c3 => ?_) (fun c3 => ?_)
    · refine iteT ?_
      exact bad0 (fun g => absurd g.2.2.1 (by have := V.int.inj c3; omega)) ⟨fun _ _ => False, Q, fun _ _ => False, fun _ _ => False⟩ []
    have l0 : 0 < tab.length := by
      rcases Nat.eq_zero_or_pos tab.length with z | z
      · exact absurd (by rw [hxl, z]; rfl) c3
      · exact z
    obtain ⟨b1, eb1, hb1⟩ := DpAll.pair hD (List.getElem?_eq_getElem (show 0 < xs.length by omega))
    walk_at "rd"
    refine s_ixL hS (at_of (j := 0) rfl (by rw [List.getElem?_eq_getElem (show 0 < xs.length by omega), eb1])) ?_
    walk_at "rd"
    refine s_ixT hb1 rfl ?_
    walk_at "rd"
    refine s_ne rfl ?_
    walk_at "rd"
    refine brN (fun c4 => ?_) (fun c4 => ?_)
    · exact bad0 (fun g => c4 (by rw [g.2.2.2.1])) ⟨fun _ _ => False, Q, fun _ _ => False, fun _ _ => False⟩ []
    walk_at "rd"
    refine s_enumL hS ?_
    exact loop c1 m2 l0 (V.int.inj c4)
  · refine s_bl ?_
    refine iteT ?_
    refine iteT ?_
    exact bad0 (fun g => c1 g.1) ⟨fun _ _ => False, Q, fun _ _ => False, fun _ _ => False⟩ []
theorem ok_unpacked {c_BadTable : Addr} (D : DefAt K mg "unpacked" s_unpacked ["table", "many"]) (B : Blt mg) (G_need_table : OkF P w K mg base (L2.CX P w) 1 "need_table" ["table", "many"] (spNeed K c_BadTable)) :
    OkF P w K mg base (L2.CX P w) 2 "unpacked" ["table", "many"] (spUnpacked K c_BadTable) := by
  refine D.okX sc_unpacked len2 (fun f cdv A outer s H vs Q E hr h => ?_)
  obtain ⟨_, _, rfl, tab, many, rfl, hT, hl, qg, qb⟩ := h
  obtain ⟨a, xs, rfl, hS, hD⟩ := Dp.tab_of hT
  have hxl : xs.length = tab.length := by rw [DpAll.length hD, List.length_map]
  refine ⟨_, (pss_cons (ps_expr (u_call G_need_table (hr.mono (by omega)) (passes_call (takes_of rfl rfl rfl rfl) (fun _ _ _ _ h => h)) (pa_cons (pv 0) (pa_cons (pv 1) pa_nil))))
    (pss_cons (ps_set (i := 2) sc_unpacked.nd rfl (by first | exact .inl rfl | exact .inr rfl) (pe_lst pa_nil))
    (pss_cons (ps_for (passes_of rfl) (by rfl) (u_enum (K := K) B.enumerate (pa_cons (pv 0) pa_nil)) (u_tup (K := K) rfl (pgs_cons (pg_name (i := 3) sc_unpacked.nd rfl (by first | exact .inl rfl | exact .inr rfl)) (pgs_cons (u_tup (K := K) rfl (pgs_cons (pg_name (i := 4) sc_unpacked.nd rfl (by first | exact .inl rfl | exact .inr rfl)) (pgs_cons (pg_name (i := 5) sc_unpacked.nd rfl (by first | exact .inl rfl | exact .inr rfl)) pgs_nil))) pgs_nil))) (pss_cons (ps_set (i := 6) sc_unpacked.nd rfl (by first | exact .inl rfl | exact .inr rfl) (pe_ifExp (pt_cmpR o_lt (pe_op (o_add (K := K)) (pv 3) pe_int) (pe_callB (u_len (K := K)) (by rfl) B.len (by decide +kernel) (pa_cons (pv 0) pa_nil)) (nomark _)) (pe_ix (u_ix (K := K)) (pe_ix (u_ix (K := K)) (pv 0) (pe_op (o_add (K := K)) (pv 3) pe_int) (fun _ _ => rfl)) pe_int (fun _ _ => rfl)) (pv 1)))
    (pss_one (ps_aug (i := 2) sc_unpacked.nd rfl (by first | exact .inl rfl | exact .inr rfl) (pe_op o_mul (pe_lst (pa_cons (pv 5) pa_nil)) (pe_op o_sub (pv 6) (pv 4))) ip_addU))))
    (pss_one (ps_ret (pv 2)))))), ?_⟩
  refine s_start (σ' := [some (.ref a), some (.int many), none, none, none, none, none]) rfl ?_
  walk_at "rd"
  refine ⟨tab, many, rfl, hT, hl, fun g H1 s1 => ?_, fun ng H1 s1 => qb ng H1 s1⟩
  walk_at "rd"
  refine ⟨sz rfl, fun r nr => ?_⟩
  walk_at "rd"
  have hlen := unpackL_len0 g
  have m4 := g.2.1
  have n0 : H r = none := s1.free nr
  have h0 : Same H (hid [r] (upd H1 r (.lst []))) := by
    rw [hid_up List.mem_cons_self, hid_new nr, hid_nil]
    exact s1
  have e0 : upd H1 r (.lst []) r = some (.lst []) := upd_same
  generalize upd H1 r (.lst []) = H2 at h0 e0 ⊢
  refine s_enumL (hid_same.seq (h0.seq hS)) ?_
  refine forB_of tab.length (fun i σ H' => ∃ x y z u ys, σ = [some (.ref a), some (.int many), some (.ref r), x, y, z, u] ∧ Same H (hid [r] H') ∧ H' r = some (.lst (ys.map V.int)) ∧ ys ++ unpackL (tab.drop i) many = unpackL tab many) ⟨none, none, none, none, [], rfl, h0, e0, rfl⟩ ?_ ?_ ?_ ?_
  · rintro i σ H' hi ⟨x, y, z, u, ys, rfl, sm, _⟩
    exact ⟨xs, xs[i], hid_same.seq (sm.seq hS), List.getElem?_eq_getElem _⟩
  · rintro σ H' ⟨x, y, z, u, ys, rfl, sm, _⟩
    exact ⟨xs, hid_same.seq (sm.seq hS), by omega⟩
  · rintro i σ H' v _ hi ⟨x, y, z, u, ys, rfl, sm, er, ey⟩ ⟨T, u2, rfl, nT, rfl, hu⟩
    have hx := hu xs (hid_same.seq (sm.seq hS))
    obtain ⟨b, rfl, hb⟩ := DpAll.pair hD hx
    have sT0 := same_upd (o := .tup [.int (i : Nat), .ref b]) nT
    have sT : Same H (hid [r] (upd H' T (.tup [.int (i : Nat), .ref b]))) := sm.trans (Same.hid sT0)
    have eT : SqT K (upd H' T (.tup [.int (i : Nat), .ref b])) T [.int (i : Nat), .ref b] := SqT.of upd_same
    have er2 := sT0 _ _ er
    generalize upd H' T (.tup [.int (i : Nat), .ref b]) = H3 at sT eT er2 ⊢
    have sT2 : Same H H3 := sT.trans hid_same
    refine s_gTup eT rfl (s_gCons (s_gName (s_gCons (s_gTup (Same.sqT sT2 hb) rfl (s_gCons (s_gName (s_gCons (s_gName (s_gNil (s_gNil ?_)))))) ))))
    have hys : ys.length ≤ 400 := by
      have := congrArg List.length ey
      rw [List.length_append] at this
      omega
    have ud := unpackL_drop tab many hi
    have r1 := g.row i hi
    have fin : ∀ (be : Int) (bv : Option V), be = (if i + 1 < tab.length then rowAt tab (i + 1) else many) → (tAug 2 (tOp rMulU (tLst (tCons (tVar 5) tNil)) (tOp rSubU (tVar 6) (tVar 4))) ipU)
        ⟨fun σ H' => ∃ x y z u ys, σ = [some (.ref a), some (.int many), some (.ref r), x, y, z, u] ∧ Same H (hid [r] H') ∧ H' r = some (.lst (ys.map V.int)) ∧ ys ++ unpackL (tab.drop (i + 1)) many = unpackL tab many, Q, tRet (tVar 2) { nx := fun _ H' => Q V.non H', rt := Q },
         fun σ H' => ∃ x y z u ys, σ = [some (.ref a), some (.int many), some (.ref r), x, y, z, u] ∧ Same H (hid [r] H') ∧ H' r = some (.lst (ys.map V.int)) ∧ ys ++ unpackL (tab.drop (i + 1)) many = unpackL tab many⟩
        [some (.ref a), some (.int many), some (.ref r), some (.int (i : Nat)), some (.int (rowAt tab i)), some (.int (lineAt tab i)), some (.int be)] H3 := by
      intro be bv ebe
      have hbe : rowAt tab i ≤ be ∧ be ≤ 400 := by
        rw [ebe]
        by_cases h2 : i + 1 < tab.length
        · rw [if_pos h2]
          have := g.rising h2
          have := g.row (i + 1) h2
          omega
        · rw [if_neg h2]
          omega
      walk_at "rd"
      refine ⟨sz rfl, fun l4 n4 => ?_⟩
      have s4 := same_upd (o := .lst [.int (lineAt tab i)]) n4
      walk_at "rd"
      refine s_rep upd_same (by omega) (by omega) (sz_of (by show 1 * _ ≤ 1000; omega)) fun l5 n5 => ?_
      rw [flat_rep]
      have s5 := same_upd (o := .lst (List.replicate (be - rowAt tab i).toNat (V.int (lineAt tab i)))) n5
      have n45 : r ≠ l5 := ne_of_none (s4 _ _ er2) n5
      refine s_ipL (s5 _ _ (s4 _ _ er2)) upd_same (sz_of (by rw [List.length_map, List.length_replicate]; omega)) ?_
      walk_at "rd"
      refine ⟨_, _, _, _, ys ++ List.replicate (be - rowAt tab i).toNat (lineAt tab i), rfl, ?_, ?_, ?_⟩
      · rw [hid_up List.mem_cons_self]
        exact sT.trans (Same.hid (s4.trans s5))
      · rw [upd_same, List.map_append, List.map_replicate]
      · rw [List.append_assoc, ebe, ← ud]
        exact ey
    walk_at "rd"
    refine s_lenL (sT2.seq hS) ?_
    walk_at "rd"
    rw [hxl]
    refine br (fun c1 => ?_) (fun c1 => ?_)
    · have hj : i + 1 < xs.length := by omega
      obtain ⟨b1, eb1, hb1⟩ := DpAll.pair hD (List.getElem?_eq_getElem hj)
      walk_at "rd"
      refine s_ixL (sT2.seq hS) (at_of (j := i + 1) (by omega) (by rw [List.getElem?_eq_getElem hj, eb1])) ?_
      walk_at "rd"
      refine s_ixT (Same.sqT sT2 hb1) rfl ?_
      with_reducible refine s_gName ?_
      with_reducible refine s_nx ?_
      exact fin _ none (by rw [if_pos (by omega)])
    · with_reducible refine s_var (by with_unfolding_all exact rfl) ?_
      with_reducible refine s_gName ?_
      with_reducible refine s_nx ?_
      exact fin _ none (by rw [if_neg (by omega)])
  · rintro σ H' ⟨x, y, z, u, ys, rfl, sm, er, ey⟩
    walk_at "rd"
    rw [List.drop_length, show unpackL [] many = [] from rfl, List.append_nil] at ey
    exact qg g H' r (sm.trans hid_same) n0 (by rw [er, ey])
theorem ok_line_at {c_BadTable c_BadPlace : Addr} (D : DefAt K mg "line_at" s_line_at ["table", "many", "row"]) (B : Blt mg) (X_BadPlace : ExcAt K mg "BadPlace" c_BadPlace) (G_need_table : OkF P w K mg base (L2.CX P w) 1 "need_table" ["table", "many"] (spNeed K c_BadTable)) :
    OkF P w K mg base (L2.CX P w) 2 "line_at" ["table", "many", "row"] (spLineAt K c_BadTable c_BadPlace) := by
  refine D.okX sc_line_at len3 (fun f cdv A outer s H vs Q E hr h => ?_)
  obtain ⟨_, _, _, rfl, tab, many, row, rfl, rfl, hT, hl, qg, qb, qp⟩ := h
  obtain ⟨a, xs, rfl, hS, hD⟩ := Dp.tab_of hT
  have hxl : xs.length = tab.length := by rw [DpAll.length hD, List.length_map]
  refine ⟨_, (pss_cons (ps_expr (u_call G_need_table (hr.mono (by omega)) (passes_call (takes_of rfl rfl rfl rfl) (fun _ _ _ _ h => h)) (pa_cons (pv 0) (pa_cons (pv 1) pa_nil))))
    (pss_cons (ps_if (pt_not (pt_chain o_le o_lt pe_int (pv 2) (pv 1))) (pss_one (ps_raise rfl (takes_of rfl rfl rfl rfl) (u_exc X_BadPlace))) pss_nil)
    (pss_cons (ps_set (i := 3) sc_line_at.nd rfl (by first | exact .inl rfl | exact .inr rfl) pe_int)
    (pss_cons (ps_set (i := 4) sc_line_at.nd rfl (by first | exact .inl rfl | exact .inr rfl) (pe_callB (u_len (K := K)) (by rfl) B.len (by decide +kernel) (pa_cons (pv 0) pa_nil)))
    (pss_cons (ps_while (passes_of rfl) (pt_cmpR o_gt (pe_op o_sub (pv 4) (pv 3)) pe_int (nomark _)) (pss_cons (ps_set (i := 5) sc_line_at.nd rfl (by first | exact .inl rfl | exact .inr rfl) (pe_op o_div (pe_op (o_add (K := K)) (pv 3) (pv 4)) pe_int))
    (pss_one (ps_if (pt_cmpR o_le (pe_ix (u_ix (K := K)) (pe_ix (u_ix (K := K)) (pv 0) (pv 5) (fun _ _ => rfl)) pe_int (fun _ _ => rfl)) (pv 2) (nomark _)) (pss_one (ps_set (i := 3) sc_line_at.nd rfl (by first | exact .inl rfl | exact .inr rfl) (pv 5))) (pss_one (ps_set (i := 4) sc_line_at.nd rfl (by first | exact .inl rfl | exact .inr rfl) (pv 5)))))))
    (pss_one (ps_ret (pe_ix (u_ix (K := K)) (pe_ix (u_ix (K := K)) (pv 0) (pv 3) (fun _ _ => rfl)) pe_int (fun _ _ => rfl))))))))), ?_⟩
  refine s_start (σ' := [some (.ref a), some (.int many), some (.int row), none, none, none]) rfl ?_
  walk_at "rd"
  refine ⟨tab, many, rfl, hT, hl, fun g H1 s1 => ?_, fun ng H1 s1 => qb ng H1 s1⟩
  walk_at "rd"
  have hS1 := s1.seq hS
  have main : 0 ≤ row → row < many → tSeq (tAsg (tC (.int 0)) (gName 3)) (tSeq (tAsg (tCB (fun xs H Q => ∃ x n, xs = [x] ∧ LenV K x H n ∧ Q (.int ↑n) H) (tCons (tVar 0) tNil)) (gName 4))
      (tSeq (tWhile (tTest (tOp rGtU (tOp rSubU (tVar 4) (tVar 3)) (tC (.int 1)))) (tSeq (tAsg (tOp rDivU (tOp (rAddU K) (tVar 3) (tVar 4)) (tC (.int 2))) (gName 5))
          (tIfS (tTest (tOp rLeU (tOp (rIx K) (tOp (rIx K) (tVar 0) (tVar 5)) (tC (.int 0))) (tVar 2))) (tAsg (tVar 5) (gName 3)) (tAsg (tVar 5) (gName 4)))))
        (tRet (tOp (rIx K) (tOp (rIx K) (tVar 0) (tVar 3)) (tC (.int 1)))))) ⟨fun _ H' => Q .non H', Q, fun _ _ => False, fun _ _ => False⟩ [some (.ref a), some (.int many), some (.int row), none, none, none] H1 := by
    intro r0 r1
    walk_at "rd"
    refine s_lenL hS1 ?_
    rw [hxl]
    walk_at "rd"
    refine s_while (fun m σ H' => ∃ (lo hi : Nat) (z : Option V), σ = [some (.ref a), some (.int many), some (.int row), some (.int lo), some (.int hi), z] ∧ Same H H' ∧ m = hi - lo ∧ lo < hi ∧ hi ≤ tab.length ∧ rowAt tab lo ≤ row ∧ (hi < tab.length → row < rowAt tab hi)) tab.length
      ⟨0, tab.length, none, rfl, s1, rfl, g.2.2.1, Nat.le_refl _, by rw [g.2.2.2.1]; exact r0, fun h => absurd h (Nat.lt_irrefl _)⟩ ?_
    rintro m σ H2 ⟨lo, hi, z, rfl, s2, rfl, h1, h2, h3, h4⟩
    walk_at "rd"
    refine br (fun c1 => ?_) (fun c1 => ?_)
    · refine WhB.mk ?_
      walk_at "rd"
      refine s_div ⟨by decide, by decide⟩ ?_
      obtain ⟨mi, emi, m1, m2⟩ : ∃ mi : Nat, ((lo : Int) + hi).fdiv 2 = (mi : Nat) ∧ lo < mi ∧ mi < hi := by
        refine ⟨(lo + hi) / 2, ?_, by omega, by omega⟩
        rw [Int.fdiv_eq_ediv_of_nonneg _ (by decide)]
        omega
      rw [emi]
      walk_at "rd"
      obtain ⟨b, eb, hb⟩ := DpAll.pair hD (List.getElem?_eq_getElem (show mi < xs.length by omega))
      refine s_ixL (s2.seq hS) (atI_nat (by rw [List.getElem?_eq_getElem (show mi < xs.length by omega), eb])) ?_
      walk_at "rd"
      refine s_ixT (Same.sqT s2 hb) rfl ?_
      walk_at "rd"
      refine br (fun c2 => ?_) (fun c2 => ?_)
      · walk_at "rd"
        exact ⟨hi - mi, by omega, mi, hi, _, rfl, s2, rfl, m2, h2, c2, h4⟩
      · walk_at "rd"
        exact ⟨mi - lo, by omega, lo, mi, _, rfl, s2, rfl, m1, by omega, h3, fun _ => by omega⟩
    · walk_at "rd"
      have hlo : lo < tab.length := by omega
      obtain ⟨b, eb, hb⟩ := DpAll.pair hD (List.getElem?_eq_getElem (show lo < xs.length by omega))
      refine s_ixL (s2.seq hS) (atI_nat (by rw [List.getElem?_eq_getElem (show lo < xs.length by omega), eb])) ?_
      walk_at "rd"
      refine s_ixT (Same.sqT s2 hb) rfl ?_
      refine qg g _ _ s2 r0 r1 (unpackL_at g hlo h3 ?_)
      by_cases h5 : lo + 1 < tab.length
      · rw [if_pos h5]
        have : hi = lo + 1 := by omega
        subst this
        exact h4 h5
      · rw [if_neg h5]
        exact r1
  refine br (fun c1 => ?_) (fun c1 => ?_)
  · walk_at "rd"
    refine brB (fun c2 => ?_) (fun c2 => ?_)
    · exact qp g (fun z => by rw [decide_eq_true z.2] at c2; exact absurd c2 (by decide)) _ s1
    · with_reducible refine s_next ?_
      with_reducible refine s_nx ?_
      refine main c1 ?_
      by_cases h : row < many
      · exact h
      · rw [decide_eq_false h] at c2
        exact absurd c2 (by decide)
  · refine s_bl ?_
    refine iteT ?_
    exact qp g (fun z => c1 z.1) _ s1
theorem ok_rows_of {c_BadTable : Addr} (D : DefAt K mg "rows_of" s_rows_of ["table", "many", "line"]) (B : Blt mg) (G_unpacked : OkF P w K mg base (L2.CX P w) 2 "unpacked" ["table", "many"] (spUnpacked K c_BadTable)) :
    OkF P w K mg base (L2.CX P w) 3 "rows_of" ["table", "many", "line"] (spRowsOf K c_BadTable) := by
  refine D.okX sc_rows_of len3 (fun f cdv A outer s H vs Q E hr h => ?_)
  obtain ⟨_, _, _, rfl, tab, many, line, rfl, rfl, hT, hl, qg, qb⟩ := h
  refine ⟨_, (pss_one (ps_ret (pe_lc (own := [("row", 3), ("own", 4)]) (g := (gTup K 2 (gCons (gName 3) (gCons (gName 4) gNil)))) rfl sc_rows_of.nd (u_enum (K := K) B.enumerate (pa_cons (u_call G_unpacked (hr.mono (by omega)) (passes_call (takes_of rfl rfl rfl rfl) (fun _ _ _ _ h => h)) (pa_cons (pv 0) (pa_cons (pv 1) pa_nil))) pa_nil)) (blkOk_by (N := ["table", "many", "line", "row", "own"]) (sc := defScope s_rows_of) (own := [("row", 3), ("own", 4)]) (by decide +kernel)) (fun _ _ _ _ _ => (u_tup (K := K) rfl (pgs_cons (pg_name (i := 3) sc_rows_of.nd rfl (by first | exact .inl rfl | exact .inr rfl)) (pgs_cons (pg_name (i := 4) sc_rows_of.nd rfl (by first | exact .inl rfl | exact .inr rfl)) pgs_nil)))) (fun _ _ _ _ _ => (pts_one (pt_cmpR (o_eq (K := K) hr.units) (pv 4) (pv 2) (nomark _)))) (fun _ _ _ _ _ => (pv 3))))), ?_⟩
  obtain ⟨a, xs, rfl, _, _⟩ := Dp.tab_of hT
  refine s_start (σ' := [some (.ref a), some (.int many), some (.int line), none, none]) rfl ?_
  walk_at "rd"
  refine ⟨tab, many, rfl, hT, hl, fun g H1 u s1 nu eu => ?_, fun ng H1 s1 => qb ng H1 s1⟩
  walk_at "rd"
  refine s_enumL (SqL.of eu) ?_
  have hlen := unpackL_len0 g
  have m4 := g.2.1
  generalize hU : unpackL tab many = ls at eu qg hlen
  refine lcB_of ls.length (fun D i acc H' => Same H1 (hid [D] H') ∧ acc = (rowsOf ls line i).map V.int)
    (fun D hD => ⟨by rw [hid_up List.mem_cons_self, hid_new hD, hid_nil]; exact Same.refl _, rfl⟩)
    (fun D i acc H' hD hi hS => ⟨ls.map V.int, .int ls[i], hid_same.seq (hS.1.seq (SqL.of eu)), by rw [List.getElem?_map, List.getElem?_eq_getElem hi]; rfl⟩)
    (fun D acc H' hD hS => ⟨ls.map V.int, hid_same.seq (hS.1.seq (SqL.of eu)), by rw [List.length_map]; exact Nat.le_refl _⟩) ?_ ?_
  · rintro D i acc H' v _ hD hi ha hla ⟨sm, ea⟩ ⟨T, z, rfl, nT, rfl, hz⟩
    have hz' : z = .int (ls.getD i 0) := by
      have e := hz _ (hid_same.seq (sm.seq (SqL.of eu)))
      rw [List.getElem?_map, List.getElem?_eq_getElem hi] at e
      rw [List.getD_eq_getElem?_getD, List.getElem?_eq_getElem hi]
      exact (Option.some.inj e).symm
    subst hz'
    have sT := same_upd (o := .tup [.int (i : Nat), .int (ls.getD i 0)]) nT
    refine s_gTup (SqT.of upd_same) rfl (s_gCons (s_gName (s_gCons (s_gName (s_gNil ⟨rfl, ?_⟩)))))
    walk_at "rd"
    refine s_eq rfl ?_
    walk_at "rd"
    refine br (fun c1 => ?_) (fun c1 => ?_)
    · walk_at "rd"
      refine LcPost.mk (sT _ _ ha) hla (by omega) ⟨?_, ?_⟩
      · rw [hid_up List.mem_cons_self]
        exact sm.trans (Same.hid sT)
      · rw [ea, show rowsOf ls line (i + 1) = rowsOf ls line i ++ [(i : Int)] from by show _ ++ (if _ then _ else _) = _; rw [if_pos (V.int.inj c1)], List.map_append]
        rfl
    · refine LcSkip.mk (sT _ _ ha) hla ⟨sm.trans (Same.hid sT), ?_⟩
      rw [ea, show rowsOf ls line (i + 1) = rowsOf ls line i from by show _ ++ (if _ then _ else _) = _; rw [if_neg (fun z => c1 (by rw [z])), List.append_nil]]
  · rintro D acc H' hD ha hla ⟨sm, ea⟩
    rw [ea] at ha
    exact qg g H' D ((s1.trans sm).trans hid_same) (s1.free hD) ha
theorem ok_take (D : DefAt K mg "_law_take" s_law_take ["_law_draw", "_law_sides"]) (B : Blt mg) : OkF P w K mg base CX0 1 "_law_take" ["_law_draw", "_law_sides"] spTake := by
  refine D.ok sc_law_take len2 (fun f cdv A outer s H vs Q E hr h => ?_)
  obtain ⟨_, _, rfl, p, a, n, rfl, rfl, n0, n1, ⟨ns, c, h, t, e, hS, ap, hl, c0, h0, t0, t1⟩, q⟩ := h
  refine ⟨_, (pss_cons (ps_if (PW.pt (pw_and (pt_cmpR o_lt (pe_ix (u_ix (K := K)) (pv 0) pe_int (fun _ _ => rfl)) (pv 1) (nomark _)) (pw_and1 (pt_cmpR o_lt (pe_ix (u_ix (K := K)) (pv 0) pe_int (fun _ _ => rfl)) (pe_callB (u_len (K := K)) (by rfl) B.len (by decide +kernel) (pa_cons (pe_ix (u_ix (K := K)) (pv 0) pe_int (fun _ _ => rfl)) pa_nil)) (nomark _))))) (pss_cons (ps_set (i := 2) sc_law_take.nd rfl (by first | exact .inl rfl | exact .inr rfl) (pe_ix (u_ix (K := K)) (pe_ix (u_ix (K := K)) (pv 0) pe_int (fun _ _ => rfl)) (pe_ix (u_ix (K := K)) (pv 0) pe_int (fun _ _ => rfl)) (fun _ _ => rfl)))
    (pss_cons (ps_asg (pe_op (o_add (K := K)) (pe_ix (u_ix (K := K)) (pv 0) pe_int (fun _ _ => rfl)) pe_int) (pg_sub (pv 0) pe_int set_list))
    (pss_cons (ps_asg pe_int (pg_sub (pv 0) pe_int set_list))
    (pss_one (ps_if (pt_cmpR o_ge (pe_callB call_abs (by rfl) B.abs (by decide +kernel) (pa_cons (pv 2) pa_nil)) (pe_op o_pow pe_int pe_int) (nomark _)) (pss_one (ps_asg (pe_callB call_abs (by rfl) B.abs (by decide +kernel) (pa_cons (pv 2) pa_nil)) (pg_sub (pv 0) pe_int set_list))) (pss_one (ps_asg (pe_op o_mod (pe_op (o_add (K := K)) (pe_op (o_add (K := K)) (pe_op o_mul (pe_ix (u_ix (K := K)) (pv 0) pe_int (fun _ _ => rfl)) pe_int) (pe_op o_mul (pe_op o_mod (pv 2) pe_int) pe_int)) pe_int) pe_int) (pg_sub (pv 0) pe_int set_list)))))))) pss_nil)
    (pss_cons (ps_if (pt_cmpR o_ge (pe_ix (u_ix (K := K)) (pv 0) pe_int (fun _ _ => rfl)) (pv 1) (nomark _)) (pss_cons (ps_set (i := 3) sc_law_take.nd rfl (by first | exact .inl rfl | exact .inr rfl) (pe_op o_mod (pe_ix (u_ix (K := K)) (pv 0) pe_int (fun _ _ => rfl)) (pv 1)))
    (pss_cons (ps_asg (pe_op o_div (pe_ix (u_ix (K := K)) (pv 0) pe_int (fun _ _ => rfl)) (pv 1)) (pg_sub (pv 0) pe_int set_list))
    (pss_one (ps_ret (pv 3))))) pss_nil)
    (pss_cons (ps_asg (pe_op o_mod (pe_op (o_add (K := K)) (pe_op (o_add (K := K)) (pe_op o_mul (pe_op o_mod (pe_op o_mul (pe_ix (u_ix (K := K)) (pv 0) pe_int (fun _ _ => rfl)) (pe_ix (u_ix (K := K)) (pv 0) pe_int (fun _ _ => rfl))) pe_int) pe_int) (pe_op o_mul (pe_ix (u_ix (K := K)) (pv 0) pe_int (fun _ _ => rfl)) pe_int)) pe_int) pe_int) (pg_sub (pv 0) pe_int set_list))
    (pss_one (ps_ret (pe_op o_mod (pe_op (o_add (K := K)) (pe_op o_div (pe_ix (u_ix (K := K)) (pv 0) pe_int (fun _ _ => rfl)) pe_int) (pe_op o_mul (pe_op o_mod (pe_ix (u_ix (K := K)) (pv 0) pe_int (fun _ _ => rfl)) pe_int) pe_int)) (pv 1))))))), ?_⟩
  refine s_start (σ' := [some (.ref p), some (.int n), none, none]) rfl ?_
  refine s_seqJ (fun σ' H' => ∃ x c h t, σ' = [some (.ref p), some (.int n), x, none] ∧ H' p = some (.lst [.ref a, .int c, .int h, .int t]) ∧ Keep p H H' ∧ 0 ≤ c ∧ 0 ≤ h ∧ 0 ≤ t ∧ t < 2147483647) (fun σ' H' hJ => ?_) (fun nx J => ?_)
  · obtain ⟨x, c, h, t, rfl, e, kp, c0, h0, t0, t1⟩ := hJ
    have fin : ∀ H'' c h t r, H'' p = some (.lst [.ref a, .int c, .int h, .int t]) → Keep p H' H'' → 0 ≤ c → 0 ≤ h → 0 ≤ t → t < 2147483647 → 0 ≤ r → r < n → Q (.int r) H'' := fun H'' c h t r e2 k2 a1 a2 a3 a4 r0 r1 =>
      q H'' r (kp.trans k2) ⟨ns, c, h, t, e2, (kp.trans k2) _ _ ap hS, ap, hl, a1, a2, a3, a4⟩ r0 r1
    walk_at "rd"
    refine s_ixL (SqL.of e) rfl ?_
    walk_at "rd"
    refine br (fun b1 => ?_) (fun b1 => ?_)
    · walk_at "rd"
      refine s_ixL (SqL.of e) rfl ?_
      walk_at "rd"
      refine s_mod (by omega) ?_
      walk_at "rd"
      refine s_ixL (SqL.of e) rfl ?_
      walk_at "rd"
      refine s_div ⟨by omega, by omega⟩ ?_
      walk_at "rd"
      refine s_setL e rfl ?_
      walk_at "rd"
      exact fin _ c (h.fdiv n) t _ upd_same Keep.upd c0 (Int.fdiv_nonneg h0 (by omega)) t0 t1 (Int.fmod_nonneg_of_pos _ n0) (Int.fmod_lt_of_pos _ n0)
    · walk_at "rd"
      refine s_ixL (SqL.of e) rfl ?_
      walk_at "rd"
      refine s_ixL (SqL.of e) rfl ?_
      refine s_mul (.inl ⟨by omega, by omega⟩) ?_
      walk_at "rd"
      refine s_mod (by decide) ?_
      walk_at "rd"
      have f1 := Int.fmod_nonneg_of_pos (t * t) (show (0 : Int) < 2147483629 by decide)
      have f2 := Int.fmod_lt_of_pos (t * t) (show (0 : Int) < 2147483629 by decide)
      refine s_mul (.inl ⟨by omega, by omega⟩) ?_
      walk_at "rd"
      refine s_ixL (SqL.of e) rfl ?_
      walk_at "rd"
      refine s_mul (.inl ⟨by omega, by omega⟩) ?_
      walk_at "rd"
      refine s_mod (by decide) ?_
      walk_at "rd"
      refine s_setL e rfl ?_
      walk_at "rd"
      have f3 := Int.fmod_nonneg_of_pos ((t * t).fmod 2147483629 * 5 + t * 16811 + 2531011) (show (0 : Int) < 2147483647 by decide)
      have f4 := Int.fmod_lt_of_pos ((t * t).fmod 2147483629 * 5 + t * 16811 + 2531011) (show (0 : Int) < 2147483647 by decide)
      generalize ((t * t).fmod 2147483629 * 5 + t * 16811 + 2531011).fmod 2147483647 = t' at f3 f4 ⊢
      refine s_ixL (SqL.of upd_same) rfl ?_
      walk_at "rd"
      refine s_div ⟨by decide, by decide⟩ ?_
      walk_at "rd"
      refine s_ixL (SqL.of upd_same) rfl ?_
      walk_at "rd"
      refine s_mod (by decide) ?_
      walk_at "rd"
      have f5 := Int.fmod_nonneg_of_pos t' (show (0 : Int) < 8191 by decide)
      have f6 := Int.fmod_lt_of_pos t' (show (0 : Int) < 8191 by decide)
      refine s_mul (.inl ⟨by omega, by omega⟩) ?_
      walk_at "rd"
      refine s_mod (by omega) ?_
      exact fin _ c h t' _ upd_same Keep.upd c0 h0 f3 f4 (Int.fmod_nonneg_of_pos _ n0) (Int.fmod_lt_of_pos _ n0)
  · have no := fun H' x c h t e1 e2 e3 e4 e5 e6 => J [some (.ref p), some (.int n), x, none] H' ⟨x, c, h, t, rfl, e1, e2, e3, e4, e5, e6⟩
    walk_at "rd"
    refine s_ixL (SqL.of e) rfl ?_
    walk_at "rd"
    refine br (fun b1 => ?_) (fun b1 => ?_)
    · walk_at "rd"
      refine s_ixL (SqL.of e) rfl ?_
      walk_at "rd"
      refine s_ixL (SqL.of e) rfl ?_
      walk_at "rd"
      refine s_lenL (SqL.of hS) ?_
      walk_at "rd"
      refine br (fun b2 => ?_) (fun b2 => ?_)
      · rw [List.length_map] at b2
        obtain ⟨cell, hc⟩ : ∃ z, ns[c.toNat]? = some z := ⟨_, List.getElem?_eq_getElem (show c.toNat < ns.length by omega)⟩
        have hc2 : atI (ns.map V.int) c = some (.int cell) := at_of (j := c.toNat) (by omega) (by rw [List.getElem?_map, hc]; rfl)
        walk_at "rd"
        refine s_ixL (SqL.of e) rfl ?_
        walk_at "rd"
        refine s_ixL (SqL.of e) rfl ?_
        refine s_ixL (SqL.of hS) hc2 ?_
        walk_at "rd"
        refine s_ixL (SqL.of e) rfl ?_
        walk_at "rd"
        refine s_setL e rfl ?_
        walk_at "rd"
        refine s_setL upd_same rfl ?_
        walk_at "rd"
        rw [upd_upd]
        refine s_pow ⟨by decide, by decide, by decide⟩ ?_
        walk_at "rd"
        refine br (fun b3 => ?_) (fun b3 => ?_)
        · walk_at "rd"
          refine s_setL upd_same rfl ?_
          walk_at "rd"
          rw [upd_upd]
          refine no _ _ (c + 1) (if cell < 0 then -cell else cell) t upd_same Keep.upd (by omega) ?_ t0 t1
          split <;> omega
        · walk_at "rd"
          refine s_ixL (SqL.of upd_same) rfl ?_
          walk_at "rd"
          refine s_mul (.inl ⟨by omega, by omega⟩) ?_
          walk_at "rd"
          refine s_mod (by decide) ?_
          walk_at "rd"
          refine s_mul (.inr ⟨by decide, by decide⟩) ?_
          walk_at "rd"
          refine s_mod (by decide) ?_
          walk_at "rd"
          refine s_setL upd_same rfl ?_
          walk_at "rd"
          rw [upd_upd]
          exact no _ _ (c + 1) 0 _ upd_same Keep.upd (by omega) (by omega) (Int.fmod_nonneg_of_pos _ (by decide)) (Int.fmod_lt_of_pos _ (by decide))
      · walk_at "rd"
        exact no _ _ c h t e (Keep.refl _ _) c0 h0 t0 t1
    · walk_at "rd"
      exact no _ _ c h t e (Keep.refl _ _) c0 h0 t0 t1
theorem ok_begin (D : DefAt K mg "_law_begin" s_law_begin ["_law_script"]) (B : Blt mg) : OkF P w K mg base CX0 1 "_law_begin" ["_law_script"] (spBegin K) := by
  refine D.ok sc_law_begin len1 (fun f cdv A outer s H vs Q E hr h => ?_)
  obtain ⟨_, rfl, a, ns, rfl, hS, hl, q⟩ := h
  refine ⟨_, (pss_one (ps_ret (pe_lst (pa_cons (pe_callTy (call_listU (K := K) rfl) (by rfl) B.list (by decide +kernel) (pa_cons (pe_slice (sl_u (K := K)) (pv 0) po_none (po_some pe_int)) pa_nil)) (pa_cons pe_int (pa_cons pe_int (pa_cons pe_int pa_nil))))))), ?_⟩
  refine s_start (σ' := [some (.ref a)]) rfl ?_
  walk_at "rd"
  obtain ⟨ms, em, lm⟩ : ∃ ms : List Int, cutV (ns.map V.int) none (some 63) = ms.map V.int ∧ ms.length ≤ 1000 := by
    refine ⟨(ns.drop (HT.sIx (ns.map V.int).length 0 none)).take (HT.sIx (ns.map V.int).length (ns.map V.int).length (some 63) - HT.sIx (ns.map V.int).length 0 none), ?_, ?_⟩
    · unfold cutV
      rw [List.map_take, List.map_drop]
    · rw [List.length_take, List.length_drop]
      omega
  refine s_slL hS fun l1 n1 => ?_
  rw [em]
  walk_at "rd"
  refine s_listL (.inl (SqL.of upd_same)) fun l2 n2 => ?_
  walk_at "rd"
  refine ⟨sz rfl, fun p n3 => ?_⟩
  walk_at "rd"
  have s1 := same_upd (o := .lst (ms.map V.int)) n1
  have s2 := same_upd (o := .lst (ms.map V.int)) n2
  have s3 := same_upd (o := .lst [.ref l2, .int 0, .int 0, .int 29]) n3
  refine q _ p l2 (s1.trans (s2.trans s3)) ((s1.trans s2).free n3) ⟨ms, 0, 0, 29, upd_same, s3 _ _ upd_same, ?_, lm, by decide, by decide, by decide, by decide⟩
  intro e
  rw [e, upd_same] at n3
  cases n3
theorem ok_one (D : DefAt K mg "_law_one" s_law_one ["_law_draw", "_law_row"]) (B : Blt mg) (G_law_take : OkF P w K mg base CX0 1 "_law_take" ["_law_draw", "_law_sides"] spTake) : OkF P w K mg base CX0 2 "_law_one" ["_law_draw", "_law_row"] (spOne K) := by
  refine D.ok sc_law_one len2 (fun f cdv A outer s H vs Q E hr h => ?_)
  obtain ⟨_, _, rfl, p, a, b, xs, rfl, rfl, ap, hS, h0, h1, d, q⟩ := h
  refine ⟨_, (pss_one (ps_ret (pe_ix (u_ix (K := K)) (pv 1) (u_call G_law_take (hr.mono (by omega)) pass0 (pa_cons (pv 0) (pa_cons (pe_callB (u_len (K := K)) (by rfl) B.len (by decide +kernel) (pa_cons (pv 1) pa_nil)) pa_nil))) (fun _ _ => rfl)))), ?_⟩
  refine s_start (σ' := [some (.ref p), some (.ref b)]) rfl ?_
  walk_at "rd"
  refine s_lenL hS ?_
  walk_at "rd"
  refine ⟨p, a, xs.length, rfl, rfl, by omega, by omega, d, fun H' r kp d' r0 r1 => ?_⟩
  obtain ⟨v, hv⟩ : ∃ v, xs[r.toNat]? = some v := ⟨_, List.getElem?_eq_getElem (show r.toNat < xs.length by omega)⟩
  refine s_ixL (kp.sqL ap hS) (at_of (j := r.toNat) (by omega) hv) ?_
  exact q H' v kp d' (List.mem_of_getElem? hv)
theorem ok_same (D : DefAt K mg "_law_same" s_law_same ["_law_found", "_law_due"]) (B : Blt mg) : ∀ n, OkF P w K mg base CX0 n "_law_same" ["_law_found", "_law_due"] (spSame K n) := by
  intro n
  induction n with
  | zero =>
    refine D.okNo fun vs H Q E h => ?_
    obtain ⟨_, _, _, d, _, _, z, _⟩ := h
    exact z
  | succ n G_law_same =>
  refine D.ok sc_law_same len2 (fun f cdv A outer s H vs Q E hr h => ?_)
  obtain ⟨x, y, rfl, d, hx, hy, hd, q⟩ := h
  refine ⟨_, (pss_cons (ps_if (u_truth (K := K) (pe_callB (u_isiT (K := K)) (by rfl) B.isinstance (by decide +kernel) (pa_cons (pv 1) (pa_cons (pe_tup (pa_cons (pe_bltn (v := .ty "list") (by rfl) B.list (by decide +kernel) rfl) (pa_cons (pe_bltn (v := .ty "tuple") (by rfl) B.tuple (by decide +kernel) rfl) pa_nil))) pa_nil)))) (pss_cons (ps_if (PW.pt (pw_or (pt_cmpR (o_ne (K := K) hr.units) (pe_callB (u_isi (K := K)) (by rfl) B.isinstance (by decide +kernel) (pa_cons (pv 0) (pa_cons (pe_bltn (v := .ty "list") (by rfl) B.list (by decide +kernel) rfl) pa_nil))) (pe_callB (u_isi (K := K)) (by rfl) B.isinstance (by decide +kernel) (pa_cons (pv 1) (pa_cons (pe_bltn (v := .ty "list") (by rfl) B.list (by decide +kernel) rfl) pa_nil))) (nomark _)) (pw_or1 (pt_not (u_truth (K := K) (pe_callB (u_isiT (K := K)) (by rfl) B.isinstance (by decide +kernel) (pa_cons (pv 0) (pa_cons (pe_tup (pa_cons (pe_bltn (v := .ty "list") (by rfl) B.list (by decide +kernel) rfl) (pa_cons (pe_bltn (v := .ty "tuple") (by rfl) B.tuple (by decide +kernel) rfl) pa_nil))) pa_nil)))))))) (pss_one (ps_ret pe_bl)) pss_nil)
    (pss_cons (ps_if (pt_cmpR (o_ne (K := K) hr.units) (pe_callB (u_len (K := K)) (by rfl) B.len (by decide +kernel) (pa_cons (pv 0) pa_nil)) (pe_callB (u_len (K := K)) (by rfl) B.len (by decide +kernel) (pa_cons (pv 1) pa_nil)) (nomark _)) (pss_one (ps_ret pe_bl)) pss_nil)
    (pss_one (ps_ret (pe_callB (u_all (K := K) rfl) (by rfl) B.all (by decide +kernel) (pa_cons (pe_lc (own := [("_law_one_here", 2), ("_law_other", 3)]) (g := (gTup K 2 (gCons (gName 2) (gCons (gName 3) gNil)))) (tt := tYes) rfl sc_law_same.nd (pi_zipA (by rfl) B.zip (pa_cons (pv 0) (pa_cons (pv 1) pa_nil))) (blkOk_by (N := ["_law_found", "_law_due", "_law_one_here", "_law_other"]) (sc := defScope s_law_same) (own := [("_law_one_here", 2), ("_law_other", 3)]) (by decide +kernel)) (fun _ _ _ _ _ => (u_tup (K := K) rfl (pgs_cons (pg_name (i := 2) sc_law_same.nd rfl (by first | exact .inl rfl | exact .inr rfl)) (pgs_cons (pg_name (i := 3) sc_law_same.nd rfl (by first | exact .inl rfl | exact .inr rfl)) pgs_nil)))) (fun _ _ _ _ _ => pts_nil) (fun _ _ _ _ _ => (u_call G_law_same (hr.mono (by omega)) pass0 (pa_cons (pv 2) (pa_cons (pv 3) pa_nil))))) pa_nil)))))) pss_nil)
    (pss_cons (ps_if (pt_cmpR o_is (pv 1) pe_non (nomark _)) (pss_one (ps_ret (pe_cmpR o_is (pv 0) pe_non (nomark _)))) pss_nil)
    (pss_cons (ps_if (pt_cmpR (o_ne (K := K) hr.units) (pe_callB (u_isi (K := K)) (by rfl) B.isinstance (by decide +kernel) (pa_cons (pv 0) (pa_cons (pe_bltn (v := .ty "bool") (by rfl) B.bool (by decide +kernel) rfl) pa_nil))) (pe_callB (u_isi (K := K)) (by rfl) B.isinstance (by decide +kernel) (pa_cons (pv 1) (pa_cons (pe_bltn (v := .ty "bool") (by rfl) B.bool (by decide +kernel) rfl) pa_nil))) (nomark _)) (pss_one (ps_ret pe_bl)) pss_nil)
    (pss_one (ps_ret (pe_and (pe_cmpR (o_eq (K := K) hr.units) (pe_callB (u_isi (K := K)) (by rfl) B.isinstance (by decide +kernel) (pa_cons (pv 0) (pa_cons (pe_bltn (v := .ty "str") (by rfl) B.str (by decide +kernel) rfl) pa_nil))) (pe_callB (u_isi (K := K)) (by rfl) B.isinstance (by decide +kernel) (pa_cons (pv 1) (pa_cons (pe_bltn (v := .ty "str") (by rfl) B.str (by decide +kernel) rfl) pa_nil))) (nomark _)) (pe_one (pe_cmpR (o_eq (K := K) hr.units) (pv 0) (pv 1) (nomark _))))))))), ?_⟩
  refine s_start (σ' := [some x, some y, none, none]) rfl ?_
  walk_at "rd"
  refine ⟨sz rfl, fun p1 n1 => ?_⟩
  walk_at "rd"
  have s1 := same_upd (o := .tup [.ty "list", .ty "tuple"]) n1
  have hx1 := Dp.same s1 d _ hx
  have hy1 := Dp.same s1 d _ hy
  refine s_isiLT hy1 upd_same ?_
  walk_at "rd"
  refine brB (fun b1 => ?_) (fun b1 => ?_)
  · walk_at "rd"
    refine s_isiL hx1 ?_
    walk_at "rd"
    refine s_isiL hy1 ?_
    refine s_ne rfl ?_
    walk_at "rd"
    refine brN (fun z => absurd rfl z) (fun _ => ?_)
    walk_at "rd"
    refine ⟨sz rfl, fun p2 n2 => ?_⟩
    walk_at "rd"
    have s2 := s1.trans (same_upd (o := .tup [.ty "list", .ty "tuple"]) n2)
    have hx2 := Dp.same s2 d _ hx
    have hy2 := Dp.same s2 d _ hy
    refine s_isiLT hx2 upd_same ?_
    rw [b1]
    walk_at "rd"
    refine iteF ?_
    walk_at "rd"
    cases d with
    | list ds =>
      obtain ⟨hn, hk⟩ := hd
      cases hx2 with
      | @lst ax xs _ hsx hax =>
      cases hy2 with
      | @lst ay ys _ hsy hay =>
      have lx := DpAll.length hax
      have ly := DpAll.length hay
      refine s_lenL hsx ?_
      walk_at "rd"
      refine s_lenL hsy ?_
      walk_at "rd"
      refine s_ne rfl ?_
      walk_at "rd"
      rw [lx, ly]
      refine brN (fun z => absurd rfl z) (fun _ => ?_)
      walk_at "rd"
      refine ⟨ax, ay, xs, ys, rfl, .inl ⟨hsx, hsy, ?_⟩⟩
      generalize upd (upd H p1 _) p2 _ = H1 at s2 hsx hsy hax hay
      refine lcB_of ds.length (fun D i acc H' => Same H1 H' ∧ acc = (List.replicate i true).map V.bl) (fun D hD => ⟨same_upd hD, rfl⟩)
        (fun D i acc H' _ hi hS => ⟨xs, ys, _, _, hS.1.seq hsx, hS.1.seq hsy, List.getElem?_eq_getElem (by omega), List.getElem?_eq_getElem (by omega)⟩)
        (fun D acc H' _ hS => ⟨xs, ys, hS.1.seq hsx, hS.1.seq hsy, .inl (by omega)⟩) ?_ ?_
      · rintro D i acc H' _ H'' hD hi ha hl ⟨sm, ea⟩ ⟨T, u, v, rfl, nT, rfl, hu, hv⟩
        have sT := same_upd (o := .tup [u, v]) nT
        obtain ⟨d1, e1, k1⟩ := DpAll.get hax (hu _ (sm.seq hsx))
        obtain ⟨d2, e2, k2⟩ := DpAll.get hay (hv _ (sm.seq hsy))
        rw [e1] at e2
        cases e2
        refine s_gTup (SqT.of upd_same) rfl (s_gCons (s_gName (s_gCons (s_gName (s_gNil ⟨rfl, ?_⟩)))))
        walk_at "rd"
        refine ⟨d1, Dp.same (sm.trans sT) _ _ k1, Dp.same (sm.trans sT) _ _ k2, hk d1 (List.mem_of_getElem? e1), fun H3 s3 => ?_⟩
        have aD := s3 _ _ (sT _ _ ha)
        refine LcPost.mk aD hl (by omega) ⟨fun b o e => ?_, ?_⟩
        · rw [upd_ne (ne_of_none e hD)]
          exact s3 _ _ (sT _ _ (sm _ _ e))
        · rw [ea, List.replicate_succ', List.map_append]
          rfl
      · rintro D acc H' hD ha hl ⟨sm, ea⟩
        walk_at "rd"
        refine ⟨D, _, rfl, SqL.of (ha.trans (by rw [ea])), ?_⟩
        have : (List.replicate ds.length true).all id = true := by simp
        rw [this]
        exact q _ (s2.trans sm)
    | tuple ds =>
      obtain ⟨hn, hk⟩ := hd
      cases hx2 with
      | @tup ax xs _ hsx hax =>
      cases hy2 with
      | @tup ay ys _ hsy hay =>
      have lx := DpAll.length hax
      have ly := DpAll.length hay
      refine s_lenT hsx ?_
      walk_at "rd"
      refine s_lenT hsy ?_
      walk_at "rd"
      refine s_ne rfl ?_
      walk_at "rd"
      rw [lx, ly]
      refine brN (fun z => absurd rfl z) (fun _ => ?_)
      walk_at "rd"
      refine ⟨ax, ay, xs, ys, rfl, .inr ⟨hsx, hsy, ?_⟩⟩
      generalize upd (upd H p1 _) p2 _ = H1 at s2 hsx hsy hax hay
      refine lcB_of ds.length (fun D i acc H' => Same H1 H' ∧ acc = (List.replicate i true).map V.bl) (fun D hD => ⟨same_upd hD, rfl⟩)
        (fun D i acc H' _ hi hS => ⟨xs, ys, _, _, Same.sqT hS.1 hsx, Same.sqT hS.1 hsy, List.getElem?_eq_getElem (by omega), List.getElem?_eq_getElem (by omega)⟩)
        (fun D acc H' _ hS => ⟨xs, ys, Same.sqT hS.1 hsx, Same.sqT hS.1 hsy, .inl (by omega)⟩) ?_ ?_
      · rintro D i acc H' _ H'' hD hi ha hl ⟨sm, ea⟩ ⟨T, u, v, rfl, nT, rfl, hu, hv⟩
        have sT := same_upd (o := .tup [u, v]) nT
        obtain ⟨d1, e1, k1⟩ := DpAll.get hax (hu _ (Same.sqT sm hsx))
        obtain ⟨d2, e2, k2⟩ := DpAll.get hay (hv _ (Same.sqT sm hsy))
        rw [e1] at e2
        cases e2
        refine s_gTup (SqT.of upd_same) rfl (s_gCons (s_gName (s_gCons (s_gName (s_gNil ⟨rfl, ?_⟩)))))
        walk_at "rd"
        refine ⟨d1, Dp.same (sm.trans sT) _ _ k1, Dp.same (sm.trans sT) _ _ k2, hk d1 (List.mem_of_getElem? e1), fun H3 s3 => ?_⟩
        have aD := s3 _ _ (sT _ _ ha)
        refine LcPost.mk aD hl (by omega) ⟨fun b o e => ?_, ?_⟩
        · rw [upd_ne (ne_of_none e hD)]
          exact s3 _ _ (sT _ _ (sm _ _ e))
        · rw [ea, List.replicate_succ', List.map_append]
          rfl
      · rintro D acc H' hD ha hl ⟨sm, ea⟩
        walk_at "rd"
        refine ⟨D, _, rfl, SqL.of (ha.trans (by rw [ea])), ?_⟩
        have : (List.replicate ds.length true).all id = true := by simp
        rw [this]
        exact q _ (s2.trans sm)
    | _ => exact absurd b1 (by simp [isSeq])
  · walk_at "rd"
    cases d with
    | list ds => exact absurd b1 (by simp [isSeq])
    | tuple ds => exact absurd b1 (by simp [isSeq])
    | dict ds => exact hd.elim
    | none =>
      cases hx1
      cases hy1
      refine br (fun _ => ?_) (fun z => absurd rfl z)
      walk_at "rd"
      exact q _ s1
    | bool b =>
      cases hx1
      cases hy1
      refine br (fun z => nomatch z) (fun _ => ?_)
      walk_at "rd"
      refine s_isiB (.bl b) ?_
      walk_at "rd"
      refine s_isiB (.bl b) ?_
      refine s_ne rfl ?_
      walk_at "rd"
      refine brN (fun z => absurd rfl z) (fun _ => ?_)
      walk_at "rd"
      refine s_isiS (.bl b) ?_
      walk_at "rd"
      refine s_isiS (.bl b) ?_
      refine s_eq rfl (s_bln (decide_eq_true rfl) (iteT ?_))
      walk_at "rd"
      refine s_eq rfl ?_
      rw [decide_eq_true rfl]
      exact q _ s1
    | int b =>
      cases hx1
      cases hy1
      refine br (fun z => nomatch z) (fun _ => ?_)
      walk_at "rd"
      refine s_isiB (.int b) ?_
      walk_at "rd"
      refine s_isiB (.int b) ?_
      refine s_ne rfl ?_
      walk_at "rd"
      refine brN (fun z => absurd rfl z) (fun _ => ?_)
      walk_at "rd"
      refine s_isiS (.int b) ?_
      walk_at "rd"
      refine s_isiS (.int b) ?_
      refine s_eq rfl (s_bln (decide_eq_true rfl) (iteT ?_))
      walk_at "rd"
      refine s_eq rfl ?_
      rw [decide_eq_true rfl]
      exact q _ s1
    | str b =>
      cases hx1
      cases hy1
      refine br (fun z => nomatch z) (fun _ => ?_)
      walk_at "rd"
      refine s_isiB (.str b) ?_
      walk_at "rd"
      refine s_isiB (.str b) ?_
      refine s_ne rfl ?_
      walk_at "rd"
      refine brN (fun z => absurd rfl z) (fun _ => ?_)
      walk_at "rd"
      refine s_isiS (.str b) ?_
      walk_at "rd"
      refine s_isiS (.str b) ?_
      refine s_eq rfl (s_bln (decide_eq_true rfl) (iteT ?_))
      walk_at "rd"
      refine s_eq rfl ?_
      rw [decide_eq_true rfl]
      exact q _ s1
theorem ok_far (D : DefAt K mg "_law_far" s_law_far ["_law_draw"]) (B : Blt mg) (G_law_take : OkF P w K mg base CX0 1 "_law_take" ["_law_draw", "_law_sides"] spTake) : OkF P w K mg base CX0 2 "_law_far" ["_law_draw"] spFar := by
  refine D.ok sc_law_far len1 (fun f cdv A outer s H vs Q E hr h => ?_)
  obtain ⟨_, rfl, p, a, rfl, d, q⟩ := h
  refine ⟨_, (pss_cons (ps_set (i := 1) sc_law_far.nd rfl (by first | exact .inl rfl | exact .inr rfl) (pe_op o_mul (pe_op (o_add (K := K)) (pe_op o_pow pe_int pe_int) (u_call G_law_take (hr.mono (by omega)) pass0 (pa_cons (pv 0) (pa_cons (pe_op o_pow pe_int pe_int) pa_nil)))) (pe_ix (u_ix (K := K)) (pe_lst (pa_cons pe_int (pa_cons (pe_op o_pow pe_int pe_int) pa_nil))) (u_call G_law_take (hr.mono (by omega)) pass0 (pa_cons (pv 0) (pa_cons pe_int pa_nil))) (fun _ _ => rfl))))
    (pss_one (ps_ret (pe_op o_mul (pv 1) (pe_ix (u_ix (K := K)) (pe_lst (pa_cons pe_int (pa_cons (pe_un un_neg pe_int) pa_nil))) (u_call G_law_take (hr.mono (by omega)) pass0 (pa_cons (pv 0) (pa_cons pe_int pa_nil))) (fun _ _ => rfl)))))), ?_⟩
  refine s_start (σ' := [some (.ref p), none]) rfl ?_
  walk_at "rd"
  refine s_pow ⟨by decide, by decide, by decide⟩ ?_
  rw [show ((10 : Int) ^ (9 : Int).toNat) = 1000000000 from by decide]
  walk_at "rd"
  refine s_pow ⟨by decide, by decide, by decide⟩ ?_
  rw [show ((10 : Int) ^ (9 : Int).toNat) = 1000000000 from by decide]
  walk_at "rd"
  refine ⟨p, a, 1000000000, rfl, rfl, by decide, by decide, d, fun H2 n k2 d2 n0 n1 => ?_⟩
  walk_at "rd"
  refine s_pow ⟨by decide, by decide, by decide⟩ ?_
  walk_at "rd"
  refine ⟨sz rfl, fun l3 n3 => ?_⟩
  have s3 := same_upd (o := .lst [.int 1, .int ((10 : Int) ^ (19 : Int).toNat)]) n3
  walk_at "rd"
  refine ⟨p, a, 2, rfl, rfl, by decide, by decide, d2.same s3, fun H4 m k4 d4 m0 m1 => ?_⟩
  obtain ⟨g, hg⟩ : ∃ g : Int, atI [V.int 1, .int ((10 : Int) ^ (19 : Int).toNat)] m = some (.int g) := by
    have : m = 0 ∨ m = 1 := by omega
    rcases this with rfl | rfl
    · exact ⟨_, rfl⟩
    · exact ⟨_, rfl⟩
  refine s_ixL (k4.sqL (d2.ne n3) (SqL.of upd_same)) hg ?_
  refine s_mul (.inl ⟨by omega, by omega⟩) ?_
  walk_at "rd"
  refine ⟨sz rfl, fun l5 n5 => ?_⟩
  have s5 := same_upd (o := .lst [.int 1, .int (-1)]) n5
  walk_at "rd"
  refine ⟨p, a, 2, rfl, rfl, by decide, by decide, d4.same s5, fun H6 c k6 d6 c0 c1 => ?_⟩
  have kk : Keep p H H6 := k2.trans ((Same.keep s3).trans (k4.trans ((Same.keep s5).trans k6)))
  have : c = 0 ∨ c = 1 := by omega
  rcases this with rfl | rfl
  · refine s_ixL (k6.sqL (d4.ne n5) (SqL.of upd_same)) rfl ?_
    refine s_mul (.inr ⟨by decide, by decide⟩) ?_
    exact q _ _ kk d6
  · refine s_ixL (k6.sqL (d4.ne n5) (SqL.of upd_same)) rfl ?_
    refine s_mul (.inr ⟨by decide, by decide⟩) ?_
    exact q _ _ kk d6
theorem ok_table (D : DefAt K mg "_law_table" s_law_table ["_law_draw"]) (B : Blt mg) (G_law_take : OkF P w K mg base CX0 1 "_law_take" ["_law_draw", "_law_sides"] spTake) : OkF P w K mg base CX0 2 "_law_table" ["_law_draw"] (spTable K) := by
  refine D.ok sc_law_table len1 (fun f cdv A outer s H vs Q E hr h => ?_)
  obtain ⟨_, rfl, p, a, rfl, d, q⟩ := h
  refine ⟨_, (pss_cons (ps_set (i := 1) sc_law_table.nd rfl (by first | exact .inl rfl | exact .inr rfl) (pe_lst pa_nil))
    (pss_cons (ps_set (i := 2) sc_law_table.nd rfl (by first | exact .inl rfl | exact .inr rfl) pe_int)
    (pss_cons (ps_for PassesOwn.never (by rfl) (pi_range1 (by rfl) B.range (pa_cons (pe_op (o_add (K := K)) pe_int (u_call G_law_take (hr.mono (by omega)) pass0 (pa_cons (pv 0) (pa_cons pe_int pa_nil)))) pa_nil)) (pg_name (i := 3) sc_law_table.nd rfl (by first | exact .inl rfl | exact .inr rfl)) (pss_cons (ps_expr (u_bm (K := K) PySem.F.plainAttrs_list PySem.F.slot_list_append PySem.F.type_list_append mt_append (pv 1) (pa_cons (pe_tup (pa_cons (pv 2) (pa_cons (u_call G_law_take (hr.mono (by omega)) pass0 (pa_cons (pv 0) (pa_cons pe_int pa_nil))) pa_nil))) pa_nil)))
    (pss_one (ps_set (i := 2) sc_law_table.nd rfl (by first | exact .inl rfl | exact .inr rfl) (pe_op (o_add (K := K)) (pe_op (o_add (K := K)) (pv 2) pe_int) (u_call G_law_take (hr.mono (by omega)) pass0 (pa_cons (pv 0) (pa_cons pe_int pa_nil))))))))
    (pss_one (ps_ret (pe_lc (own := [("_law_at", 4), ("_law_pair", 5)]) (g := (gTup K 2 (gCons (gName 4) (gCons (gName 5) gNil)))) rfl sc_law_table.nd (u_enum (K := K) B.enumerate (pa_cons (pv 1) pa_nil)) (blkOk_by (N := ["_law_draw", "_law_found", "_law_row", "_law_k", "_law_at", "_law_pair"]) (sc := defScope s_law_table) (own := [("_law_at", 4), ("_law_pair", 5)]) (by decide +kernel)) (fun _ _ _ _ _ => (u_tup (K := K) rfl (pgs_cons (pg_name (i := 4) sc_law_table.nd rfl (by first | exact .inl rfl | exact .inr rfl)) (pgs_cons (pg_name (i := 5) sc_law_table.nd rfl (by first | exact .inl rfl | exact .inr rfl)) pgs_nil)))) (fun _ _ _ _ _ => (pts_one (PW.pt (pw_or (pt_cmpR (o_eq (K := K) hr.units) (pv 4) pe_int (nomark _)) (pw_or1 (pt_cmpR (o_ne (K := K) hr.units) (pe_ix (u_ix (K := K)) (pv 5) pe_int (fun _ _ => rfl)) (pe_ix (u_ix (K := K)) (pe_ix (u_ix (K := K)) (pv 1) (pe_op o_sub (pv 4) pe_int) (fun _ _ => rfl)) pe_int (fun _ _ => rfl)) (nomark _))))))) (fun _ _ _ _ _ => (pv 5)))))))), ?_⟩
  refine s_start (σ' := [some (.ref p), none, none, none, none, none]) rfl ?_
  walk_at "rd"
  refine ⟨sz rfl, fun r nr => ?_⟩
  walk_at "rd"
  have rp : r ≠ p := d.ne nr
  have ra : r ≠ a := d.ne2 nr
  have s1 := same_upd (o := .lst []) nr
  have d1 := d.same s1
  have e1 : upd H r (.lst []) r = some (.lst []) := upd_same
  generalize upd H r (.lst []) = H1 at s1 d1 e1 ⊢
  refine ⟨p, a, 7, rfl, rfl, by decide, by decide, d1, fun H2 n k2 d2 n0 n1 => ?_⟩
  walk_at "rd"
  refine ⟨by omega, by omega, ?_⟩
  refine forB_range (n := (1 + n).toNat) (fun i σ H' => ∃ y3 row, ∃ (xs : List V) (t : Tab), σ = [some (.ref p), some (.ref r), some (.int row), y3, none, none] ∧ Draw H' p a ∧ (∀ b o, b ≠ p → H b = some o → H' b = some o) ∧ H' r = some (.lst xs) ∧ DpAll K (hid [p, r] H') xs (t.map dPair) ∧ t.length = i)
    ⟨none, 0, [], [], rfl, d2, fun b o n e => k2 _ _ n (s1 _ _ e), k2 _ _ rp e1, .nil, rfl⟩ ?_ ?_
  · rintro i σ H3 hi ⟨y3, row, xs, t, rfl, d3, kp, e3, dp, tl⟩
    have hxl : xs.length = t.length := by rw [DpAll.length dp, List.length_map]
    walk_at "rd"
    refine s_tyL (SqL.of e3) ?_
    walk_at "rd"
    refine ⟨p, a, 5, rfl, rfl, by decide, by decide, d3, fun H4 ln k4 d4 z0 z1 => ?_⟩
    walk_at "rd"
    refine ⟨sz rfl, fun l5 n5 => ?_⟩
    have s5 := same_upd (o := .tup [.int row, .int ln]) n5
    have e4 := k4 _ _ rp e3
    have r5 : l5 ≠ r := (ne_of_none e4 n5).symm
    have p5 : l5 ≠ p := d4.ne n5
    walk_at "rd"
    refine s_append (s5 _ _ e4) (small1000 (by omega)) ?_
    walk_at "rd"
    have d6 := (d4.same s5).updN (o := .lst (xs ++ [.ref l5])) rp ra
    have e6 : upd (upd H4 l5 (.tup [.int row, .int ln])) r (.lst (xs ++ [.ref l5])) r = some (.lst (xs ++ [.ref l5])) := upd_same
    have dp6 : DpAll K (hid [p, r] (upd (upd H4 l5 (.tup [.int row, .int ln])) r (.lst (xs ++ [.ref l5])))) (xs ++ [.ref l5]) ((t ++ [(row, ln)]).map dPair) := by
      rw [hid_up (by simp), List.map_append]
      refine DpAll.app (Dp.sameAll ((Keep.hid k4 (by simp)).trans (Same.hid s5)) _ _ dp) (DpAll.one (Dp.pair (SqT.of ?_)))
      rw [hid_get (by simp [r5, p5])]
      exact upd_same
    have kp6 : ∀ b o, b ≠ p → H b = some o → upd (upd H4 l5 (.tup [.int row, .int ln])) r (.lst (xs ++ [.ref l5])) b = some o := fun b o nb e => by
      rw [upd_ne (ne_of_none e nr)]
      exact s5 _ _ (k4 _ _ nb (kp _ _ nb e))
    generalize upd (upd H4 l5 (.tup [.int row, .int ln])) r (.lst (xs ++ [.ref l5])) = H6 at d6 e6 dp6 kp6 ⊢
    refine ⟨p, a, 4, rfl, rfl, by decide, by decide, d6, fun H7 c k7 d7 c0 c1 => ?_⟩
    walk_at "rd"
    exact ⟨_, _, _, _, rfl, d7, fun b o nb e => k7 _ _ nb (kp6 _ _ nb e), k7 _ _ rp e6, Dp.sameAll (Keep.hid k7 (by simp)) _ _ dp6, by rw [List.length_append, tl]; rfl⟩
  · rintro σ H5 ⟨y3, row, xs, t, rfl, d5, kp, e5, dp, tl⟩
    have hxl : xs.length = t.length := by rw [DpAll.length dp, List.length_map]
    walk_at "rd"
    refine s_enumL (SqL.of e5) ?_
    refine lcB_of xs.length (fun D i acc H' => Same H5 (hid [D] H') ∧ ∃ t' : Tab, DpAll K (hid [p, r] H5) acc (t'.map dPair) ∧ t'.length ≤ i ∧ (1 ≤ i → 1 ≤ t'.length))
      (fun D hD => ⟨by rw [hid_up List.mem_cons_self, hid_new hD, hid_nil]; exact Same.refl _, [], .nil, Nat.le_refl _, fun h => nomatch h⟩)
      (fun D i acc H' hD hi hS => ⟨xs, xs[i], hid_same.seq (hS.1.seq (SqL.of e5)), List.getElem?_eq_getElem _⟩)
      (fun D acc H' hD hS => ⟨xs, hid_same.seq (hS.1.seq (SqL.of e5)), Nat.le_refl _⟩) ?_ ?_
    · rintro D i acc H' v _ hD hi ha hla ⟨sm, t', dt, tl', t1⟩ ⟨T, z, rfl, nT, rfl, hz⟩
      have hx := hz xs (hid_same.seq (sm.seq (SqL.of e5)))
      obtain ⟨dz, edz, hdz⟩ := DpAll.get dp hx
      rw [List.getElem?_map] at edz
      obtain ⟨pr, epr, rfl⟩ := Option.map_eq_some_iff.mp edz
      obtain ⟨bz, rfl, hbz⟩ := Dp.pair_of hdz
      have sT := same_upd (o := .tup [.int (i : Nat), .ref bz]) nT
      refine s_gTup (SqT.of upd_same) rfl (s_gCons (s_gName (s_gCons (s_gName (s_gNil ⟨rfl, ?_⟩)))))
      have smT : Same H5 (hid [D] (upd H' T (.tup [.int (i : Nat), .ref bz]))) := sm.trans (Same.hid sT)
      have aT := sT _ _ ha
      generalize upd H' T (.tup [.int (i : Nat), .ref bz]) = H8 at smT aT ⊢
      have s58 := smT.trans hid_same
      have put : LcPost (fun D i acc H' => Same H5 (hid [D] H') ∧ ∃ t' : Tab, DpAll K (hid [p, r] H5) acc (t'.map dPair) ∧ t'.length ≤ i ∧ (1 ≤ i → 1 ≤ t'.length)) D i (.ref bz) H8 :=
        LcPost.mk aT hla (by omega) ⟨by rw [hid_up List.mem_cons_self]; exact smT, t' ++ [pr], by rw [List.map_append]; exact DpAll.app dt (DpAll.one hdz), by rw [List.length_append]; exact Nat.add_le_add_right tl' 1, fun _ => by rw [List.length_append]; exact Nat.le_add_left 1 _⟩
      walk_at "rd"
      refine s_eq rfl ?_
      walk_at "rd"
      refine br (fun c0 => ?_) (fun c0 => ?_)
      · refine iteT ?_
        walk_at "rd"
        exact put
      · have i0 : i ≠ 0 := fun e => c0 (by rw [e]; rfl)
        walk_at "rd"
        refine s_ixT (Same.sqT (hid_same.trans s58) hbz) rfl ?_
        walk_at "rd"
        obtain ⟨b1, eb1, hb1⟩ := DpAll.pair dp (List.getElem?_eq_getElem (show i - 1 < xs.length by omega))
        refine s_ixL (SqL.of (s58 _ _ e5)) (at_of (j := i - 1) (by omega) (by rw [List.getElem?_eq_getElem (show i - 1 < xs.length by omega), eb1])) ?_
        walk_at "rd"
        refine s_ixT (Same.sqT (hid_same.trans s58) hb1) rfl ?_
        refine s_ne rfl ?_
        walk_at "rd"
        refine brN (fun c1 => ?_) (fun c1 => ?_)
        · walk_at "rd"
          exact put
        · exact LcSkip.mk aT hla ⟨smT, t', dt, by omega, fun _ => t1 (by omega)⟩
    · rintro D acc H' hD ha hla ⟨sm, t', dt, tl', t1⟩
      have sm2 := Same.hid sm (S := [p])
      rw [hid_hid] at sm2
      exact q H' D acc t' (fun b o nb e => hid_same _ _ (sm _ _ (kp _ _ nb e))) ((d5.same sm).same hid_same) (by cases e : H D with | none => rfl | some o => exact absurd (kp D o (d5.ne hD) e) (by rw [hD]; intro z; cases z)) ha (Dp.sameAll ((hid_less (by simp)).trans sm2) _ _ dt) (t1 (by omega)) (by omega)
theorem ok_good (D : DefAt K mg "_law_table_good" s_law_table_good ["_law_table_here", "_law_many"]) (B : Blt mg) : OkF P w K mg base CX0 1 "_law_table_good" ["_law_table_here", "_law_many"] (spGood K) := by
  refine D.ok sc_law_table_good len2 (fun f cdv A outer s H vs Q E hr h => ?_)
  obtain ⟨_, _, rfl, t, many, rfl, hT, hl, qg, qb⟩ := h
  obtain ⟨a, xs, rfl, hS, hD⟩ := Dp.tab_of hT
  have hxl : xs.length = t.length := by rw [DpAll.length hD, List.length_map]
  refine ⟨_, (pss_cons (ps_if (PW.pt (pw_or (pt_not (pt_chain o_le o_le pe_int (pv 1) pe_int)) (pw_or (pt_cmpR (o_eq (K := K) hr.units) (pv 0) (pe_lst pa_nil) (nomark _)) (pw_or1 (pt_cmpR (o_ne (K := K) hr.units) (pe_ix (u_ix (K := K)) (pe_ix (u_ix (K := K)) (pv 0) pe_int (fun _ _ => rfl)) pe_int (fun _ _ => rfl)) pe_int (nomark _)))))) (pss_one (ps_ret pe_bl)) pss_nil)
    (pss_cons (ps_if (pt_not (u_truth (K := K) (pe_callB (u_all (K := K) rfl) (by rfl) B.all (by decide +kernel) (pa_cons (pe_lc (own := [("_law_row", 3), ("_law_line", 4)]) (g := (gTup K 2 (gCons (gName 3) (gCons (gName 4) gNil)))) (tt := tYes) rfl sc_law_table_good.nd (u_iList (K := K) (pv 0)) (blkOk_by (N := ["_law_table_here", "_law_many", "_law_at", "_law_row", "_law_line"]) (sc := defScope s_law_table_good) (own := [("_law_row", 3), ("_law_line", 4)]) (by decide +kernel)) (fun _ _ _ _ _ => (u_tup (K := K) rfl (pgs_cons (pg_name (i := 3) sc_law_table_good.nd rfl (by first | exact .inl rfl | exact .inr rfl)) (pgs_cons (pg_name (i := 4) sc_law_table_good.nd rfl (by first | exact .inl rfl | exact .inr rfl)) pgs_nil)))) (fun _ _ _ _ _ => pts_nil) (fun _ _ _ _ _ => (pe_and (pe_chain o_le o_lt pe_int (pv 3) (pv 1)) (pe_one (pe_cmpR o_ge (pv 4) pe_int (nomark _)))))) pa_nil)))) (pss_one (ps_ret pe_bl)) pss_nil)
    (pss_one (ps_ret (pe_callB (u_all (K := K) rfl) (by rfl) B.all (by decide +kernel) (pa_cons (pe_lc (own := [("_law_at", 2)]) (g := (gName 2)) (tt := tYes) rfl sc_law_table_good.nd (pi_range1 (by rfl) B.range (pa_cons (pe_op o_sub (pe_callB (u_len (K := K)) (by rfl) B.len (by decide +kernel) (pa_cons (pv 0) pa_nil)) pe_int) pa_nil)) (blkOk_by (N := ["_law_table_here", "_law_many", "_law_at", "_law_row", "_law_line"]) (sc := defScope s_law_table_good) (own := [("_law_at", 2)]) (by decide +kernel)) (fun _ _ _ _ _ => (pg_name (i := 2) sc_law_table_good.nd rfl (by first | exact .inl rfl | exact .inr rfl))) (fun _ _ _ _ _ => pts_nil) (fun _ _ _ _ _ => (pe_and (pe_cmpR o_lt (pe_ix (u_ix (K := K)) (pe_ix (u_ix (K := K)) (pv 0) (pv 2) (fun _ _ => rfl)) pe_int (fun _ _ => rfl)) (pe_ix (u_ix (K := K)) (pe_ix (u_ix (K := K)) (pv 0) (pe_op (o_add (K := K)) (pv 2) pe_int) (fun _ _ => rfl)) pe_int (fun _ _ => rfl)) (nomark _)) (pe_one (pe_cmpR (o_ne (K := K) hr.units) (pe_ix (u_ix (K := K)) (pe_ix (u_ix (K := K)) (pv 0) (pv 2) (fun _ _ => rfl)) pe_int (fun _ _ => rfl)) (pe_ix (u_ix (K := K)) (pe_ix (u_ix (K := K)) (pv 0) (pe_op (o_add (K := K)) (pv 2) pe_int) (fun _ _ => rfl)) pe_int (fun _ _ => rfl)) (nomark _)))))) pa_nil)))))), ?_⟩
  refine s_start (σ' := [some (.ref a), some (.int many), none, none, none]) rfl ?_
  walk_at "rd"
  refine br (fun c1 => ?_) (fun c1 => ?_)
  · walk_at "rd"
    refine brB (fun c2 => ?_) (fun c2 => ?_)
    · refine iteT ?_
      walk_at "rd"
      exact qb (fun g => by rw [decide_eq_true g.2.1] at c2; exact absurd c2 (by decide)) _ (Same.refl _)
    have m2 : many ≤ 400 := by
      by_cases h : many ≤ 400
      · exact h
      · rw [decide_eq_false h] at c2
        exact absurd c2 (by decide)
    walk_at "rd"
    refine ⟨sz rfl, fun l3 n3 => ?_⟩
    have s3 := same_upd (o := .lst []) n3
    refine s_eqD (Dp.same s3 _ _ hT) (.lst (SqL.of upd_same) .nil) (shaped_tab t) rfl ?_
    walk_at "rd"
    refine brB (fun c3 => ?_) (fun c3 => ?_)
    · refine iteT ?_
      walk_at "rd"
      refine qb (fun g => ?_) _ s3
      cases t with
      | nil => exact absurd g.2.2.1 (Nat.lt_irrefl _)
      | cons x r => simp [dTab, PyData.eqv, PyData.eqvAll] at c3
    have t0 : t ≠ [] := fun e => by
      rw [e] at c3
      simp [dTab, PyData.eqv, PyData.eqvAll] at c3
    have tl := List.length_pos_iff.mpr t0
    obtain ⟨b1, eb1, hb1⟩ := DpAll.pair hD (List.getElem?_eq_getElem (show 0 < xs.length by omega))
    walk_at "rd"
    refine s_ixL (s3.seq hS) (at_of (j := 0) rfl (by rw [List.getElem?_eq_getElem (show 0 < xs.length by omega), eb1])) ?_
    walk_at "rd"
    refine s_ixT (Same.sqT s3 hb1) rfl ?_
    walk_at "rd"
    refine s_ne rfl ?_
    walk_at "rd"
    refine brN (fun c4 => ?_) (fun c4 => ?_)
    · walk_at "rd"
      exact qb (fun g => c4 (by rw [g.2.2.2.1])) _ s3
    walk_at "rd"
    have hS3 := s3.seq hS
    have hD3 := Dp.sameAll s3 _ _ hD
    generalize upd H l3 (.lst []) = H3 at s3 hS3 hD3 ⊢
    refine s_itL hS3 ?_
    refine lcB_of xs.length (fun D i acc H' => Same H3 (hid [D] H') ∧ acc = ((List.range i).map (g1 t many)).map V.bl)
      (fun D hD => ⟨by rw [hid_up List.mem_cons_self, hid_new hD, hid_nil]; exact Same.refl _, rfl⟩)
      (fun D i acc H' hD hi hS => ⟨xs, xs[i], hid_same.seq (hS.1.seq hS3), List.getElem?_eq_getElem _⟩)
      (fun D acc H' hD hS => ⟨xs, hid_same.seq (hS.1.seq hS3), Nat.le_refl _⟩) ?_ ?_
    · rintro D i acc H0 z H' hDn hi ha hla ⟨sm, ea⟩ ⟨rfl, hz⟩
      have hx := hz xs (hid_same.seq (sm.seq hS3))
      obtain ⟨bz, rfl, hbz⟩ := DpAll.pair hD3 hx
      refine s_gTup (Same.sqT (sm.trans hid_same) hbz) rfl (s_gCons (s_gName (s_gCons (s_gName (s_gNil ⟨rfl, ?_⟩)))))
      have put : LcPost (fun D i acc H' => Same H3 (hid [D] H') ∧ acc = ((List.range i).map (g1 t many)).map V.bl) D i (.bl (g1 t many i)) H' :=
        LcPost.mk ha hla (by omega) ⟨by rw [hid_up List.mem_cons_self]; exact sm, by rw [ea, List.range_succ, List.map_append, List.map_append]; rfl⟩
      unfold g1 at put
      walk_at "rd"
      refine br (fun e1 => ?_) (fun e1 => ?_)
      · rw [decide_eq_true e1, Bool.true_and] at put
        walk_at "rd"
        refine brB (fun e2 => ?_) (fun e2 => ?_)
        · rw [e2, Bool.true_and] at put
          walk_at "rd"
          exact put
        · rw [e2, Bool.false_and] at put
          exact put
      · rw [decide_eq_false e1, Bool.false_and, Bool.false_and] at put
        walk_at "rd"
        exact iteF put
    · rintro D acc H4 hDn ha hla ⟨sm, ea⟩
      walk_at "rd"
      refine ⟨D, (List.range xs.length).map (g1 t many), rfl, SqL.of (by rw [ha, ea]), ?_⟩
      walk_at "rd"
      have s4 := s3.trans (sm.trans hid_same)
      refine brB (fun c5 => ?_) (fun c5 => ?_)
      · walk_at "rd"
        refine qb (fun g => ?_) _ s4
        have : ((List.range xs.length).map (g1 t many)).all id = true := by
          rw [List.all_map, List.all_eq_true]
          intro i hi
          exact g.g1 i (by rw [← hxl]; exact List.mem_range.mp hi)
        rw [this] at c5
        cases c5
      · have c5 : ((List.range xs.length).map (g1 t many)).all id = true := Bool.not_eq_eq_eq_not.mp c5
        walk_at "rd"
        refine s_lenL (s4.seq hS) ?_
        walk_at "rd"
        refine ⟨by omega, by omega, ?_⟩
        rw [show ((xs.length : Int) - 1).toNat = xs.length - 1 by omega]
        refine lcB_of (xs.length - 1) (fun D i acc H' => Same H4 (hid [D] H') ∧ acc = ((List.range i).map (g2 t)).map V.bl)
          (fun D hD => ⟨by rw [hid_up List.mem_cons_self, hid_new hD, hid_nil]; exact Same.refl _, rfl⟩) (fun D i acc H' hD hi _ => hi) (fun D acc H' hD hS => Nat.le_refl _) ?_ ?_
        · rintro D i acc H0 _ H' hDn hi ha hla ⟨sm, ea⟩ ⟨rfl, rfl⟩
          refine s_gName ⟨rfl, ?_⟩
          have put : LcPost (fun D i acc H' => Same H4 (hid [D] H') ∧ acc = ((List.range i).map (g2 t)).map V.bl) D i (.bl (g2 t i)) H' :=
            LcPost.mk ha hla (by omega) ⟨by rw [hid_up List.mem_cons_self]; exact sm, by rw [ea, List.range_succ, List.map_append, List.map_append]; rfl⟩
          unfold g2 at put
          have s5 := s4.trans (sm.trans hid_same)
          obtain ⟨b2, eb2, hb2⟩ := DpAll.pair hD (List.getElem?_eq_getElem (show i < xs.length by omega))
          obtain ⟨b3, eb3, hb3⟩ := DpAll.pair hD (List.getElem?_eq_getElem (show i + 1 < xs.length by omega))
          have x2 : atI xs (0 + (i : Nat)) = some (.ref b2) := at_of (j := i) (by omega) (by rw [List.getElem?_eq_getElem (show i < xs.length by omega), eb2])
          have x3 : atI xs (0 + (i : Nat) + 1) = some (.ref b3) := at_of (j := i + 1) (by omega) (by rw [List.getElem?_eq_getElem (show i + 1 < xs.length by omega), eb3])
          walk_at "rd"
          refine s_ixL (s5.seq hS) x2 ?_
          walk_at "rd"
          refine s_ixT (Same.sqT s5 hb2) rfl ?_
          walk_at "rd"
          refine s_ixL (s5.seq hS) x3 ?_
          walk_at "rd"
          refine s_ixT (Same.sqT s5 hb3) rfl ?_
          walk_at "rd"
          refine brB (fun e2 => ?_) (fun e2 => ?_)
          · rw [e2, Bool.true_and] at put
            walk_at "rd"
            refine s_ixL (s5.seq hS) x2 ?_
            walk_at "rd"
            refine s_ixT (Same.sqT s5 hb2) rfl ?_
            walk_at "rd"
            refine s_ixL (s5.seq hS) x3 ?_
            walk_at "rd"
            refine s_ixT (Same.sqT s5 hb3) rfl ?_
            refine s_ne rfl ?_
            exact put
          · rw [e2, Bool.false_and] at put
            exact put
        · rintro D acc H6 hDn ha hla ⟨sm, ea⟩
          walk_at "rd"
          refine ⟨D, (List.range (xs.length - 1)).map (g2 t), rfl, SqL.of (by rw [ha, ea]), ?_⟩
          have s6 := s4.trans (sm.trans hid_same)
          have a1 : ∀ i, i < t.length → g1 t many i = true := fun i hi => by
            rw [List.all_map, List.all_eq_true] at c5
            exact c5 i (List.mem_range.mpr (by omega))
          by_cases c6 : ((List.range (xs.length - 1)).map (g2 t)).all id = true
          · rw [c6]
            refine qg (good_of c1 m2 t0 (V.int.inj c4) a1 fun i hi => ?_) _ s6
            rw [List.all_map, List.all_eq_true] at c6
            exact c6 i (List.mem_range.mpr (by omega))
          · rw [Bool.eq_false_iff.mpr c6]
            refine qb (fun g => c6 ?_) _ s6
            rw [List.all_map, List.all_eq_true]
            intro i hi
            exact g.g2 i (by rw [← hxl]; exact List.mem_range.mp hi)
  · walk_at "rd"
    refine iteT ?_
    refine iteT ?_
    walk_at "rd"
    exact qb (fun g => c1 g.1) _ (Same.refl _)
theorem ok_told8 {c_BadTable c_BadPlace : Addr} (D : DefAt K mg "_law_told" s_law_told ["_law_choice", "_law_table_here", "_law_many", "_law_spot"]) (B : Blt mg) (X_BadTable : ExcAt K mg "BadTable" c_BadTable) (X_BadPlace : ExcAt K mg "BadPlace" c_BadPlace)
    (mTT : PySem.W.exmOne K (.ref c_BadTable) (.ref c_BadTable) = some true) (mPT : PySem.W.exmOne K (.ref c_BadPlace) (.ref c_BadTable) = some false) (mPP : PySem.W.exmOne K (.ref c_BadPlace) (.ref c_BadPlace) = some true)
    (G_unpacked : OkF P w K mg base (L2.CX P w) 2 "unpacked" ["table", "many"] (spUnpacked K c_BadTable)) (G_line_at : OkF P w K mg base (L2.CX P w) 2 "line_at" ["table", "many", "row"] (spLineAt K c_BadTable c_BadPlace)) (G_rows_of : OkF P w K mg base (L2.CX P w) 3 "rows_of" ["table", "many", "line"] (spRowsOf K c_BadTable)) :
    OkF P w K mg base CX0 4 "_law_told" ["_law_choice", "_law_table_here", "_law_many", "_law_spot"] (spTold8 K) := by
  refine D.ok sc_law_told len4 (fun f cdv A outer s H vs Q E hr h => ?_)
  obtain ⟨_, _, _, _, rfl, t, choice, many, spot, rfl, rfl, rfl, hT, hl, q⟩ := h
  obtain ⟨a, xs, rfl, _, _⟩ := Dp.tab_of hT
  refine ⟨_, (pss_one (u_try_many (K := K) rfl rfl takes0 (fun W pn xe tk po => (pss_cons (ps_if (pt_cmpR (o_eq (K := K) hr.units) (pv 0) pe_int (nomark _)) (pss_one (ps_ret (u_callS G_unpacked (hr.mono (by omega)) tk (pa_cons (pv 1) (pa_cons (pv 2) pa_nil))))) pss_nil)
    (pss_one (ps_ret (pe_ifExp (pt_cmpR (o_eq (K := K) hr.units) (pv 0) pe_int (nomark _)) (u_callS G_line_at (hr.mono (by omega)) tk (pa_cons (pv 1) (pa_cons (pv 2) (pa_cons (pv 3) pa_nil)))) (u_callS G_rows_of (hr.mono (by omega)) tk (pa_cons (pv 1) (pa_cons (pv 2) (pa_cons (pv 3) pa_nil))))))))) (HdsOk.cons (names_own X_BadTable) (fun a_ oe_ cls_ d_ pn_ hz_ hf_ => (pss_one (ps_ret pe_str))) (HdsOk.cons (names_own X_BadPlace) (fun a_ oe_ cls_ d_ pn_ hz_ hf_ => (pss_one (ps_ret pe_str))) HdsOk.nil)))), ?_⟩
  refine s_start (σ' := [some (.int choice), some (.ref a), some (.int many), some (.int spot)]) rfl ?_
  have badT : ¬ Good t many → ∀ H', Same H H' → Q (.str (Str.ofString "BadTable")) H' := fun ng H' s' => q H' _ s' (by unfold dueD; rw [if_neg ng]; exact .str _)
  walk_at "rd"
  refine s_eq rfl ?_
  walk_at "rd"
  refine br (fun c0 => ?_) (fun c0 => ?_)
  · walk_at "rd"
    refine ⟨t, many, rfl, hT, hl, fun g H1 u s1 nu eu => ?_, fun ng H1 s1 => ?_⟩
    · refine q H1 _ s1 ?_
      unfold dueD
      rw [if_pos g, if_pos (V.int.inj c0)]
      exact Dp.ints (SqL.of eu)
    · refine s_many1 mTT fun b nb => ?_
      walk_at "rd"
      exact badT ng H1 s1
  · walk_at "rd"
    refine s_eq rfl ?_
    walk_at "rd"
    have n0 : choice ≠ 0 := fun e => c0 (by rw [e])
    refine br (fun c1 => ?_) (fun c1 => ?_)
    · walk_at "rd"
      refine ⟨t, many, spot, rfl, rfl, hT, hl, fun g H1 v s1 r0 r1 hv => ?_, fun ng H1 s1 => ?_, fun g nb H1 s1 => ?_⟩
      · refine q H1 _ s1 ?_
        unfold dueD
        rw [if_pos g, if_neg n0, if_pos (V.int.inj c1), if_pos ⟨r0, r1⟩, List.getD_eq_getElem?_getD, hv]
        exact .int v
      · refine s_many1 mTT fun b nb => ?_
        walk_at "rd"
        exact badT ng H1 s1
      · refine s_many0 mPT (s_many1 mPP fun b nb => ?_)
        walk_at "rd"
        refine q H1 _ s1 ?_
        unfold dueD
        rw [if_pos g, if_neg n0, if_pos (V.int.inj c1), if_neg (by assumption)]
        exact .str _
    · walk_at "rd"
      refine ⟨t, many, spot, rfl, rfl, hT, hl, fun g H1 u s1 nu eu => ?_, fun ng H1 s1 => ?_⟩
      · refine q H1 _ s1 ?_
        unfold dueD
        rw [if_pos g, if_neg n0, if_neg (fun e => c1 (by rw [e]))]
        exact Dp.ints (SqL.of eu)
      · refine s_many1 mTT fun b nb => ?_
        walk_at "rd"
        exact badT ng H1 s1
abbrev spLaw (K : PySem.W.Frag) : Sp := sp1 fun v H Q _ => ∃ (a : Addr) (ns : List Int), v = .ref a ∧ SqL K H a (ns.map V.int) ∧ ns.length ≤ 63 ∧ ∀ H', Q (.bl true) H'
theorem ok_law {fa : Addr} {fd : FuncData} (F : Fun K "law" "law" s_law fa fd) (B : Blt mg) (G_law_begin : OkF P w K mg base CX0 1 "_law_begin" ["_law_script"] (spBegin K)) (G_law_take : OkF P w K mg base CX0 1 "_law_take" ["_law_draw", "_law_sides"] spTake) (G_law_one : OkF P w K mg base CX0 2 "_law_one" ["_law_draw", "_law_row"] (spOne K))
    (G_law_same : OkF P w K mg base CX0 3 "_law_same" ["_law_found", "_law_due"] (spSame K 3)) (G_law_far : OkF P w K mg base CX0 2 "_law_far" ["_law_draw"] spFar) (G_law_table : OkF P w K mg base CX0 2 "_law_table" ["_law_draw"] (spTable K)) (G_law_table_good : OkF P w K mg base CX0 1 "_law_table_good" ["_law_table_here", "_law_many"] (spGood K))
    (G_law_told : OkF P w K mg base CX0 4 "_law_told" ["_law_choice", "_law_table_here", "_law_many", "_law_spot"] (spTold8 K)) :
    FnOk P w K mg base CX0 5 fa fd ["_law_script"] (spLaw K) := by
  refine F.ok sc_law len1 (fun cdv A outer s H vs Q E hr h => ?_)
  obtain ⟨_, rfl, b, ns, rfl, hS, hl, q⟩ := h
  refine ⟨_, (pss_cons (ps_set (i := 1) sc_law.nd rfl (by first | exact .inl rfl | exact .inr rfl) (u_call G_law_begin (hr.mono (by omega)) pass0 (pa_cons (pv 0) pa_nil)))
    (pss_cons (ps_for PassesOwn.never (by rfl) (pi_range1 (by rfl) B.range (pa_cons pe_int pa_nil)) (pg_name (i := 2) sc_law.nd rfl (by first | exact .inl rfl | exact .inr rfl)) (pss_cons (ps_set (i := 3) sc_law.nd rfl (by first | exact .inl rfl | exact .inr rfl) (u_call G_law_table (hr.mono (by omega)) pass0 (pa_cons (pv 1) pa_nil)))
    (pss_cons (ps_set (i := 4) sc_law.nd rfl (by first | exact .inl rfl | exact .inr rfl) (pe_op (o_add (K := K)) (pe_op (o_add (K := K)) (pe_ix (u_ix (K := K)) (pe_ix (u_ix (K := K)) (pv 3) (pe_un un_neg pe_int) (fun _ _ => rfl)) pe_int (fun _ _ => rfl)) pe_int) (u_call G_law_take (hr.mono (by omega)) pass0 (pa_cons (pv 1) (pa_cons pe_int pa_nil)))))
    (pss_cons (ps_if (pt_cmpR (o_eq (K := K) hr.units) (u_call G_law_take (hr.mono (by omega)) pass0 (pa_cons (pv 1) (pa_cons pe_int pa_nil))) pe_int (nomark _)) (pss_one (ps_set (i := 4) sc_law.nd rfl (by first | exact .inl rfl | exact .inr rfl) (u_call G_law_one (hr.mono (by omega)) pass0 (pa_cons (pv 1) (pa_cons (pe_lst (pa_cons (pe_ix (u_ix (K := K)) (pe_ix (u_ix (K := K)) (pv 3) (pe_un un_neg pe_int) (fun _ _ => rfl)) pe_int (fun _ _ => rfl)) (pa_cons pe_int (pa_cons (pe_un un_neg pe_int) (pa_cons pe_int (pa_cons pe_int (pa_cons (u_call G_law_far (hr.mono (by omega)) pass0 (pa_cons (pv 1) pa_nil)) pa_nil))))))) pa_nil))))) pss_nil)
    (pss_cons (ps_if (pt_cmpR (o_eq (K := K) hr.units) (u_call G_law_take (hr.mono (by omega)) pass0 (pa_cons (pv 1) (pa_cons pe_int pa_nil))) pe_int (nomark _)) (pss_cons (ps_set (i := 5) sc_law.nd rfl (by first | exact .inl rfl | exact .inr rfl) (u_call G_law_take (hr.mono (by omega)) pass0 (pa_cons (pv 1) (pa_cons (pe_callB (u_len (K := K)) (by rfl) B.len (by decide +kernel) (pa_cons (pv 3) pa_nil)) pa_nil))))
    (pss_one (ps_asg (pe_tup (pa_cons (pe_op o_sub (pe_op (o_add (K := K)) (pe_ix (u_ix (K := K)) (pe_ix (u_ix (K := K)) (pv 3) (pv 5) (fun _ _ => rfl)) pe_int (fun _ _ => rfl)) (u_call G_law_take (hr.mono (by omega)) pass0 (pa_cons (pv 1) (pa_cons pe_int pa_nil)))) pe_int) (pa_cons (u_call G_law_one (hr.mono (by omega)) pass0 (pa_cons (pv 1) (pa_cons (pe_lst (pa_cons (pe_ix (u_ix (K := K)) (pe_ix (u_ix (K := K)) (pv 3) (pv 5) (fun _ _ => rfl)) pe_int (fun _ _ => rfl)) (pa_cons (pe_un un_neg pe_int) (pa_cons pe_int (pa_cons pe_int pa_nil))))) pa_nil))) pa_nil))) (pg_sub (pv 3) (pv 5) set_list)))) pss_nil)
    (pss_cons (ps_if (pt_cmpR (o_eq (K := K) hr.units) (u_call G_law_take (hr.mono (by omega)) pass0 (pa_cons (pv 1) (pa_cons pe_int pa_nil))) pe_int (nomark _)) (pss_one (ps_set (i := 3) sc_law.nd rfl (by first | exact .inl rfl | exact .inr rfl) (pe_slice (sl_u (K := K)) (pv 3) (po_some pe_int) po_none))) pss_nil)
    (pss_cons (ps_set (i := 6) sc_law.nd rfl (by first | exact .inl rfl | exact .inr rfl) (u_call G_law_one (hr.mono (by omega)) pass0 (pa_cons (pv 1) (pa_cons (pe_lst (pa_cons (u_call G_law_take (hr.mono (by omega)) pass0 (pa_cons (pv 1) (pa_cons pe_int pa_nil))) (pa_cons (pe_un un_neg pe_int) (pa_cons (pv 4) (pa_cons (pe_op o_sub (pv 4) pe_int) (pa_cons (u_call G_law_far (hr.mono (by omega)) pass0 (pa_cons (pv 1) pa_nil)) pa_nil)))))) pa_nil))))
    (pss_cons (ps_set (i := 7) sc_law.nd rfl (by first | exact .inl rfl | exact .inr rfl) (pe_op o_mul (pe_lst (pa_cons pe_str pa_nil)) pe_int))
    (pss_cons (ps_if (u_truth (K := K) (u_call G_law_table_good (hr.mono (by omega)) pass0 (pa_cons (pv 3) (pa_cons (pv 4) pa_nil)))) (pss_cons (ps_set (i := 8) sc_law.nd rfl (by first | exact .inl rfl | exact .inr rfl) (pe_lst pa_nil))
    (pss_cons (ps_for PassesOwn.never (by rfl) (pi_range1 (by rfl) B.range (pa_cons (pv 4) pa_nil)) (pg_name (i := 9) sc_law.nd rfl (by first | exact .inl rfl | exact .inr rfl)) (pss_one (ps_expr (u_bm (K := K) PySem.F.plainAttrs_list PySem.F.slot_list_append PySem.F.type_list_append mt_append (pv 8) (pa_cons (pe_ix (u_ix (K := K)) (pe_lc (own := [("_law_first", 13), ("_law_line", 14)]) (g := (gTup K 2 (gCons (gName 13) (gCons (gName 14) gNil)))) rfl sc_law.nd (u_iList (K := K) (pv 3)) (blkOk_by (N := ["_law_script", "_law_draw", "_law_k", "_law_table_here", "_law_many", "_law_at", "_law_spot", "_law_due", "_law_lines", "_law_row", "_law_choice", "_law_handed", "_law_r", "_law_first", "_law_line"]) (sc := defScope s_law) (own := [("_law_first", 13), ("_law_line", 14)]) (by decide +kernel)) (fun _ _ _ _ _ => (u_tup (K := K) rfl (pgs_cons (pg_name (i := 13) sc_law.nd rfl (by first | exact .inl rfl | exact .inr rfl)) (pgs_cons (pg_name (i := 14) sc_law.nd rfl (by first | exact .inl rfl | exact .inr rfl)) pgs_nil)))) (fun _ _ _ _ _ => (pts_one (pt_cmpR o_le (pv 13) (pv 9) (nomark _)))) (fun _ _ _ _ _ => (pv 14))) (pe_un un_neg pe_int) (fun _ _ => rfl)) pa_nil)))))
    (pss_one (ps_set (i := 7) sc_law.nd rfl (by first | exact .inl rfl | exact .inr rfl) (pe_lst (pa_cons (pv 8) (pa_cons (pe_ifExp (pt_chain o_le o_lt pe_int (pv 6) (pv 4)) (pe_ix (u_ix (K := K)) (pv 8) (pv 6) (fun _ _ => rfl)) pe_str) (pa_cons (pe_lc (own := [("_law_r", 12)]) (g := (gName 12)) rfl sc_law.nd (pi_range1 (by rfl) B.range (pa_cons (pv 4) pa_nil)) (blkOk_by (N := ["_law_script", "_law_draw", "_law_k", "_law_table_here", "_law_many", "_law_at", "_law_spot", "_law_due", "_law_lines", "_law_row", "_law_choice", "_law_handed", "_law_r", "_law_first", "_law_line"]) (sc := defScope s_law) (own := [("_law_r", 12)]) (by decide +kernel)) (fun _ _ _ _ _ => (pg_name (i := 12) sc_law.nd rfl (by first | exact .inl rfl | exact .inr rfl))) (fun _ _ _ _ _ => (pts_one (pt_cmpR (o_eq (K := K) hr.units) (pe_ix (u_ix (K := K)) (pv 8) (pv 12) (fun _ _ => rfl)) (pv 6) (nomark _)))) (fun _ _ _ _ _ => (pv 12))) pa_nil)))))))) pss_nil)
    (pss_one (ps_for PassesOwn.never (by rfl) (pi_range1 (by rfl) B.range (pa_cons pe_int pa_nil)) (pg_name (i := 10) sc_law.nd rfl (by first | exact .inl rfl | exact .inr rfl)) (pss_cons (ps_set (i := 11) sc_law.nd rfl (by first | exact .inl rfl | exact .inr rfl) (pe_callTy (call_listU (K := K) rfl) (by rfl) B.list (by decide +kernel) (pa_cons (pv 3) pa_nil)))
    (pss_one (ps_if (PW.pt (pw_or (pt_not (u_truth (K := K) (u_call G_law_same (hr.mono (by omega)) pass0 (pa_cons (u_call G_law_told (hr.mono (by omega)) pass0 (pa_cons (pv 10) (pa_cons (pv 11) (pa_cons (pv 4) (pa_cons (pv 6) pa_nil))))) (pa_cons (pe_ix (u_ix (K := K)) (pv 7) (pv 10) (fun _ _ => rfl)) pa_nil))))) (pw_or1 (pt_cmpR (o_ne (K := K) hr.units) (pv 11) (pv 3) (nomark _))))) (pss_one (ps_ret pe_bl)) pss_nil))))))))))))))
    (pss_one (ps_ret pe_bl)))), ?_⟩
  refine s_start (σ' := [some (.ref b), none, none, none, none, none, none, none, none, none, none, none, none, none, none]) rfl ?_
  walk_at "rd"
  refine ⟨b, ns, rfl, hS, hl, fun H1 p a s1 n1 d1 => ?_⟩
  walk_at "rd"
  refine ⟨by decide, by decide, ?_⟩
  refine forB_range (n := 8) (fun i σ H' => ∃ y2 y3 y4 y5 y6 y7 y8 y9 y10 y11 y12 y13 y14, σ = [some (.ref b), some (.ref p), y2, y3, y4, y5, y6, y7, y8, y9, y10, y11, y12, y13, y14] ∧ Draw H' p a) ⟨_, _, _, _, _, _, _, _, _, _, _, _, _, rfl, d1⟩ ?_ ?_
  rotate_left
  · rintro σ H2 ⟨y2, y3, y4, y5, y6, y7, y8, y9, y10, y11, y12, y13, y14, rfl, d2⟩
    walk_at "rd"
    exact q _
  rintro i0 σ H2 hi0 ⟨y2, y3, y4, y5, y6, y7, y8, y9, y10, y11, y12, y13, y14, rfl, d2⟩
  generalize hk0 : ((0 : Int) + (i0 : Nat)) = k0
  walk_at "rd"
  refine ⟨p, a, rfl, d2, fun H3 l xs t k3 d3 nl el dp t1 t8 => ?_⟩
  have lp : l ≠ p := d2.ne nl
  have hxl : xs.length = t.length := by rw [DpAll.length dp, List.length_map]
  -- the last pair's row
  have last : ∀ (H' : Hp) (l : Addr) (xs : List V) (t : Tab), H' l = some (.lst xs) → DpAll K (hid [p, l] H') xs (t.map dPair) → 1 ≤ t.length → ∃ bb r ln, atI xs (-1) = some (.ref bb) ∧ SqT K H' bb [.int r, .int ln] := by
    intro H' l xs t e d h1
    have hl : xs.length = t.length := by rw [DpAll.length d, List.length_map]
    obtain ⟨bb, eb, hb⟩ := DpAll.pair d (List.getElem?_eq_getElem (show xs.length - 1 < xs.length by omega))
    exact ⟨bb, _, _, atI_m1 (by rw [List.getElem?_eq_getElem (show xs.length - 1 < xs.length by omega), eb]), Same.sqT hid_same hb⟩
  obtain ⟨bb, r, ln, eb, hb⟩ := last H3 l xs t el dp t1
  walk_at "rd"
  refine s_ixL (SqL.of el) eb ?_
  walk_at "rd"
  refine s_ixT hb rfl ?_
  walk_at "rd"
  refine ⟨p, a, 4, rfl, rfl, by decide, by decide, d3, fun H4 c k4 d4 c0 c1 => ?_⟩
  with_reducible refine s_add ?_
  with_reducible refine s_gName ?_
  with_reducible refine s_nx ?_
  have el4 := k4 _ _ lp el
  have dp4 := Dp.sameAll (Keep.hid k4 (S := [p, l]) (by simp)) _ _ dp
  clear el dp hb eb
  generalize hm0 : r + 1 + c = many
  -- many drawn otherwise
  refine s_seqJ (fun σ H' => ∃ many, σ = [some (.ref b), some (.ref p), some (.int k0), some (.ref l), some (.int many), y5, y6, y7, y8, y9, y10, y11, y12, y13, y14] ∧ Draw H' p a ∧ H' l = some (.lst xs) ∧ DpAll K (hid [p, l] H') xs (t.map dPair)) (fun σ H' hJ => ?_) (fun nx J => ?_)
  rotate_left
  · walk_at "rd"
    refine ⟨p, a, 3, rfl, rfl, by decide, by decide, d4, fun H5 c k5 d5 c0 c1 => ?_⟩
    have el5 := k5 _ _ lp el4
    have dp5 := Dp.sameAll (Keep.hid k5 (S := [p, l]) (by simp)) _ _ dp4
    walk_at "rd"
    refine s_eq rfl ?_
    walk_at "rd"
    refine br (fun _ => ?_) (fun _ => ?_)
    · walk_at "rd"
      obtain ⟨bb, r, ln, eb, hb⟩ := last H5 l xs t el5 dp5 t1
      refine s_ixL (SqL.of el5) eb ?_
      walk_at "rd"
      refine s_ixT hb rfl ?_
      walk_at "rd"
      refine ⟨p, a, rfl, d5, fun H6 fr k6 d6 => ?_⟩
      walk_at "rd"
      refine ⟨sz rfl, fun l7 n7 => ?_⟩
      have s7 := same_upd (o := .lst ([r, 0, -1, 401, 400, fr].map V.int)) n7
      have el7 := s7 _ _ (k6 _ _ lp el5)
      have dp7 := Dp.sameAll ((Keep.hid k6 (S := [p, l]) (by simp)).trans (Same.hid s7)) _ _ dp5
      walk_at "rd"
      refine ⟨p, a, l7, [r, 0, -1, 401, 400, fr].map V.int, rfl, rfl, d6.ne n7, SqL.of upd_same, by simp, by simp, d6.same s7, fun H8 v k8 d8 hv => ?_⟩
      obtain ⟨z, _, rfl⟩ := List.mem_map.mp hv
      walk_at "rd"
      exact J _ _ ⟨z, rfl, d8, k8 _ _ lp el7, Dp.sameAll (Keep.hid k8 (S := [p, l]) (by simp)) _ _ dp7⟩
    · walk_at "rd"
      exact J _ _ ⟨many, rfl, d5, el5, dp5⟩
  clear hm0 many el4 dp4
  obtain ⟨many, rfl, d4, el4, dp4⟩ := hJ
  -- a pair bent
  refine s_seqJ (fun σ H' => ∃ y5, ∃ (t : Tab) (xs : List V), σ = [some (.ref b), some (.ref p), some (.int k0), some (.ref l), some (.int many), y5, y6, y7, y8, y9, y10, y11, y12, y13, y14] ∧ Draw H' p a ∧ H' l = some (.lst xs) ∧ DpAll K (hid [p, l] H') xs (t.map dPair) ∧ t.length ≤ 8) (fun σ H' hJ => ?_) (fun nx J => ?_)
  rotate_left
  · walk_at "rd"
    refine ⟨p, a, 2, rfl, rfl, by decide, by decide, d4, fun H5 c k5 d5 c0 c1 => ?_⟩
    have el5 := k5 _ _ lp el4
    have dp5 := Dp.sameAll (Keep.hid k5 (S := [p, l]) (by simp)) _ _ dp4
    walk_at "rd"
    refine s_eq rfl ?_
    walk_at "rd"
    refine br (fun _ => ?_) (fun _ => ?_)
    · walk_at "rd"
      refine s_lenL (SqL.of el5) ?_
      walk_at "rd"
      refine ⟨p, a, xs.length, rfl, rfl, by omega, by omega, d5, fun H6 at' k6 d6 a0 a1 => ?_⟩
      obtain ⟨k, rfl⟩ : ∃ k : Nat, at' = (k : Int) := ⟨at'.toNat, by omega⟩
      have el6 := k6 _ _ lp el5
      have dp6 := Dp.sameAll (Keep.hid k6 (S := [p, l]) (by simp)) _ _ dp5
      obtain ⟨b1, eb1, hb1⟩ := DpAll.pair dp6 (List.getElem?_eq_getElem (show k < xs.length by omega))
      have x1 : atI xs (k : Int) = some (.ref b1) := atI_nat (by rw [List.getElem?_eq_getElem (show k < xs.length by omega), eb1])
      walk_at "rd"
      refine s_ixL (SqL.of el6) x1 ?_
      walk_at "rd"
      refine s_ixT (Same.sqT hid_same hb1) rfl ?_
      walk_at "rd"
      refine ⟨p, a, 5, rfl, rfl, by decide, by decide, d6, fun H7 c k7 d7 c0 c1 => ?_⟩
      have el7 := k7 _ _ lp el6
      have dp7 := Dp.sameAll (Keep.hid k7 (S := [p, l]) (by simp)) _ _ dp6
      have hb7 := Same.sqT (Keep.hid k7 (S := [p, l]) (by simp)) hb1
      walk_at "rd"
      refine s_ixL (SqL.of el7) x1 ?_
      walk_at "rd"
      refine s_ixT (Same.sqT hid_same hb7) rfl ?_
      walk_at "rd"
      refine ⟨sz rfl, fun l8 n8 => ?_⟩
      have s8 := same_upd (o := .lst ([lineAt t k, -1, 0, 3].map V.int)) n8
      walk_at "rd"
      refine ⟨p, a, l8, [lineAt t k, -1, 0, 3].map V.int, rfl, rfl, d7.ne n8, SqL.of upd_same, by simp, by simp, d7.same s8, fun H9 v k9 d9 hv => ?_⟩
      obtain ⟨z, _, rfl⟩ := List.mem_map.mp hv
      have el9 := k9 _ _ lp (s8 _ _ el7)
      have dp9 := Dp.sameAll ((Same.hid s8).trans (Keep.hid k9 (S := [p, l]) (by simp))) _ _ dp7
      walk_at "rd"
      refine ⟨sz rfl, fun lA nA => ?_⟩
      have sA := same_upd (o := .tup [.int (rowAt t k + c - 2), .int z]) nA
      have elA := sA _ _ el9
      have Al : lA ≠ l := (ne_of_none el9 nA).symm
      have Ap : lA ≠ p := d9.ne nA
      walk_at "rd"
      refine s_setL (n := k) elA ?_ ?_
      · unfold ixN
        rw [if_pos (by omega), if_pos (by omega)]
        rfl
      walk_at "rd"
      refine J _ _ ⟨_, t.set k (rowAt t k + c - 2, z), _, rfl, (d9.same sA).updN lp (d2.ne2 nl), upd_same, ?_, by rw [List.length_set]; exact t8⟩
      rw [hid_up (by simp), List.map_set]
      refine DpAll.set (Dp.pair (SqT.of ?_)) k (Dp.sameAll (Same.hid sA) _ _ dp9)
      rw [hid_get (by simp [Al, Ap])]
      exact upd_same
    · walk_at "rd"
      exact J _ _ ⟨_, t, xs, rfl, d5, el5, dp5, t8⟩
  clear el4 dp4 d4 hxl last t1 t8
  obtain ⟨y5, t, xs, rfl, d4, el4, dp4, t8⟩ := hJ
  have hxl : xs.length = t.length := by rw [DpAll.length dp4, List.length_map]
  -- the first pair gone
  refine s_seqJ (fun σ H' => ∃ l, ∃ (t : Tab) (xs : List V), σ = [some (.ref b), some (.ref p), some (.int k0), some (.ref l), some (.int many), y5, y6, y7, y8, y9, y10, y11, y12, y13, y14] ∧ Draw H' p a ∧ l ≠ p ∧ H' l = some (.lst xs) ∧ DpAll K (hid [p] H') xs (t.map dPair) ∧ t.length ≤ 8) (fun σ H' hJ => ?_) (fun nx J => ?_)
  rotate_left
  · walk_at "rd"
    refine ⟨p, a, 9, rfl, rfl, by decide, by decide, d4, fun H5 c k5 d5 c0 c1 => ?_⟩
    have el5 := k5 _ _ lp el4
    have dp5 := Dp.sameAll ((Keep.hid k5 (S := [p, l]) (by simp)).trans (hid_less (S := [p]) (by simp))) _ _ dp4
    walk_at "rd"
    refine s_eq rfl ?_
    walk_at "rd"
    refine br (fun _ => ?_) (fun _ => ?_)
    · walk_at "rd"
      refine s_slL (SqL.of el5) fun l6 n6 => ?_
      rw [show (1 : Int) = ((1 : Nat) : Int) from rfl, cutV_drop]
      have s6 := same_upd (o := .lst (xs.drop 1)) n6
      walk_at "rd"
      refine J _ _ ⟨l6, t.drop 1, _, rfl, d5.same s6, d5.ne n6, upd_same, ?_, by rw [List.length_drop]; omega⟩
      rw [List.map_drop]
      exact DpAll.drop 1 (Dp.sameAll (Same.hid s6) _ _ dp5)
    · walk_at "rd"
      exact J _ _ ⟨l, t, xs, rfl, d5, lp, el5, dp5, t8⟩
  clear el4 dp4 d4 hxl t8 lp nl t xs
  obtain ⟨l, t, xs, rfl, d4, lp, el4, dp4, t8⟩ := hJ
  have hxl : xs.length = t.length := by rw [DpAll.length dp4, List.length_map]
  -- the spot
  walk_at "rd"
  refine ⟨p, a, 20, rfl, rfl, by decide, by decide, d4, fun H5 c k5 d5 c0 c1 => ?_⟩
  walk_at "rd"
  refine ⟨p, a, rfl, d5, fun H6 fr k6 d6 => ?_⟩
  walk_at "rd"
  refine ⟨sz rfl, fun l7 n7 => ?_⟩
  have s7 := same_upd (o := .lst ([c, -1, many, many - 1, fr].map V.int)) n7
  walk_at "rd"
  refine ⟨p, a, l7, [c, -1, many, many - 1, fr].map V.int, rfl, rfl, d6.ne n7, SqL.of upd_same, by simp, by simp, d6.same s7, fun H8 v k8 d8 hv => ?_⟩
  obtain ⟨spot, _, rfl⟩ := List.mem_map.mp hv
  have k48 : Keep p _ H8 := k5.trans (k6.trans ((Same.keep s7).trans k8))
  have el8 := k48 _ _ lp el4
  have dp8 := Dp.sameAll ((Keep.hid k48 (S := [p]) (by simp)).trans hid_same) _ _ dp4
  have hT : Dp K H8 (.ref l) (dTab t) := .lst (SqL.of el8) dp8
  walk_at "rd"
  refine ⟨sz rfl, fun l9 n9 => ?_⟩
  have s9 := same_upd (o := .lst [.str (Str.ofString "BadTable")]) n9
  walk_at "rd"
  refine s_rep upd_same (by decide) (by decide) (sz rfl) fun ld nd => ?_
  have sd := same_upd (o := .lst (List.replicate (3 : Int).toNat [V.str (Str.ofString "BadTable")]).flatten) nd
  have s89 := s9.trans sd
  have ed : upd (upd H8 l9 (.lst [.str (Str.ofString "BadTable")])) ld (.lst (List.replicate (3 : Int).toNat [V.str (Str.ofString "BadTable")]).flatten) ld = some (.lst [.str (Str.ofString "BadTable"), .str (Str.ofString "BadTable"), .str (Str.ofString "BadTable")]) := upd_same
  generalize upd (upd H8 l9 (.lst [.str (Str.ofString "BadTable")])) ld (.lst (List.replicate (3 : Int).toNat [V.str (Str.ofString "BadTable")]).flatten) = H9 at s89 ed ⊢
  with_reducible refine s_gName ?_
  with_reducible refine s_nx ?_
  -- what is due
  refine s_seqJ (fun σ H' => ∃ y8 y9 ld v0 v1 v2, σ = [some (.ref b), some (.ref p), some (.int k0), some (.ref l), some (.int many), y5, some (.int spot), some (.ref ld), y8, y9, y10, y11, y12, y13, y14] ∧ Same H8 H' ∧ H' ld = some (.lst [v0, v1, v2]) ∧ Dp K H' v0 (dueD t many spot 0) ∧ Dp K H' v1 (dueD t many spot 1) ∧ Dp K H' v2 (dueD t many spot 2)) (fun σ H' hJ => ?_) (fun nx J => ?_)
  · obtain ⟨y8, y9, ld, v0, v1, v2, rfl, sm, eld, w0, w1, w2⟩ := hJ
    walk_at "rd"
    refine ⟨by decide, by decide, ?_⟩
    refine forB_range (n := 3) (fun j σ H'' => ∃ y10 y11, σ = [some (.ref b), some (.ref p), some (.int k0), some (.ref l), some (.int many), y5, some (.int spot), some (.ref ld), y8, y9, y10, y11, y12, y13, y14] ∧ Same H' H'') ⟨_, _, rfl, Same.refl _⟩ ?_ ?_
    · rintro j σ HA hj ⟨y10, y11, rfl, sA⟩
      walk_at "rd"
      have sA8 := sm.trans sA
      refine s_listL (.inl (SqL.of (sA8 _ _ el8))) fun lB nB => ?_
      have sB := same_upd (o := .lst xs) nB
      have tB : Dp K (upd HA lB (.lst xs)) (.ref lB) (dTab t) := .lst (SqL.of upd_same) (Dp.sameAll (sA8.trans sB) _ _ dp8)
      generalize upd HA lB (.lst xs) = HB at sB tB ⊢
      walk_at "rd"
      refine ⟨t, _, many, spot, rfl, rfl, rfl, tB, by omega, fun HC u sC du => ?_⟩
      have sBC := sA.trans (sB.trans sC)
      walk_at "rd"
      obtain ⟨w, ew, hw⟩ : ∃ w, atI [v0, v1, v2] ((0 : Int) + (j : Nat)) = some w ∧ Dp K HC w (dueD t many spot ((0 : Int) + (j : Nat))) := by
        have : j = 0 ∨ j = 1 ∨ j = 2 := by omega
        rcases this with rfl | rfl | rfl
        · exact ⟨v0, rfl, Dp.same sBC _ _ w0⟩
        · exact ⟨v1, rfl, Dp.same sBC _ _ w1⟩
        · exact ⟨v2, rfl, Dp.same sBC _ _ w2⟩
      refine s_ixL (SqL.of (sBC _ _ eld)) ew ?_
      walk_at "rd"
      refine ⟨dueD t many spot ((0 : Int) + (j : Nat)), du, hw, ?_, fun HD sD => ?_⟩
      · unfold dueD
        split
        · rename_i g
          have hlen := unpackL_len0 g
          have h4 := g.2.1
          split
          · exact okD_ints (by omega) 1
          · split
            · split <;> trivial
            · exact okD_ints (by have := rowsOf_len8 (unpackL t many) spot (unpackL t many).length; omega) 1
        · trivial
      walk_at "rd"
      refine iteF ?_
      walk_at "rd"
      refine s_neD (Dp.same (sC.trans sD) _ _ tB) (Dp.same ((sA8.trans (sB.trans sC)).trans sD) _ _ hT) (shaped_tab t) (shaped_tab t) ?_
      rw [PySem.SeqAt.eqv_refl _ (canLay_tab t)]
      walk_at "rd"
      refine iteF ?_
      walk_at "rd"
      exact ⟨_, _, rfl, sBC.trans sD⟩
    · rintro σ HA ⟨y10, y11, rfl, sA⟩
      exact ⟨_, _, _, _, _, _, _, _, _, _, _, _, _, rfl, (d8.same sm).same sA⟩
  walk_at "rd"
  refine ⟨t, many, rfl, Dp.same s89 _ _ hT, by omega, fun g HA sA => ?_, fun ng HA sA => ?_⟩
  rotate_left
  · walk_at "rd"
    refine iteF ?_
    walk_at "rd"
    have bad : ∀ c, Dp K HA (.str (Str.ofString "BadTable")) (dueD t many spot c) := fun c => by
      unfold dueD
      rw [if_neg ng]
      exact .str _
    exact J _ _ ⟨_, _, ld, _, _, _, rfl, s89.trans sA, sA _ _ ed, bad 0, bad 1, bad 2⟩
  walk_at "rd"
  refine iteT ?_
  have hlen := unpackL_len0 g
  have h4 := g.2.1
  have h1 := g.1
  walk_at "rd"
  refine ⟨sz rfl, fun lL nL => ?_⟩
  have s8A := s89.trans sA
  have h0 : Same H8 (hid [lL] (upd HA lL (.lst []))) := by
    rw [hid_up List.mem_cons_self, hid_new nL, hid_nil]
    exact s8A
  have e0 : upd HA lL (.lst []) lL = some (.lst []) := upd_same
  generalize upd HA lL (.lst []) = HB at h0 e0 ⊢
  walk_at "rd"
  refine ⟨by omega, by omega, ?_⟩
  generalize hU : unpackL t many = ls at hlen
  have hmt : many.toNat = ls.length := by omega
  rw [hmt]
  refine forB_range (n := ls.length) (fun j σ H' => ∃ y9, σ = [some (.ref b), some (.ref p), some (.int k0), some (.ref l), some (.int many), y5, some (.int spot), some (.ref ld), some (.ref lL), y9, y10, y11, y12, y13, y14] ∧ Same H8 (hid [lL] H') ∧ H' lL = some (.lst ((ls.take j).map V.int))) ⟨_, rfl, h0, e0⟩ ?_ ?_
  · rintro j σ HC hj ⟨y9, rfl, sC, eC⟩
    walk_at "rd"
    refine s_tyL (SqL.of eC) ?_
    walk_at "rd"
    have s8C := sC.trans hid_same
    have hSC : SqL K HC l xs := SqL.of (s8C _ _ el8)
    refine s_itL hSC ?_
    refine lcB_of xs.length (fun D i acc H' => Same HC (hid [D] H') ∧ acc = (fTo t ((0 : Int) + (j : Nat)) i).map V.int)
      (fun D hD => ⟨by rw [hid_up List.mem_cons_self, hid_new hD, hid_nil]; exact Same.refl _, rfl⟩)
      (fun D i acc H' hD hi hS => ⟨xs, xs[i], hid_same.seq (hS.1.seq hSC), List.getElem?_eq_getElem _⟩)
      (fun D acc H' hD hS => ⟨xs, hid_same.seq (hS.1.seq hSC), Nat.le_refl _⟩) ?_ ?_
    · rintro D i acc H0 z H' hDn hi ha hla ⟨sm, ea⟩ ⟨rfl, hz⟩
      have hx := hz xs (hid_same.seq (sm.seq hSC))
      have sm8 := s8C.trans (sm.trans hid_same)
      obtain ⟨bz, rfl, hbz⟩ := DpAll.pair (Dp.sameAll sm8 _ _ dp8) hx
      refine s_gTup hbz rfl (s_gCons (s_gName (s_gCons (s_gName (s_gNil ⟨rfl, ?_⟩)))))
      walk_at "rd"
      refine br (fun c1 => ?_) (fun c1 => ?_)
      · walk_at "rd"
        refine LcPost.mk ha hla (by omega) ⟨by rw [hid_up List.mem_cons_self]; exact sm, ?_⟩
        rw [ea, show fTo t ((0 : Int) + (j : Nat)) (i + 1) = fTo t ((0 : Int) + (j : Nat)) i ++ [lineAt t i] from by show _ ++ (if _ then _ else _) = _; rw [if_pos c1], List.map_append]
        rfl
      · refine LcSkip.mk ha hla ⟨sm, ?_⟩
        rw [ea, show fTo t ((0 : Int) + (j : Nat)) (i + 1) = fTo t ((0 : Int) + (j : Nat)) i from by show _ ++ (if _ then _ else _) = _; rw [if_neg c1, List.append_nil]]
    · rintro D acc HD hDn ha hla ⟨sm, ea⟩
      walk_at "rd"
      obtain ⟨X, lv, eX, hlv⟩ := fTo_line g (r := (0 : Int) + (j : Nat)) (by omega) (by omega)
      rw [hU, show ((0 : Int) + (j : Nat)).toNat = j by omega] at hlv
      rw [hxl] at ea
      rw [ea, eX, List.map_append] at ha
      refine s_ixL (SqL.of ha) (atI_last _ _) ?_
      walk_at "rd"
      have DL : D ≠ lL := fun e => by
        rw [e, eC] at hDn
        cases hDn
      refine s_append (hid_same _ _ (sm _ _ eC)) (small1000 (by rw [List.length_map, List.length_take]; omega)) ?_
      walk_at "rd"
      refine ⟨_, rfl, ?_, ?_⟩
      · rw [hid_up List.mem_cons_self]
        exact sC.trans (Same.hid (sm.trans hid_same))
      · rw [upd_same, List.take_add_one, hlv, List.map_append]
        rfl
  rintro σ HC ⟨y9, rfl, sC, eC⟩
  rw [List.take_length] at eC
  have s8C := sC.trans hid_same
  walk_at "rd"
  -- the line of the spot
  have third : ∀ (v1 : V), Dp K HC v1 (dueD t many spot 1) → tLc (iRng1 (tCons (tVar 4) tNil)) (gName 12) (tTest (tOp (rEqU K) (tOp (rIx K) (tVar 8) (tVar 12)) (tVar 6))) (tVar 12) ([("_law_r", 12)].map (·.2)) [some (.ref b), some (.ref p), some (.int k0), some (.ref l), some (.int many), y5, some (.int spot), some (.ref ld), some (.ref lL), y9, y10, y11, y12, y13, y14] HC
      (fun x H1 => tNil [some (.ref b), some (.ref p), some (.int k0), some (.ref l), some (.int many), y5, some (.int spot), some (.ref ld), some (.ref lL), y9, y10, y11, y12, y13, y14] H1 fun zs H2 => ([V.ref lL, v1, x] ++ zs).length ≤ sizeLine ∧ ∀ q, H2 q = none → nx [some (.ref b), some (.ref p), some (.int k0), some (.ref l), some (.int many), y5, some (.int spot), some (.ref q), some (.ref lL), y9, y10, y11, y12, y13, y14] (upd H2 q (.lst ([V.ref lL, v1, x] ++ zs)))) := by
    intro v1 w1
    walk_at "rd"
    refine ⟨by omega, by omega, ?_⟩
    rw [hmt]
    refine lcB_of ls.length (fun D i acc H' => Same HC (hid [D] H') ∧ acc = (rowsOf ls spot i).map V.int)
      (fun D hD => ⟨by rw [hid_up List.mem_cons_self, hid_new hD, hid_nil]; exact Same.refl _, rfl⟩) (fun D i acc H' hD hi _ => hi) (fun D acc H' hD hS => Nat.le_refl _) ?_ ?_
    · rintro D i acc H0 _ H' hDn hi ha hla ⟨sm, ea⟩ ⟨rfl, rfl⟩
      refine s_gName ⟨rfl, ?_⟩
      walk_at "rd"
      refine s_ixL (SqL.of (hid_same _ _ (sm _ _ eC))) (at_of (j := i) (v := .int (ls.getD i 0)) (by omega) (by rw [List.getElem?_map, List.getElem?_eq_getElem hi, List.getD_eq_getElem?_getD, List.getElem?_eq_getElem hi]; rfl)) ?_
      walk_at "rd"
      refine s_eq rfl ?_
      walk_at "rd"
      refine br (fun c1 => ?_) (fun c1 => ?_)
      · walk_at "rd"
        refine LcPost.mk ha hla (by omega) ⟨by rw [hid_up List.mem_cons_self]; exact sm, ?_⟩
        rw [ea, show rowsOf ls spot (i + 1) = rowsOf ls spot i ++ [(i : Int)] from by show _ ++ (if _ then _ else _) = _; rw [if_pos (V.int.inj c1)], List.map_append, Int.zero_add]
        rfl
      · refine LcSkip.mk ha hla ⟨sm, ?_⟩
        rw [ea, show rowsOf ls spot (i + 1) = rowsOf ls spot i from by show _ ++ (if _ then _ else _) = _; rw [if_neg (fun z => c1 (by rw [z])), List.append_nil]]
    · rintro D acc HD hDn ha hla ⟨sm, ea⟩
      walk_at "rd"
      refine ⟨sz rfl, fun lq nq => ?_⟩
      have sCD := sm.trans hid_same
      have sq := same_upd (o := .lst ([V.ref lL, v1, .ref D] ++ [])) nq
      have sCq := sCD.trans sq
      refine J _ _ ⟨_, _, lq, _, _, _, rfl, s8C.trans sCq, upd_same, ?_, Dp.same sCq _ _ w1, ?_⟩
      · unfold dueD
        rw [if_pos g, if_pos rfl, hU]
        exact Dp.ints (SqL.of (sCq _ _ eC))
      · unfold dueD
        rw [if_pos g, if_neg (by decide), if_neg (by decide), hU]
        refine Dp.ints (SqL.of (sq _ _ ?_))
        rw [ha, ea]
  refine br (fun c1 => ?_) (fun c1 => ?_)
  · walk_at "rd"
    refine brB (fun c2 => ?_) (fun c2 => ?_)
    · have r1 : spot < many := of_decide_eq_true c2
      with_reducible refine s_op ?_
      walk_at "rd"
      obtain ⟨k, rfl⟩ : ∃ k : Nat, spot = (k : Int) := ⟨spot.toNat, by omega⟩
      refine s_ixL (SqL.of eC) (atI_nat (v := .int (ls.getD k 0)) (by rw [List.getElem?_map, List.getElem?_eq_getElem (show k < ls.length by omega), List.getD_eq_getElem?_getD, List.getElem?_eq_getElem (show k < ls.length by omega)]; rfl)) ?_
      with_reducible refine s_cons ?_
      refine third _ ?_
      unfold dueD
      rw [if_pos g, if_neg (by decide), if_pos rfl, if_pos ⟨c1, r1⟩, hU, Int.toNat_natCast]
      exact .int _
    · with_reducible refine s_c ?_
      with_reducible refine s_cons ?_
      refine third _ ?_
      unfold dueD
      rw [if_pos g, if_neg (by decide), if_pos rfl, if_neg (fun z => by rw [decide_eq_true z.2] at c2; exact absurd c2 (by decide))]
      exact .str _
  · with_reducible refine s_bl ?_
    refine iteF ?_
    with_reducible refine s_c ?_
    with_reducible refine s_cons ?_
    refine third _ ?_
    unfold dueD
    rw [if_pos g, if_neg (by decide), if_pos rfl, if_neg (fun z => c1 z.1)]
    exact .str _
end
theorem all_mk {l : PySem.W.OpenLaw} {w : World} {K : PySem.W.Frag} {h : Heap} {mg : Str → Option Value} {fa f_need_table f_unpacked f_line_at f_rows_of f_law_begin f_law_take f_law_same f_law_far f_law_one f_law_table f_law_table_good f_law_told f_law : Addr} (X : K.In h) (G : h.Ns mainGlobals mg) (hfa : mg "law" = some (.ref fa))
    {od_need_table an_need_table : Option Addr} {sl_need_table : Array (Option Value)} {oc_need_table kV_need_table dc_need_table pm_need_table cd_need_table ct_need_table : Value}
    (a_need_table : PySem.W.nsIn K mainGlobals "need_table" = some (some (.ref f_need_table))) (l_need_table : K.lookup f_need_table = some ⟨oc_need_table, od_need_table, .func (PySem.W.fnOf "need_table" "need_table" (defArgs s_need_table) (defBody s_need_table) (defScope s_need_table) .none kV_need_table dc_need_table pm_need_table an_need_table cd_need_table ct_need_table), sl_need_table⟩) (c_need_table : PySem.W.codeIn K cd_need_table "need_table" = true) (k_need_table : PySem.W.keepIn K (.ref f_need_table) = true)
    {od_unpacked an_unpacked : Option Addr} {sl_unpacked : Array (Option Value)} {oc_unpacked kV_unpacked dc_unpacked pm_unpacked cd_unpacked ct_unpacked : Value}
    (a_unpacked : PySem.W.nsIn K mainGlobals "unpacked" = some (some (.ref f_unpacked))) (l_unpacked : K.lookup f_unpacked = some ⟨oc_unpacked, od_unpacked, .func (PySem.W.fnOf "unpacked" "unpacked" (defArgs s_unpacked) (defBody s_unpacked) (defScope s_unpacked) .none kV_unpacked dc_unpacked pm_unpacked an_unpacked cd_unpacked ct_unpacked), sl_unpacked⟩) (c_unpacked : PySem.W.codeIn K cd_unpacked "unpacked" = true) (k_unpacked : PySem.W.keepIn K (.ref f_unpacked) = true)
    {od_line_at an_line_at : Option Addr} {sl_line_at : Array (Option Value)} {oc_line_at kV_line_at dc_line_at pm_line_at cd_line_at ct_line_at : Value}
    (a_line_at : PySem.W.nsIn K mainGlobals "line_at" = some (some (.ref f_line_at))) (l_line_at : K.lookup f_line_at = some ⟨oc_line_at, od_line_at, .func (PySem.W.fnOf "line_at" "line_at" (defArgs s_line_at) (defBody s_line_at) (defScope s_line_at) .none kV_line_at dc_line_at pm_line_at an_line_at cd_line_at ct_line_at), sl_line_at⟩) (c_line_at : PySem.W.codeIn K cd_line_at "line_at" = true) (k_line_at : PySem.W.keepIn K (.ref f_line_at) = true)
    {od_rows_of an_rows_of : Option Addr} {sl_rows_of : Array (Option Value)} {oc_rows_of kV_rows_of dc_rows_of pm_rows_of cd_rows_of ct_rows_of : Value}
    (a_rows_of : PySem.W.nsIn K mainGlobals "rows_of" = some (some (.ref f_rows_of))) (l_rows_of : K.lookup f_rows_of = some ⟨oc_rows_of, od_rows_of, .func (PySem.W.fnOf "rows_of" "rows_of" (defArgs s_rows_of) (defBody s_rows_of) (defScope s_rows_of) .none kV_rows_of dc_rows_of pm_rows_of an_rows_of cd_rows_of ct_rows_of), sl_rows_of⟩) (c_rows_of : PySem.W.codeIn K cd_rows_of "rows_of" = true) (k_rows_of : PySem.W.keepIn K (.ref f_rows_of) = true)
    {od_law_begin an_law_begin : Option Addr} {sl_law_begin : Array (Option Value)} {oc_law_begin kV_law_begin dc_law_begin pm_law_begin cd_law_begin ct_law_begin : Value}
    (a_law_begin : PySem.W.nsIn K mainGlobals "_law_begin" = some (some (.ref f_law_begin))) (l_law_begin : K.lookup f_law_begin = some ⟨oc_law_begin, od_law_begin, .func (PySem.W.fnOf "_law_begin" "_law_begin" (defArgs s_law_begin) (defBody s_law_begin) (defScope s_law_begin) .none kV_law_begin dc_law_begin pm_law_begin an_law_begin cd_law_begin ct_law_begin), sl_law_begin⟩) (c_law_begin : PySem.W.codeIn K cd_law_begin "_law_begin" = true) (k_law_begin : PySem.W.keepIn K (.ref f_law_begin) = true)
    {od_law_take an_law_take : Option Addr} {sl_law_take : Array (Option Value)} {oc_law_take kV_law_take dc_law_take pm_law_take cd_law_take ct_law_take : Value}
    (a_law_take : PySem.W.nsIn K mainGlobals "_law_take" = some (some (.ref f_law_take))) (l_law_take : K.lookup f_law_take = some ⟨oc_law_take, od_law_take, .func (PySem.W.fnOf "_law_take" "_law_take" (defArgs s_law_take) (defBody s_law_take) (defScope s_law_take) .none kV_law_take dc_law_take pm_law_take an_law_take cd_law_take ct_law_take), sl_law_take⟩) (c_law_take : PySem.W.codeIn K cd_law_take "_law_take" = true) (k_law_take : PySem.W.keepIn K (.ref f_law_take) = true)
    {od_law_same an_law_same : Option Addr} {sl_law_same : Array (Option Value)} {oc_law_same kV_law_same dc_law_same pm_law_same cd_law_same ct_law_same : Value}
    (a_law_same : PySem.W.nsIn K mainGlobals "_law_same" = some (some (.ref f_law_same))) (l_law_same : K.lookup f_law_same = some ⟨oc_law_same, od_law_same, .func (PySem.W.fnOf "_law_same" "_law_same" (defArgs s_law_same) (defBody s_law_same) (defScope s_law_same) .none kV_law_same dc_law_same pm_law_same an_law_same cd_law_same ct_law_same), sl_law_same⟩) (c_law_same : PySem.W.codeIn K cd_law_same "_law_same" = true) (k_law_same : PySem.W.keepIn K (.ref f_law_same) = true)
    {od_law_far an_law_far : Option Addr} {sl_law_far : Array (Option Value)} {oc_law_far kV_law_far dc_law_far pm_law_far cd_law_far ct_law_far : Value}
    (a_law_far : PySem.W.nsIn K mainGlobals "_law_far" = some (some (.ref f_law_far))) (l_law_far : K.lookup f_law_far = some ⟨oc_law_far, od_law_far, .func (PySem.W.fnOf "_law_far" "_law_far" (defArgs s_law_far) (defBody s_law_far) (defScope s_law_far) .none kV_law_far dc_law_far pm_law_far an_law_far cd_law_far ct_law_far), sl_law_far⟩) (c_law_far : PySem.W.codeIn K cd_law_far "_law_far" = true) (k_law_far : PySem.W.keepIn K (.ref f_law_far) = true)
    {od_law_one an_law_one : Option Addr} {sl_law_one : Array (Option Value)} {oc_law_one kV_law_one dc_law_one pm_law_one cd_law_one ct_law_one : Value}
    (a_law_one : PySem.W.nsIn K mainGlobals "_law_one" = some (some (.ref f_law_one))) (l_law_one : K.lookup f_law_one = some ⟨oc_law_one, od_law_one, .func (PySem.W.fnOf "_law_one" "_law_one" (defArgs s_law_one) (defBody s_law_one) (defScope s_law_one) .none kV_law_one dc_law_one pm_law_one an_law_one cd_law_one ct_law_one), sl_law_one⟩) (c_law_one : PySem.W.codeIn K cd_law_one "_law_one" = true) (k_law_one : PySem.W.keepIn K (.ref f_law_one) = true)
    {od_law_table an_law_table : Option Addr} {sl_law_table : Array (Option Value)} {oc_law_table kV_law_table dc_law_table pm_law_table cd_law_table ct_law_table : Value}
    (a_law_table : PySem.W.nsIn K mainGlobals "_law_table" = some (some (.ref f_law_table))) (l_law_table : K.lookup f_law_table = some ⟨oc_law_table, od_law_table, .func (PySem.W.fnOf "_law_table" "_law_table" (defArgs s_law_table) (defBody s_law_table) (defScope s_law_table) .none kV_law_table dc_law_table pm_law_table an_law_table cd_law_table ct_law_table), sl_law_table⟩) (c_law_table : PySem.W.codeIn K cd_law_table "_law_table" = true) (k_law_table : PySem.W.keepIn K (.ref f_law_table) = true)
    {od_law_table_good an_law_table_good : Option Addr} {sl_law_table_good : Array (Option Value)} {oc_law_table_good kV_law_table_good dc_law_table_good pm_law_table_good cd_law_table_good ct_law_table_good : Value}
    (a_law_table_good : PySem.W.nsIn K mainGlobals "_law_table_good" = some (some (.ref f_law_table_good))) (l_law_table_good : K.lookup f_law_table_good = some ⟨oc_law_table_good, od_law_table_good, .func (PySem.W.fnOf "_law_table_good" "_law_table_good" (defArgs s_law_table_good) (defBody s_law_table_good) (defScope s_law_table_good) .none kV_law_table_good dc_law_table_good pm_law_table_good an_law_table_good cd_law_table_good ct_law_table_good), sl_law_table_good⟩) (c_law_table_good : PySem.W.codeIn K cd_law_table_good "_law_table_good" = true) (k_law_table_good : PySem.W.keepIn K (.ref f_law_table_good) = true)
    {od_law_told an_law_told : Option Addr} {sl_law_told : Array (Option Value)} {oc_law_told kV_law_told dc_law_told pm_law_told cd_law_told ct_law_told : Value}
    (a_law_told : PySem.W.nsIn K mainGlobals "_law_told" = some (some (.ref f_law_told))) (l_law_told : K.lookup f_law_told = some ⟨oc_law_told, od_law_told, .func (PySem.W.fnOf "_law_told" "_law_told" (defArgs s_law_told) (defBody s_law_told) (defScope s_law_told) .none kV_law_told dc_law_told pm_law_told an_law_told cd_law_told ct_law_told), sl_law_told⟩) (c_law_told : PySem.W.codeIn K cd_law_told "_law_told" = true) (k_law_told : PySem.W.keepIn K (.ref f_law_told) = true)
    {od_law an_law : Option Addr} {sl_law : Array (Option Value)} {oc_law kV_law dc_law pm_law cd_law ct_law : Value}
    (a_law : PySem.W.nsIn K mainGlobals "law" = some (some (.ref f_law))) (l_law : K.lookup f_law = some ⟨oc_law, od_law, .func (PySem.W.fnOf "law" "law" (defArgs s_law) (defBody s_law) (defScope s_law) .none kV_law dc_law pm_law an_law cd_law ct_law), sl_law⟩) (c_law : PySem.W.codeIn K cd_law "law" = true) (k_law : PySem.W.keepIn K (.ref f_law) = true)
    (z_abs : PySem.W.nsIn K mainGlobals "abs" = some none)
    (z_all : PySem.W.nsIn K mainGlobals "all" = some none)
    (z_bool : PySem.W.nsIn K mainGlobals "bool" = some none)
    (z_enumerate : PySem.W.nsIn K mainGlobals "enumerate" = some none)
    (z_isinstance : PySem.W.nsIn K mainGlobals "isinstance" = some none)
    (z_len : PySem.W.nsIn K mainGlobals "len" = some none)
    (z_list : PySem.W.nsIn K mainGlobals "list" = some none)
    (z_range : PySem.W.nsIn K mainGlobals "range" = some none)
    (z_str : PySem.W.nsIn K mainGlobals "str" = some none)
    (z_tuple : PySem.W.nsIn K mainGlobals "tuple" = some none)
    (z_zip : PySem.W.nsIn K mainGlobals "zip" = some none)
    {c_BadTable : Addr} (g_BadTable : PySem.W.nsIn K mainGlobals "BadTable" = some (some (.ref c_BadTable))) (e_BadTable : PySem.W.excIn K c_BadTable [.type "ValueError", .type "Exception", .type "BaseException", .type "object"] "ValueError.__new__" = true) (q_BadTable : PySem.W.keepIn K (.ref c_BadTable) = true) (s_BadTable : PySem.W.subIn K (.ref c_BadTable) (.type "BaseException") = some true) (y_BadTable : PySem.W.typeIn K (.ref c_BadTable) = some (.type "type"))
    {c_BadPlace : Addr} (g_BadPlace : PySem.W.nsIn K mainGlobals "BadPlace" = some (some (.ref c_BadPlace))) (e_BadPlace : PySem.W.excIn K c_BadPlace [.type "ValueError", .type "Exception", .type "BaseException", .type "object"] "ValueError.__new__" = true) (q_BadPlace : PySem.W.keepIn K (.ref c_BadPlace) = true) (s_BadPlace : PySem.W.subIn K (.ref c_BadPlace) (.type "BaseException") = some true) (y_BadPlace : PySem.W.typeIn K (.ref c_BadPlace) = some (.type "type"))
    (m_BadTable_BadTable : PySem.W.subIn K (.ref c_BadTable) (.ref c_BadTable) = some true)
    (m_BadPlace_BadTable : PySem.W.subIn K (.ref c_BadPlace) (.ref c_BadTable) = some false)
    (m_BadPlace_BadPlace : PySem.W.subIn K (.ref c_BadPlace) (.ref c_BadPlace) = some true)
    (h_BadPlace : PySem.W.hasDictIn K c_BadPlace = true)
    (h_BadTable : PySem.W.hasDictIn K c_BadTable = true)
    {t_MOST : Tok} (n_MOST : PySem.W.nsIn K mainGlobals "MOST" = some (some (.int 400 t_MOST)))
    : ∃ fd : FuncData, (∀ (s : Shared) (v : Value), BindsTo s fd ⟨[v], []⟩ [("_law_script", v)]) ∧ ∀ base : Heap, K.In base → base.Ns mainGlobals mg → FnOk l.prog w K mg base CX0 5 fa fd ["_law_script"] (spLaw K) := by
  have e := hfa.symm.trans (PySem.W.mg_of X G a_law)
  cases e
  have F_need_table := fun_mk (st := s_need_table) l_need_table c_need_table k_need_table
  have D_need_table : DefAt K mg "need_table" s_need_table ["table", "many"] := ⟨_, _, F_need_table, PySem.W.mg_of X G a_need_table, F_need_table.binds (ps := ["table", "many"]) fun _ _ _ _ _ _ us hl => match us, hl with | [_, _], _ => rfl⟩
  have F_unpacked := fun_mk (st := s_unpacked) l_unpacked c_unpacked k_unpacked
  have D_unpacked : DefAt K mg "unpacked" s_unpacked ["table", "many"] := ⟨_, _, F_unpacked, PySem.W.mg_of X G a_unpacked, F_unpacked.binds (ps := ["table", "many"]) fun _ _ _ _ _ _ us hl => match us, hl with | [_, _], _ => rfl⟩
  have F_line_at := fun_mk (st := s_line_at) l_line_at c_line_at k_line_at
  have D_line_at : DefAt K mg "line_at" s_line_at ["table", "many", "row"] := ⟨_, _, F_line_at, PySem.W.mg_of X G a_line_at, F_line_at.binds (ps := ["table", "many", "row"]) fun _ _ _ _ _ _ us hl => match us, hl with | [_, _, _], _ => rfl⟩
  have F_rows_of := fun_mk (st := s_rows_of) l_rows_of c_rows_of k_rows_of
  have D_rows_of : DefAt K mg "rows_of" s_rows_of ["table", "many", "line"] := ⟨_, _, F_rows_of, PySem.W.mg_of X G a_rows_of, F_rows_of.binds (ps := ["table", "many", "line"]) fun _ _ _ _ _ _ us hl => match us, hl with | [_, _, _], _ => rfl⟩
  have F_law_begin := fun_mk (st := s_law_begin) l_law_begin c_law_begin k_law_begin
  have D_law_begin : DefAt K mg "_law_begin" s_law_begin ["_law_script"] := ⟨_, _, F_law_begin, PySem.W.mg_of X G a_law_begin, F_law_begin.binds (ps := ["_law_script"]) fun _ _ _ _ _ _ us hl => match us, hl with | [_], _ => rfl⟩
  have F_law_take := fun_mk (st := s_law_take) l_law_take c_law_take k_law_take
  have D_law_take : DefAt K mg "_law_take" s_law_take ["_law_draw", "_law_sides"] := ⟨_, _, F_law_take, PySem.W.mg_of X G a_law_take, F_law_take.binds (ps := ["_law_draw", "_law_sides"]) fun _ _ _ _ _ _ us hl => match us, hl with | [_, _], _ => rfl⟩
  have F_law_same := fun_mk (st := s_law_same) l_law_same c_law_same k_law_same
  have D_law_same : DefAt K mg "_law_same" s_law_same ["_law_found", "_law_due"] := ⟨_, _, F_law_same, PySem.W.mg_of X G a_law_same, F_law_same.binds (ps := ["_law_found", "_law_due"]) fun _ _ _ _ _ _ us hl => match us, hl with | [_, _], _ => rfl⟩
  have F_law_far := fun_mk (st := s_law_far) l_law_far c_law_far k_law_far
  have D_law_far : DefAt K mg "_law_far" s_law_far ["_law_draw"] := ⟨_, _, F_law_far, PySem.W.mg_of X G a_law_far, F_law_far.binds (ps := ["_law_draw"]) fun _ _ _ _ _ _ us hl => match us, hl with | [_], _ => rfl⟩
  have F_law_one := fun_mk (st := s_law_one) l_law_one c_law_one k_law_one
  have D_law_one : DefAt K mg "_law_one" s_law_one ["_law_draw", "_law_row"] := ⟨_, _, F_law_one, PySem.W.mg_of X G a_law_one, F_law_one.binds (ps := ["_law_draw", "_law_row"]) fun _ _ _ _ _ _ us hl => match us, hl with | [_, _], _ => rfl⟩
  have F_law_table := fun_mk (st := s_law_table) l_law_table c_law_table k_law_table
  have D_law_table : DefAt K mg "_law_table" s_law_table ["_law_draw"] := ⟨_, _, F_law_table, PySem.W.mg_of X G a_law_table, F_law_table.binds (ps := ["_law_draw"]) fun _ _ _ _ _ _ us hl => match us, hl with | [_], _ => rfl⟩
  have F_law_table_good := fun_mk (st := s_law_table_good) l_law_table_good c_law_table_good k_law_table_good
  have D_law_table_good : DefAt K mg "_law_table_good" s_law_table_good ["_law_table_here", "_law_many"] := ⟨_, _, F_law_table_good, PySem.W.mg_of X G a_law_table_good, F_law_table_good.binds (ps := ["_law_table_here", "_law_many"]) fun _ _ _ _ _ _ us hl => match us, hl with | [_, _], _ => rfl⟩
  have F_law_told := fun_mk (st := s_law_told) l_law_told c_law_told k_law_told
  have D_law_told : DefAt K mg "_law_told" s_law_told ["_law_choice", "_law_table_here", "_law_many", "_law_spot"] := ⟨_, _, F_law_told, PySem.W.mg_of X G a_law_told, F_law_told.binds (ps := ["_law_choice", "_law_table_here", "_law_many", "_law_spot"]) fun _ _ _ _ _ _ us hl => match us, hl with | [_, _, _, _], _ => rfl⟩
  have F_law := fun_mk (st := s_law) l_law c_law k_law
  have D_law : DefAt K mg "law" s_law ["_law_script"] := ⟨_, _, F_law, PySem.W.mg_of X G a_law, F_law.binds (ps := ["_law_script"]) fun _ _ _ _ _ _ us hl => match us, hl with | [_], _ => rfl⟩
  have B : Blt mg := ⟨PySem.W.mg_none_of X G z_abs, PySem.W.mg_none_of X G z_all, PySem.W.mg_none_of X G z_bool, PySem.W.mg_none_of X G z_enumerate, PySem.W.mg_none_of X G z_isinstance, PySem.W.mg_none_of X G z_len, PySem.W.mg_none_of X G z_list, PySem.W.mg_none_of X G z_range, PySem.W.mg_none_of X G z_str, PySem.W.mg_none_of X G z_tuple, PySem.W.mg_none_of X G z_zip⟩
  have M_BadTable_BadTable : PySem.W.exmOne K (.ref c_BadTable) (.ref c_BadTable) = some true := PySem.W.exm_ref s_BadTable h_BadTable y_BadTable m_BadTable_BadTable
  have M_BadPlace_BadTable : PySem.W.exmOne K (.ref c_BadPlace) (.ref c_BadTable) = some false := PySem.W.exm_ref s_BadTable h_BadTable y_BadTable m_BadPlace_BadTable
  have M_BadPlace_BadPlace : PySem.W.exmOne K (.ref c_BadPlace) (.ref c_BadPlace) = some true := PySem.W.exm_ref s_BadPlace h_BadPlace y_BadPlace m_BadPlace_BadPlace
  have X_BadTable : ExcAt K mg "BadTable" c_BadTable := ⟨PySem.W.mg_of X G g_BadTable, ⟨_, _, _, _, PySem.F.excBase_ValueError, e_BadTable⟩, q_BadTable, s_BadTable, y_BadTable⟩
  have X_BadPlace : ExcAt K mg "BadPlace" c_BadPlace := ⟨PySem.W.mg_of X G g_BadPlace, ⟨_, _, _, _, PySem.F.excBase_ValueError, e_BadPlace⟩, q_BadPlace, s_BadPlace, y_BadPlace⟩
  refine ⟨PySem.W.fnOf "law" "law" (defArgs s_law) (defBody s_law) (defScope s_law) .none kV_law dc_law pm_law an_law cd_law ct_law, fun s v => .of_eq rfl, fun base _ _ => ?_⟩
  have T := ok_take (P := l.prog) (w := w) (base := base) D_law_take B
  have N := ok_need (P := l.prog) (w := w) (base := base) D_need_table B (PySem.W.mg_of X G n_MOST) X_BadTable
  have Un := ok_unpacked D_unpacked B N
  exact ok_law F_law B (ok_begin D_law_begin B) T (ok_one D_law_one B T) (ok_same D_law_same B 3) (ok_far D_law_far B T) (ok_table D_law_table B T) (ok_good D_law_table_good B) (ok_told8 D_law_told B X_BadTable X_BadPlace M_BadTable_BadTable M_BadPlace_BadTable M_BadPlace_BadPlace Un (ok_line_at D_line_at B X_BadPlace N) (ok_rows_of D_rows_of B Un))
end L2.U
open PySem PySem.W PyProof.Rows
set_option maxHeartbeats 0 in
theorem PySem.Challenge.cw_hindstep_k08_tables_asked_and_refused_holds : PySem.Challenge.rw_hindstep_k08_tables_asked_and_refused.Holds := by
  w_on; o_law; k_head; (case hw => w_witness2)
  k_fill
  refine L2.walk_of (l := PySem.Challenge.rw_hindstep_k08_tables_asked_and_refused) (n := 63) (k := 5) (x := "_law_script") (CX := fun _ => L2.CX0) (sp := fun w => L2.U.spLaw _) rfl (by decide) rfl ⟨rfl, by decide, by decide⟩ (fun w h Y => PySem.W.kIn_of Y) ?F (fun _ _ a ns hl _ hS => ⟨_, rfl, a, ns, rfl, hS, hl, fun _ => rfl⟩) (fun _ _ _ _ _ h => h)
  case F =>
    intro w mg fa h KX G hmg
    refine' L2.U.all_mk KX G hmg ?a_need_table ?l_need_table ?c_need_table ?k_need_table ?a_unpacked ?l_unpacked ?c_unpacked ?k_unpacked ?a_line_at ?l_line_at ?c_line_at ?k_line_at ?a_rows_of ?l_rows_of ?c_rows_of ?k_rows_of ?a_law_begin ?l_law_begin ?c_law_begin ?k_law_begin ?a_law_take ?l_law_take ?c_law_take ?k_law_take ?a_law_same ?l_law_same ?c_law_same ?k_law_same ?a_law_far ?l_law_far ?c_law_far ?k_law_far ?a_law_one ?l_law_one ?c_law_one ?k_law_one ?a_law_table ?l_law_table ?c_law_table ?k_law_table ?a_law_table_good ?l_law_table_good ?c_law_table_good ?k_law_table_good ?a_law_told ?l_law_told ?c_law_told ?k_law_told ?a_law ?l_law ?c_law ?k_law ?z_abs ?z_all ?z_bool ?z_enumerate ?z_isinstance ?z_len ?z_list ?z_range ?z_str ?z_tuple ?z_zip ?g_BadTable ?e_BadTable ?q_BadTable ?s_BadTable ?y_BadTable ?g_BadPlace ?e_BadPlace ?q_BadPlace ?s_BadPlace ?y_BadPlace ?m_BadTable_BadTable ?m_BadPlace_BadTable ?m_BadPlace_BadPlace ?h_BadPlace ?h_BadTable ?n_MOST
    (case a_need_table => k_is)
    (case l_need_table => k_is)
    (case c_need_table => k_is)
    (case k_need_table => k_is)
    (case a_unpacked => k_is)
    (case l_unpacked => k_is)
    (case c_unpacked => k_is)
    (case k_unpacked => k_is)
    (case a_line_at => k_is)
    (case l_line_at => k_is)
    (case c_line_at => k_is)
    (case k_line_at => k_is)
    (case a_rows_of => k_is)
    (case l_rows_of => k_is)
    (case c_rows_of => k_is)
    (case k_rows_of => k_is)
    (case a_law_begin => k_is)
    (case l_law_begin => k_is)
    (case c_law_begin => k_is)
    (case k_law_begin => k_is)
    (case a_law_take => k_is)
    (case l_law_take => k_is)
    (case c_law_take => k_is)
    (case k_law_take => k_is)
    (case a_law_same => k_is)
    (case l_law_same => k_is)
    (case c_law_same => k_is)
    (case k_law_same => k_is)
    (case a_law_far => k_is)
    (case l_law_far => k_is)
    (case c_law_far => k_is)
    (case k_law_far => k_is)
    (case a_law_one => k_is)
    (case l_law_one => k_is)
    (case c_law_one => k_is)
    (case k_law_one => k_is)
    (case a_law_table => k_is)
    (case l_law_table => k_is)
    (case c_law_table => k_is)
    (case k_law_table => k_is)
    (case a_law_table_good => k_is)
    (case l_law_table_good => k_is)
    (case c_law_table_good => k_is)
    (case k_law_table_good => k_is)
    (case a_law_told => k_is)
    (case l_law_told => k_is)
    (case c_law_told => k_is)
    (case k_law_told => k_is)
    (case a_law => k_is)
    (case l_law => k_is)
    (case c_law => k_is)
    (case k_law => k_is)
    (case z_abs => k_is)
    (case z_all => k_is)
    (case z_bool => k_is)
    (case z_enumerate => k_is)
    (case z_isinstance => k_is)
    (case z_len => k_is)
    (case z_list => k_is)
    (case z_range => k_is)
    (case z_str => k_is)
    (case z_tuple => k_is)
    (case z_zip => k_is)
    (case g_BadTable => k_is)
    (case e_BadTable => k_exc)
    (case q_BadTable => k_is)
    (case s_BadTable => k_is)
    (case y_BadTable => k_is)
    (case g_BadPlace => k_is)
    (case e_BadPlace => k_exc)
    (case q_BadPlace => k_is)
    (case s_BadPlace => k_is)
    (case y_BadPlace => k_is)
    (case m_BadTable_BadTable => k_is)
    (case m_BadPlace_BadTable => k_is)
    (case m_BadPlace_BadPlace => k_is)
    (case h_BadPlace => k_is)
    (case h_BadTable => k_is)
    (case n_MOST => k_is)
#print axioms PySem.Challenge.cw_hindstep_k08_tables_asked_and_refused_holds
