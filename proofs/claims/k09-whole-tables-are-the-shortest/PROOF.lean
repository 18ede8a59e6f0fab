import PyProof.Rows.All
import Wide.All
import OpenK.AllK
import Wide.FinOn
import HandS.ForMost
import HandS.ForExc
import HandS.IsInst
import HandS.Zip
import HandS.Style
import HandS.TryMany
import HandS.Conv
import HandS.SortInts
import HandS.ExcIs
import PySem.Challenge.RW_hindstep_k09_whole_tables_are_the_shorte
set_option Elab.async false
set_option linter.all false
set_option maxRecDepth 100000
set_option maxHeartbeats 4000000
/-! U: rules that ask no kind of their parts (the union of the layer's), and steps that read them. Own text. -/
namespace L2.U
open PySem PySem.Spec PyProof.Rows
/-! ### unions -/
section
variable {X : Cx}
def rAddU (K : PySem.W.Frag) : R2 := fun x y H Q => rI0 (fun i j => .int (i + j)) x y H Q ∨ (∃ i j, x = .str i ∧ y = .str j ∧ i.length + j.length ≤ sizeLine ∧ Q (.str (i ++ j)) H) ∨ rCat x y H Q ∨ rCatT K x y H Q
theorem o_add {K : PySem.W.Frag} (h : X.K = K := by rfl) : OpR X (binaryOp .Add) (rAddU K) := h ▸ op_add.or (op_add_str.or (op_cat.or op_catT))
def rMulU : R2 := fun x y H Q => rI CMul (fun i j => .int (i * j)) x y H Q ∨ rRep x y H Q
theorem o_mul : OpR X (binaryOp .Mult) rMulU := op_mul.or op_rep
def rSubU : R2 := rI0 (fun i j => .int (i - j))
theorem o_sub : OpR X (binaryOp .Sub) rSubU := op_sub
def rDivU : R2 := rI CDivN fun i j => .int (i.fdiv j)
theorem o_div : OpR X (binaryOp .FloorDiv) rDivU := op_fdivN
def rModU : R2 := rI (fun _ j => j ≠ 0) fun i j => .int (i.fmod j)
theorem o_mod : OpR X (binaryOp .Mod) rModU := op_modN
def rPowU : R2 := rI CPow fun i j => .int (i ^ j.toNat)
theorem o_pow : OpR X (binaryOp .Pow) rPowU := op_pow
def rEqU (K : PySem.W.Frag) : R2 := fun x y H Q => rEq x y H Q ∨ rEqD K x y H Q
theorem o_eq {K : PySem.W.Frag} (hu : X.A.units + 64 < cLine) (h : X.K = K := by rfl) : OpR X (compareOp .Eq) (rEqU K) := h ▸ op_eq.or (op_eqD hu)
def rNeU (K : PySem.W.Frag) : R2 := fun x y H Q => rNe x y H Q ∨ rNeD K x y H Q
theorem o_ne {K : PySem.W.Frag} (hu : X.A.units + 64 < cLine) (h : X.K = K := by rfl) : OpR X (compareOp .NotEq) (rNeU K) := h ▸ op_ne.or (op_neD hu)
def rLtU : R2 := rI0 fun i j => .bl (decide (i < j))
theorem o_lt : OpR X (compareOp .Lt) rLtU := op_lt
def rLeU : R2 := rI0 fun i j => .bl (decide (i ≤ j))
theorem o_le : OpR X (compareOp .LtE) rLeU := op_le
def rGtU : R2 := rI0 fun i j => .bl (decide (j < i))
theorem o_gt : OpR X (compareOp .Gt) rGtU := op_gt
def rGeU : R2 := rI0 fun i j => .bl (decide (j ≤ i))
theorem o_ge : OpR X (compareOp .GtE) rGeU := op_ge
def rSgn (neg : Bool) : R2 := fun x y H Q => ∃ (c : Nat) (z : Str), x = .str ⟨#[c]⟩ ∧ y = .str z ∧ Q (.bl (if neg then !decide (c ∈ z.cps.toList) else decide (c ∈ z.cps.toList))) H
def rSub (neg : Bool) : R2 := fun x y H Q => ∃ i j, x = .str i ∧ y = .str j ∧ Q (.bl (if neg then !(!(Builtin.Str.occurrences j i 0 j.length 1).isEmpty) else !(Builtin.Str.occurrences j i 0 j.length 1).isEmpty)) H
def rInU (K : PySem.W.Frag) (neg : Bool) : R2 := fun x y H Q => rSgn neg x y H Q ∨ rIn K neg x y H Q ∨ rSub neg x y H Q
theorem o_in {K : PySem.W.Frag} (h : X.K = K := by rfl) : OpR X (compareOp .In) (rInU K false) := h ▸ OpR.or (r := rSgn false) op_in_sign (OpR.or op_in_seq (r' := rSub false) op_in_str)
theorem o_notIn {K : PySem.W.Frag} (h : X.K = K := by rfl) : OpR X (compareOp .NotIn) (rInU K true) := h ▸ OpR.or (r := rSgn true) op_notIn_sign (OpR.or op_notIn_seq (r' := rSub true) op_notin_str)
def rIsU (neg : Bool) : R2 := fun x y H Q => y = .non ∧ Q (.bl (if neg then !decide (x = .non) else decide (x = .non))) H
theorem o_is : OpR X (compareOp .Is) (rIsU false) := op_isN
theorem o_isNot : OpR X (compareOp .IsNot) (rIsU true) := op_notN
def rSlU (K : PySem.W.Frag) : V → Option Int → Option Int → Hp → VK → Prop := fun x lo hi H Q => rSlL K x lo hi H Q ∨ rSlT K x lo hi H Q ∨ rSlS x lo hi H Q
theorem sl_u {K : PySem.W.Frag} (h : X.K = K := by rfl) : SlR X (rSlU K) := h ▸ sl_list.or (sl_tup.or sl_str)
theorem u_ix {K : PySem.W.Frag} (h : X.K = K := by rfl) : IxR X (rIx K) := h ▸ ix_seq
theorem u_len {K : PySem.W.Frag} (h : X.K = K := by rfl) : CallR X (.builtin "len") (fun xs H Q => ∃ x n, xs = [x] ∧ LenV K x H n ∧ Q (.int n) H) := h ▸ call_len
theorem u_all {K : PySem.W.Frag} (hc : X.calm = true) (h : X.K = K := by rfl) : CallR X (.builtin "all") (rAll K) := h ▸ cr_all hc
theorem u_any {K : PySem.W.Frag} (hc : X.calm = true) (h : X.K = K := by rfl) : CallR X (.builtin "any") (rAny K) := h ▸ cr_any hc
theorem u_sum {K : PySem.W.Frag} (hc : X.calm = true) (h : X.K = K := by rfl) : CallR X (.builtin "sum") (rSum K) := h ▸ cr_sum hc
theorem u_sortedI {K : PySem.W.Frag} (h : X.K = K := by rfl) : CallR X (.builtin "sorted") (rSortedI K) := h ▸ cr_sortedI
theorem u_isi {K : PySem.W.Frag} (h : X.K = K := by rfl) : CallR X (.builtin "isinstance") (rIsi K) := h ▸ call_isi
theorem u_isiT {K : PySem.W.Frag} (h : X.K = K := by rfl) : CallR X (.builtin "isinstance") (rIsiT K) := h ▸ call_isiT
theorem u_join {K : PySem.W.Frag} {o e : Expr} {to te : TE} {apos pos : Pos} (ho : PE X o to) (he : PE X e te) (h : X.K = K := by rfl) (hs : starEach [e] X.env = [(false, eval e X.env)] := by rfl) (hbase : attributeBase o "join" X.env (eval o X.env) = eval o X.env := by rfl) (hline : (apos.endLine == pos.line) = true := by rfl) :
    PE X (.Call (.Attribute o "join" apos) [e] [] pos) (tM1 (fun x xs H Q => ∃ a p, ∃ ys : List Str, x = .str a ∧ xs = [.ref p] ∧ (SqL K H p (ys.map V.str) ∨ SqT K H p (ys.map V.str)) ∧
      (ys.map (·.length)).sum + ys.length * a.length ≤ 16777216 ∧ Q (.str (Txt.join a ys)) H) to te) := h ▸ pe_join ho he hs hbase hline
theorem u_bm {K : PySem.W.Frag} {T : String} {id : String} {name : Str} {r : V → List V → Hp → VK → Prop} {o e : Expr} {es : List Expr} {to : TE} {t : TA} {apos cpos : Pos} (pa : PlainAttrs T) (slot : Slot T name id) (hty : typeOf (.builtin id) = pure (.type "method_descriptor")) (hm : MtR X id r) (ho : PE X o to) (ha : PA X (e :: es) t) (h : X.K = K := by rfl)
    (hbase : attributeBase o name X.env (eval o X.env) = eval o X.env := by rfl)
    (hfew : ((backTo cpos (starEach (e :: es) X.env)).all (fun x => !x.1) && (backToKw cpos (keywordEach [] X.env)).all (fun x => x.1.isSome)
      && decide ((e :: es).length + ([] : List Keyword).length + (if ([] : List Keyword).isEmpty then 0 else 1) < 30)) = true := by rfl)
    (hline : (apos.endLine == cpos.line) = true := by rfl) (hs : starEach (e :: es) X.env = (false, eval e X.env) :: starEach es X.env := by rfl) (hplain : (backTo cpos (starEach es X.env)).any (·.1) = false := by rfl) :
    PE X (.Call (.Attribute o name apos) (e :: es) [] cpos) (tBM K T r to t) := h ▸ pe_bm pa slot hty hm ho ha hbase hfew hline hs hplain
theorem u_bm0 {K : PySem.W.Frag} {T : String} {id : String} {name : Str} {r : V → List V → Hp → VK → Prop} {o : Expr} {to : TE} {apos cpos : Pos} (pa : PlainAttrs T) (slot : Slot T name id) (hty : typeOf (.builtin id) = pure (.type "method_descriptor")) (hm : MtR X id r) (ho : PE X o to) (h : X.K = K := by rfl)
    (hbase : attributeBase o name X.env (eval o X.env) = eval o X.env := by rfl) (hline : (apos.endLine == cpos.line) = true := by rfl) : PE X (.Call (.Attribute o name apos) [] [] cpos) (tBM0 K T r to) := h ▸ pe_bm0 pa slot hty hm ho hbase hline
theorem u_tup {K : PySem.W.Frag} {es : List Expr} {k : Nat} {pos : Pos} {t : TGs} {n : Nat} (hc : X.calm = true) (h : PGs X es t) (hK : X.K = K := by rfl)
    (hn : (assignEach es X.env).length = n := by rfl) (hst : (assignEach es X.env).findIdx? (·.1) = none := by rfl) : PG X (.Tuple es k pos) (gTup K n t) := hK ▸ pg_tup hc h hn hst
theorem u_iList {K : PySem.W.Frag} {tg l : Expr} {tl : TE} (hl : PE X l tl) (h : X.K = K := by rfl) : PI X tg l (iList K tl) := h ▸ pi_list hl
theorem u_iTup {K : PySem.W.Frag} {tg l : Expr} {tl : TE} (hl : PE X l tl) (h : X.K = K := by rfl) : PI X tg l (iTup K tl) := h ▸ pi_tup hl
end
theorem vals_of_get : ∀ {xs : List V} {us : List Value}, xs.length = us.length → (∀ (i : Nat) x u, xs[i]? = some x → us[i]? = some u → RelV x u) → Vals xs us
  | [], [], _, _ => .nil
  | [], _ :: _, h, _ => by simp at h
  | _ :: _, [], h, _ => by simp at h
  | x :: xs, u :: us, h, k => .cons (k 0 x u rfl rfl) (vals_of_get (by simpa using h) fun i y w a b => k (i + 1) y w (by simpa using a) (by simpa using b))
section
variable {X : Cx}
/-- list(text): its signs -/
def signsV (x : Str) : List V := x.cps.toList.map fun c => .str ⟨#[c]⟩
theorem call_listS (hc : X.calm = true) : CallR X (.type "list") (fun xs H Q => ∃ x, xs = [.str x] ∧ x.length ≤ sizeLine ∧ ∀ l, H l = none → Q (.ref l) (upd H l (.lst (signsV x)))) := by
  intro pins s σ H xs us Q I r h
  obtain ⟨x, rfl, hx, q⟩ := h
  obtain ⟨u, rfl, t, rfl⟩ := vals1 r
  refine call_list_str (I.ok.hd hc) x t (fun h' tk acc' c' hk hS hacc => ?_) hx
  have hv : Vals (signsV x) acc'.toList := vals_of_get (by unfold signsV; rw [List.length_map, Array.length_toList, Array.length_toList, hacc.1]) fun i y w a b => by
    unfold signsV at a
    rw [List.getElem?_map] at a
    obtain ⟨c, hc1, e⟩ := Option.map_eq_some_iff.mp a
    obtain ⟨c', u', hc2, rfl⟩ := hacc.2 i w (by rw [← Array.getElem?_toList]; exact b)
    rw [← Array.getElem?_toList, hc1] at hc2
    cases hc2
    rw [← e]
    exact ⟨u', rfl⟩
  exact ⟨.ref s.heap.objs.size, _, I.laid (t' := tk) hk (Nat.le_refl _) (show ObjOk X.prog X.w _ h' _ (.lst (signsV x)) from ⟨by unfold signsV; rw [List.length_map, Array.length_toList]; exact hx, acc'.toList, c', hv, hS⟩), rfl, q _ (I.hok.fresh (Nat.le_refl _))⟩
def rListU (K : PySem.W.Frag) : List V → Hp → VK → Prop := fun xs H Q => (∃ p ys, xs = [.ref p] ∧ (SqL K H p ys ∨ SqT K H p ys) ∧ ∀ l, H l = none → Q (.ref l) (upd H l (.lst ys))) ∨ (∃ x, xs = [.str x] ∧ x.length ≤ sizeLine ∧ ∀ l, H l = none → Q (.ref l) (upd H l (.lst (signsV x))))
theorem call_listU {K : PySem.W.Frag} (hc : X.calm = true) (h : X.K = K := by rfl) : CallR X (.type "list") (rListU K) := h ▸ CallR.or call_list_of (call_listS hc)
end
/-! ### defs -/
structure OkF (P : Program) (w : World) (K : PySem.W.Frag) (mg : Str → Option Value) (base : Heap) (CX : CXT) (k : Nat) (x : Str) (ps : List Str) (sp : Sp) : Prop where
  ex : ∃ (f : Addr) (fd : FuncData), mg x = some (.ref f) ∧ PySem.W.keepIn K (.ref f) = true ∧ Binds K fd ps [] ∧ FnOk P w K mg base CX k f fd ps sp
structure DefAt (K : PySem.W.Frag) (mg : Str → Option Value) (x : Str) (st : Stmt) (ps : List Str) : Prop where
  ex : ∃ (f : Addr) (fd : FuncData), Fun K x x st f fd ∧ mg x = some (.ref f) ∧ Binds K fd ps []
section
variable {P : Program} {w : World} {K : PySem.W.Frag} {mg : Str → Option Value} {base : Heap} {x : Str} {st : Stmt} {N ps : List Str} {k : Nat} {sp : Sp}
theorem DefAt.ok (D : DefAt K mg x st ps) (S : FnScope N ps (defScope st)) (len : ∀ vs H Q E, sp vs H Q E → vs.length = ps.length)
    (hbody : ∀ (f : Addr) (cdv : Value) (A : Around) (outer : List Env) (s : Shared) (H : Hp) (vs : List V) (Q : VK) (E : XK), Room k (A.deeper (envOfC x (defScope st) s.heap.objs.size f cdv)) → sp vs H Q E →
      ∃ t, PSs (cxOf CX0 P w K mg base N x (defScope st) f cdv A outer s H E).nox (defBody st) t ∧ t { nx := fun _ H' => Q .non H', rt := Q } (start N vs) H) : OkF P w K mg base CX0 (k + 1) x ps sp := by
  obtain ⟨f, fd, F, g, b⟩ := D.ex
  exact ⟨f, fd, g, F.kp, b, F.ok S len fun cdv A outer s H vs Q E hr h => hbody f cdv A outer s H vs Q E hr h⟩
theorem DefAt.okX (D : DefAt K mg x st ps) (S : FnScope N ps (defScope st)) (len : ∀ vs H Q E, sp vs H Q E → vs.length = ps.length)
    (hbody : ∀ (f : Addr) (cdv : Value) (A : Around) (outer : List Env) (s : Shared) (H : Hp) (vs : List V) (Q : VK) (E : XK), Room k (A.deeper (envOfC x (defScope st) s.heap.objs.size f cdv)) → sp vs H Q E →
      ∃ t, PSs (cxOf (L2.CX P w) P w K mg base N x (defScope st) f cdv A outer s H E) (defBody st) t ∧ t { nx := fun _ H' => Q .non H', rt := Q } (start N vs) H) : OkF P w K mg base (L2.CX P w) (k + 1) x ps sp := by
  obtain ⟨f, fd, F, g, b⟩ := D.ex
  exact ⟨f, fd, g, F.kp, b, F.okX S len fun cdv A outer s H vs Q E hr h => hbody f cdv A outer s H vs Q E hr h⟩
theorem DefAt.okNo {CX : CXT} (D : DefAt K mg x st ps) (h : ∀ vs H Q E, ¬ sp vs H Q E) : OkF P w K mg base CX k x ps sp := by
  obtain ⟨f, fd, F, g, b⟩ := D.ex
  exact ⟨f, fd, g, F.kp, b, fun vs H Q E z => (h _ _ _ _ z).elim, fun A outer s H args us vs Q E _ _ _ _ z => (h _ _ _ _ z).elim⟩
theorem OkF.mono {CX : CXT} {j : Nat} (O : OkF P w K mg base CX j x ps sp) (h : j ≤ k) : OkF P w K mg base CX k x ps sp := by
  obtain ⟨f, fd, a, b, c, d⟩ := O.ex
  exact ⟨f, fd, a, b, c, d.mono h⟩
end
section
variable {X : Cx} {CX : CXT} {k : Nat} {x : Str} {ps : List Str} {sp : Sp} {E : XK} {p pos : Pos} {e : Expr} {es : List Expr} {t : TA}
theorem u_call (O : OkF X.prog X.w X.K X.mg X.base CX k x ps sp) (hr : Room k X.A) (hx : Passes CX X E) (ha : PA X (e :: es) t) (hg : Gl X x := by rfl) (hdb : (x == ("__debug__" : Str)) = false := by decide)
    (he : starEach (e :: es) X.env = (false, eval e X.env) :: starEach es X.env := by rfl) (hpl : (backTo pos (starEach es X.env)).any (·.1) = false := by rfl) :
    PE X (.Call (.Name x p) (e :: es) [] pos) (tCall sp [] E t) := by
  obtain ⟨f, fd, hm, hk, hb, F⟩ := O.ex
  exact pe_call F hr hg hm hk hb .nil hx ha hdb he hpl
theorem u_call0 (O : OkF X.prog X.w X.K X.mg X.base CX k x ps sp) (hr : Room k X.A) (hx : Passes CX X E) (hg : Gl X x := by rfl) (hdb : (x == ("__debug__" : Str)) = false := by decide) :
    PE X (.Call (.Name x p) [] [] pos) (tCall sp [] E tNil) := by
  obtain ⟨f, fd, hm, hk, hb, F⟩ := O.ex
  exact pe_call0 F hr hg hm hk hb .nil hx hdb
end
/-! ### own exceptions without __init__ -/
structure ExcAt (K : PySem.W.Frag) (mg : Str → Option Value) (x : Str) (C : Addr) : Prop where
  g : mg x = some (.ref C)
  ex : ∃ (bmB : List Value) (B newId initId : String), ExcBaseFacts B newId initId bmB ∧ PySem.W.excIn K C bmB newId = true
  kp : PySem.W.keepIn K (.ref C) = true
  sb : PySem.W.subIn K (.ref C) (.type "BaseException") = some true
  ty : PySem.W.typeIn K (.ref C) = some (.type "type")
section
variable {X : Cx} {x : Str} {C : Addr} {p pos : Pos}
/-- X() -/
theorem u_exc (T : ExcAt X.K X.mg x C) (hg : Gl X x := by rfl) (hdb : (x == ("__debug__" : Str)) = false := by decide) : PMk X (.Call (.Name x p) [] [] pos) (fun _ H Q => Q (.ref C) none H) := by
  intro pins s σ H Q I h
  refine wpAny_Call_Name_kw (ld_glob I hg T.g ?_ hdb)
  obtain ⟨bmB, B, newId, initId, F, q⟩ := T.ex
  refine PySem.W.callWith_K0 I.kIn T.kp ?_
  obtain ⟨bm, N, nm, qn, bs, hdct, sn, sub, ab, col, dd, k0, k1, k2, k3, k5, mN, hC, hN, hni, TT⟩ := exc_obj I.kIn q
  refine wpAny_call_exc_subT F TT hC hN hni (fun h' e hm => ?_) (Nat.zero_le _)
  exact mk_of I hm (raises_own T.sb T.ty) h (I.hok.gone hm.new)
theorem names_own (T : ExcAt X.K X.mg x C) (hg : Gl X x := by rfl) (hdb : (x == ("__debug__" : Str)) = false := by decide) : Names X x (.ref C) := ⟨hg, hdb, .inl T.g⟩
end
section
variable {X : Cx} {CX : CXT} {k : Nat} {x : Str} {ps : List Str} {sp : Sp} {p pos : Pos} {e : Expr} {es : List Expr} {t : TA}
/-- a call within a try's body: what it lets out is wished for at the slots -/
theorem u_callS {W : WX} (O : OkF X.prog X.w X.K X.mg X.base (L2.CX X.prog X.w) k x ps sp) (hr : Room k X.A) (tk : Takes X W) (ha : PA X (e :: es) t) (hg : Gl X x := by rfl) (hdb : (x == ("__debug__" : Str)) = false := by decide)
    (he : starEach (e :: es) X.env = (false, eval e X.env) :: starEach es X.env := by rfl) (hpl : (backTo pos (starEach es X.env)).any (·.1) = false := by rfl) :
    PE X (.Call (.Name x p) (e :: es) [] pos) (tCallS sp (WE W) t) := by
  obtain ⟨f, fd, hm, hk, hb, F⟩ := O.ex
  exact pe_callS F hr hg hm hk hb (fun σ => passAt tk σ) ha hdb he hpl
end
/-- try .. except: the wish at the body's exceptions depends on the ends -/
def tTry (tb : WX → TS) (W : Ends → WX) : TS := fun D σ H => tb (W D) D σ H
section
variable {X : Cx} {x n : Str} {c : Value} {i : Nat} {body suite : List Stmt} {b₀ : Stmt} {np pos pos' : Pos} {tb : WX → TS} {ts : Addr → Value → Option Addr → TS} {Wout : WX}
theorem u_try_only {K : PySem.W.Frag} (hs : X.stack = X.env :: X.outer) (hf : X.env.frame = some X.env.locals) (hc : Names X x c) (tk : Takes X Wout)
    (hb : ∀ (W : WX) (pn : List (Addr × Obj)) (xe : Value → Shared → Prop), Takes (X.tr pn xe) W → PassesOwn (model X.prog X.w) X.A X.env xe → PSs (X.tr pn xe) body (tb W))
    (hsu : ∀ (a : Addr) (oe : Obj) (cls : Value) (d : Option Addr) (pn : List (Addr × Obj)), Zc cls d oe → (∃ vs, oe.data = .fields vs) → PSs (X.suite a ((a, oe) :: pn)) (b₀ :: suite) (ts a cls d)) (h : X.K = K := by rfl) :
    PS X (.Try body [.ExceptHandler (some (.Name x np)) none (b₀ :: suite) pos'] [] [] pos) (tTry tb (wOnly K c ts Wout)) := h ▸ ps_try_only hs hf hc tk hb hsu
theorem u_try_many {K : PySem.W.Frag} {h₀ : ExceptHandler} {hds : List ExceptHandler} {l : List (Value × (Addr → Value → Option Addr → TS))} (hs : X.stack = X.env :: X.outer) (hf : X.env.frame = some X.env.locals) (tk : Takes X Wout)
    (hb : ∀ (W : WX) (pn : List (Addr × Obj)) (xe : Value → Shared → Prop), Takes (X.tr pn xe) W → PassesOwn (model X.prog X.w) X.A X.env xe → PSs (X.tr pn xe) body (tb W))
    (hh : HdsOk X (h₀ :: hds) l) (h : X.K = K := by rfl) : PS X (.Try body (h₀ :: hds) [] [] pos) (tTry tb fun D => wMany K Wout D l) := h ▸ ps_try_many hs hf tk hb hh
end
def rEnumU (K : PySem.W.Frag) (ta : TA) : TI := fun σ H R => ta σ H fun vs H1 => ∃ a xs, vs = [.ref a] ∧ SqL K H1 a xs ∧ R (Ite K a) H1
theorem u_enum {X : Cx} {K : PySem.W.Frag} {e : Expr} {ta : TA} {p pos tpos : Pos} {elts : List Expr} {kk : Nat} (hm : X.mg "enumerate" = none) (ha : PA X [e] ta) (hg : Gl X "enumerate" := by rfl) (h : X.K = K := by rfl) (hs : starEach [e] X.env = [(false, eval e X.env)] := by rfl) :
    PI X (.Tuple elts kk tpos) (.Call (.Name "enumerate" p) [e] [] pos) (rEnumU K ta) := h ▸ pi_enum hg hm ha hs
def ipU : TIp := fun x y H Q => rI0 (fun i j => .int (i + j)) x y H Q ∨ rExt2 x y H Q
theorem ip_addU {X : Cx} : PIp X .Add ipU := by
  intro pins s σ H x y v u Q I rx ry h
  rcases h with h | h
  · obtain ⟨i, j, rfl, rfl, q⟩ := h
    exact ip_add pins s σ H _ _ v u Q I rx ry ⟨i, j, rfl, rfl, q⟩
  · exact iop_ext pins s σ H x y v u Q I rx ry h
/-! ### promises by the number of arguments -/
def sp1 (p : V → Hp → VK → XK → Prop) : Sp := fun vs H Q E => ∃ a, vs = [a] ∧ p a H Q E
def sp2 (p : V → V → Hp → VK → XK → Prop) : Sp := fun vs H Q E => ∃ a b, vs = [a, b] ∧ p a b H Q E
def sp3 (p : V → V → V → Hp → VK → XK → Prop) : Sp := fun vs H Q E => ∃ a b c, vs = [a, b, c] ∧ p a b c H Q E
theorem len1 {p} : ∀ vs H Q E, sp1 p vs H Q E → vs.length = 1 := by
  rintro _ _ _ _ ⟨_, rfl, _⟩
  rfl
theorem len2 {p} : ∀ vs H Q E, sp2 p vs H Q E → vs.length = 2 := by
  rintro _ _ _ _ ⟨_, _, rfl, _⟩
  rfl
theorem len3 {p} : ∀ vs H Q E, sp3 p vs H Q E → vs.length = 3 := by
  rintro _ _ _ _ ⟨_, _, _, rfl, _⟩
  rfl
/-! ### truth -/
def tTr (K : PySem.W.Frag) (ta : TE) : TT := fun σ H Q => ta σ H fun x H' => ∃ k, TruV K x H' k ∧ Q k H'
theorem u_truth {X : Cx} {a : Expr} {ta : TE} (ha : PE X a ta) {K : PySem.W.Frag} (he : ∀ whole, isTrue a X.env whole = (do let v ← whole; standAt a.pos; holding [v] (truthy v)) := by intro _; rfl) (h : X.K = K := by rfl) : PT X a (tTr K ta) := h ▸ pt_truth ha he
theorem sz {n : Nat} (h : Nat.ble n 16777216 = true) : n ≤ sizeLine := by
  rw [show sizeLine = 16777216 from sizeLine_eq]
  exact Nat.le_of_ble_eq_true h
theorem sz_of {n : Nat} (h : n ≤ 1000) : n ≤ sizeLine := Nat.le_of_lt (small1000 h)
/-! ### steps of a reading -/
section
variable {σ : St} {H : Hp} {Q : VK} {QB : Bool → Hp → Prop} {QA : List V → Hp → Prop} {v x y : V} {i j : Int} {n m : Nat} {a b : Str} {p q : Addr} {xs ys : List V} {ta tb tc : TE} {tt uu : TT} {tr : TA} {K : PySem.W.Frag} {D : Ends} {ts us : TS} {o : HO} {E : XK} {k : Bool}
theorem s_var (h : σ[n]? = some (some v)) (z : Q v H) : tVar n σ H Q := ⟨v, h, z⟩
theorem s_c (z : Q v H) : tC v σ H Q := z
theorem s_op {r : R2} (z : ta σ H fun x H1 => tb σ H1 fun y H2 => r x y H2 Q) : tOp r ta tb σ H Q := z
theorem s_un {r : V → Hp → VK → Prop} (z : ta σ H fun x H1 => r x H1 Q) : tUn r ta σ H Q := z
theorem s_neg (z : Q (.int (-i)) H) : rU (fun i => .int (-i)) (.int i) H Q := ⟨i, rfl, z⟩
theorem s_test (z : ta σ H fun x H' => ∃ k, x = .bl k ∧ QB k H') : tTest ta σ H QB := z
theorem s_tB (z : ta σ H fun x H' => ∃ k, x = .bl k ∧ QB k H') : tB ta σ H QB := z
theorem s_bl {R : Bool → Prop} (z : R k) : ∃ k', V.bl k = .bl k' ∧ R k' := ⟨k, rfl, z⟩
theorem s_add (z : Q (.int (i + j)) H) : rAddU K (.int i) (.int j) H Q := .inl ⟨i, j, rfl, rfl, z⟩
theorem s_addS (h : a.length + b.length ≤ sizeLine) (z : Q (.str (a ++ b)) H) : rAddU K (.str a) (.str b) H Q := .inr (.inl ⟨a, b, rfl, rfl, h, z⟩)
theorem s_addL (h1 : H p = some (.lst xs)) (h2 : H q = some (.lst ys)) (h : xs.length + ys.length ≤ sizeLine) (z : ∀ l, H l = none → Q (.ref l) (upd H l (.lst (xs ++ ys)))) : rAddU K (.ref p) (.ref q) H Q :=
  .inr (.inr (.inl ⟨p, q, xs, ys, rfl, rfl, h1, h2, h, z⟩))
theorem s_mul (h : CMul i j) (z : Q (.int (i * j)) H) : rMulU (.int i) (.int j) H Q := .inl ⟨i, j, rfl, rfl, h, z⟩
theorem s_rep (h : H p = some (.lst xs)) (h1 : -(2 ^ 63) ≤ j) (h2 : j < 2 ^ 63) (h3 : xs.length * j.toNat ≤ sizeLine) (z : ∀ l, H l = none → Q (.ref l) (upd H l (.lst (List.replicate j.toNat xs).flatten))) : rMulU (.ref p) (.int j) H Q :=
  .inr ⟨p, j, xs, rfl, rfl, h, h1, h2, h3, z⟩
theorem s_sub (z : Q (.int (i - j)) H) : rSubU (.int i) (.int j) H Q := ⟨i, j, rfl, rfl, z⟩
theorem s_div (h : CDivN i j) (z : Q (.int (i.fdiv j)) H) : rDivU (.int i) (.int j) H Q := ⟨i, j, rfl, rfl, h, z⟩
theorem s_mod (h : j ≠ 0) (z : Q (.int (i.fmod j)) H) : rModU (.int i) (.int j) H Q := ⟨i, j, rfl, rfl, h, z⟩
theorem s_pow (h : CPow i j) (z : Q (.int (i ^ j.toNat)) H) : rPowU (.int i) (.int j) H Q := ⟨i, j, rfl, rfl, h, z⟩
theorem s_lt (z : Q (.bl (decide (i < j))) H) : rLtU (.int i) (.int j) H Q := ⟨i, j, rfl, rfl, z⟩
theorem s_le (z : Q (.bl (decide (i ≤ j))) H) : rLeU (.int i) (.int j) H Q := ⟨i, j, rfl, rfl, z⟩
theorem s_gt (z : Q (.bl (decide (j < i))) H) : rGtU (.int i) (.int j) H Q := ⟨i, j, rfl, rfl, z⟩
theorem s_ge (z : Q (.bl (decide (j ≤ i))) H) : rGeU (.int i) (.int j) H Q := ⟨i, j, rfl, rfl, z⟩
theorem s_eq (h : scal x y = true) (z : Q (.bl (decide (x = y))) H) : rEqU K x y H Q := .inl ⟨h, z⟩
theorem s_ne (h : scal x y = true) (z : Q (.bl (!decide (x = y))) H) : rNeU K x y H Q := .inl ⟨h, z⟩
theorem s_eqD {d e : PyData} (hx : Dp K H x d) (hy : Dp K H y e) (sd : SeqAt.shaped d = true) (se : SeqAt.shaped e = true) (z : Q (.bl (PyData.eqv d e)) H) : rEqU K x y H Q := .inr ⟨d, e, hx, hy, sd, se, z⟩
theorem s_neD {d e : PyData} (hx : Dp K H x d) (hy : Dp K H y e) (sd : SeqAt.shaped d = true) (se : SeqAt.shaped e = true) (z : Q (.bl (!PyData.eqv d e)) H) : rNeU K x y H Q := .inr ⟨d, e, hx, hy, sd, se, z⟩
theorem s_isN (z : Q (.bl (decide (x = .non))) H) : rIsU false x .non H Q := ⟨rfl, z⟩
theorem s_notN (z : Q (.bl (!decide (x = .non))) H) : rIsU true x .non H Q := ⟨rfl, z⟩
theorem s_inS {c : Nat} (z : Q (.bl (decide (c ∈ a.cps.toList))) H) : rInU K false (.str ⟨#[c]⟩) (.str a) H Q := .inl ⟨c, a, rfl, rfl, z⟩
theorem s_notInS {c : Nat} (z : Q (.bl (!decide (c ∈ a.cps.toList))) H) : rInU K true (.str ⟨#[c]⟩) (.str a) H Q := .inl ⟨c, a, rfl, rfl, z⟩
theorem s_inL (h : SqL K H p xs ∨ SqT K H p xs) (h1 : flatV x = true) (h2 : xs.all flatV = true) (z : Q (.bl (inV x xs)) H) : rInU K false x (.ref p) H Q := .inr (.inl ⟨p, xs, rfl, h, h1, h2, z⟩)
theorem s_notInL (h : SqL K H p xs ∨ SqT K H p xs) (h1 : flatV x = true) (h2 : xs.all flatV = true) (z : Q (.bl (!inV x xs)) H) : rInU K true x (.ref p) H Q := .inr (.inl ⟨p, xs, rfl, h, h1, h2, z⟩)
theorem s_ixL (h : SqL K H p xs) (h1 : atI xs i = some v) (z : Q v H) : rIx K (.ref p) (.int i) H Q := .inl ⟨p, xs, i, v, rfl, rfl, h, h1, z⟩
theorem s_ixT (h : SqT K H p xs) (h1 : atI xs i = some v) (z : Q v H) : rIx K (.ref p) (.int i) H Q := .inr (.inl ⟨p, xs, i, v, rfl, rfl, h, h1, z⟩)
theorem s_ixS {c : Nat} (h : a.length ≤ sizeLine) (h1 : atI a.cps.toList i = some c) (z : Q (.str ⟨#[c]⟩) H) : rIx K (.str a) (.int i) H Q := .inr (.inr ⟨a, i, c, rfl, rfl, h, h1, z⟩)
theorem s_sl {r : V → Option Int → Option Int → Hp → VK → Prop} {tl th : TO} (z : ta σ H fun x H1 => tl σ H1 fun l H2 => th σ H2 fun u H3 => r x l u H3 Q) : tSl r ta tl th σ H Q := z
theorem s_noPart {QO : Option Int → Hp → Prop} (z : QO none H) : tNoPart σ H QO := z
theorem s_part {QO : Option Int → Hp → Prop} (z : ta σ H fun x H1 => ∃ i, x = .int i ∧ QO (some i) H1) : tPart ta σ H QO := z
theorem s_partI {R : Int → Prop} (z : R i) : ∃ i', V.int i = .int i' ∧ R i' := ⟨i, rfl, z⟩
theorem s_slS {lo hi : Option Int} (h : a.length ≤ sizeLine) (z : Q (.str (cutS a lo hi)) H) : rSlU K (.str a) lo hi H Q := .inr (.inr ⟨a, rfl, h, z⟩)
theorem s_slL {lo hi : Option Int} (h : SqL K H p xs) (z : ∀ l, H l = none → Q (.ref l) (upd H l (.lst (cutV xs lo hi)))) : rSlU K (.ref p) lo hi H Q := .inl ⟨p, xs, rfl, h, z⟩
theorem s_nil (z : QA [] H) : tNil σ H QA := z
theorem s_cons (z : ta σ H fun x H1 => tr σ H1 fun xs H2 => QA (x :: xs) H2) : tCons ta tr σ H QA := z
theorem s_tup (z : tr σ H fun xs H1 => xs.length ≤ sizeLine ∧ ∀ p, H1 p = none → Q (.ref p) (upd H1 p (.tup xs))) : tTup tr σ H Q := z
theorem s_lst (z : tr σ H fun xs H1 => xs.length ≤ sizeLine ∧ ∀ p, H1 p = none → Q (.ref p) (upd H1 p (.lst xs))) : tLst tr σ H Q := z
theorem s_new {C : Prop} (h : n ≤ 1000) (z : C) : n ≤ sizeLine ∧ C := ⟨Nat.le_of_lt (small1000 h), z⟩
theorem s_call {sp : Sp} (z : tr σ H fun vs H1 => sp (vs ++ []) H1 Q E) : tCall sp [] E tr σ H Q := z
theorem s_sp1 {P : V → Hp → VK → XK → Prop} (z : P x H Q E) : sp1 P ([x] ++ []) H Q E := ⟨x, rfl, z⟩
theorem s_sp2 {P : V → V → Hp → VK → XK → Prop} (z : P x y H Q E) : sp2 P ([x, y] ++ []) H Q E := ⟨x, y, rfl, z⟩
theorem s_sp3 {P : V → V → V → Hp → VK → XK → Prop} (z : P x y v H Q E) : sp3 P ([x, y, v] ++ []) H Q E := ⟨x, y, v, rfl, z⟩
theorem s_cb {r : List V → Hp → VK → Prop} (z : tr σ H fun vs H1 => r vs H1 Q) : tCB r tr σ H Q := z
theorem s_len {R : Nat → Prop} (h : LenV K x H n) (z : R n) : ∃ x' n', [x] = [x'] ∧ LenV K x' H n' ∧ R n' := ⟨x, n, rfl, h, z⟩
theorem s_and (z : tt σ H fun c H1 => if c = true then uu σ H1 QB else QB false H1) : tAnd tt uu σ H QB := z
theorem s_or (z : tt σ H fun c H1 => if c = true then QB true H1 else uu σ H1 QB) : tOr tt uu σ H QB := z
theorem s_not (z : tt σ H fun c H1 => QB (!c) H1) : tNot tt σ H QB := z
theorem s_andV (z : ta σ H fun x H1 => ∃ c, x = .bl c ∧ if c = true then tb σ H1 Q else Q (.bl false) H1) : tAndV ta tb σ H Q := z
theorem s_orV (z : ta σ H fun x H1 => ∃ c, x = .bl c ∧ if c = true then Q (.bl true) H1 else tb σ H1 Q) : tOrV ta tb σ H Q := z
theorem s_notV (z : ta σ H fun x H1 => ∃ c, x = .bl c ∧ Q (.bl (!c)) H1) : tNotV ta σ H Q := z
theorem s_bln {R : Bool → Prop} (e : k = true) (z : R true) : ∃ k', V.bl k = .bl k' ∧ R k' := ⟨true, by rw [e], z⟩
theorem s_if (z : tt σ H fun c H1 => if c = true then ta σ H1 Q else tb σ H1 Q) : tIf tt ta tb σ H Q := z
theorem s_chain {r r' : R2} (z : ta σ H fun x H1 => tb σ H1 fun y H2 => r x y H2 fun z H3 => ∃ k, z = .bl k ∧ (if k = true then tc σ H3 fun w' H4 => r' y w' H4 Q else Q (.bl false) H3)) : tChain r r' ta tb tc σ H Q := z
theorem s_tr (z : ta σ H fun x H' => ∃ k, TruV K x H' k ∧ QB k H') : tTr K ta σ H QB := z
theorem s_truB {R : Bool → Prop} (z : R k) : ∃ k', TruV K (.bl k) H k' ∧ R k' := ⟨k, rfl, z⟩
theorem s_truL {R : Bool → Prop} (h : SqL K H p xs) (z : R (!xs.isEmpty)) : ∃ k', TruV K (.ref p) H k' ∧ R k' := ⟨_, .inl ⟨xs, h, rfl⟩, z⟩
theorem s_listL (h : SqL K H p xs ∨ SqT K H p xs) (z : ∀ l, H l = none → Q (.ref l) (upd H l (.lst xs))) : rListU K [.ref p] H Q := .inl ⟨p, xs, rfl, h, z⟩
theorem s_listS (h : a.length ≤ sizeLine) (z : ∀ l, H l = none → Q (.ref l) (upd H l (.lst (signsV a)))) : rListU K [.str a] H Q := .inr ⟨a, rfl, h, z⟩
theorem s_m1 {r : V → List V → Hp → VK → Prop} (z : ta σ H fun x H1 => (∃ a, x = .str a) ∧ tb σ H1 fun y H2 => r x [y] H2 Q) : tM1 r ta tb σ H Q := z
theorem s_m0 {r : V → List V → Hp → VK → Prop} (z : ta σ H fun x H1 => (∃ a, x = .str a) ∧ r x [] H1 Q) : tM0 r ta σ H Q := z
theorem s_isStr {C : Prop} (z : C) : (∃ b, V.str a = .str b) ∧ C := ⟨⟨a, rfl⟩, z⟩
theorem s_enum {R : It → Hp → Prop} (z : tr σ H fun vs H1 => ∃ a xs, vs = [.ref a] ∧ SqL K H1 a xs ∧ R (Ite K a) H1) : rEnumU K tr σ H R := z
theorem s_enumL {R : Addr → Prop} (h : SqL K H p xs) (z : R p) : ∃ a xs, [V.ref p] = [.ref a] ∧ SqL K H a xs ∧ R a := ⟨p, xs, rfl, h, z⟩
theorem s_callS {sp : Sp} {EE : St → XK} (z : tr σ H fun vs H1 => sp vs H1 Q (EE σ)) : tCallS sp EE tr σ H Q := z
theorem s_sq1 {P : V → Hp → VK → XK → Prop} (z : P x H Q E) : sp1 P [x] H Q E := ⟨x, rfl, z⟩
theorem s_sq2 {P : V → V → Hp → VK → XK → Prop} (z : P x y H Q E) : sp2 P [x, y] H Q E := ⟨x, y, rfl, z⟩
theorem s_sq3 {P : V → V → V → Hp → VK → XK → Prop} (z : P x y v H Q E) : sp3 P [x, y, v] H Q E := ⟨x, y, v, rfl, z⟩
theorem s_aug {ti : TIp} (h : σ[n]? = some (some x)) (z : ta σ H fun y H1 => ti x y H1 fun z H2 => D.nx (σ.set n (some z)) H2) : tAug n ta ti D σ H := ⟨x, h, z⟩
theorem s_ipI (z : Q (.int (i + j)) H) : ipU (.int i) (.int j) H Q := .inl ⟨i, j, rfl, rfl, z⟩
theorem s_ipL (h1 : H p = some (.lst xs)) (h2 : H q = some (.lst ys)) (h : xs.length + ys.length ≤ sizeLine) (z : Q (.ref p) (upd H p (.lst (xs ++ ys)))) : ipU (.ref p) (.ref q) H Q := .inr ⟨p, q, xs, ys, rfl, rfl, h1, h2, h, z⟩
theorem s_bm {T : String} {r : V → List V → Hp → VK → Prop} (z : ta σ H fun x H1 => tyV K T x H1 ∧ tr σ H1 fun xs H2 => r x xs H2 Q) : tBM K T r ta tr σ H Q := z
theorem s_bm0 {T : String} {r : V → List V → Hp → VK → Prop} (z : ta σ H fun x H1 => tyV K T x H1 ∧ r x [] H1 Q) : tBM0 K T r ta σ H Q := z
theorem s_tyL {C : Prop} (h : SqL K H p xs) (z : C) : tyV K "list" (.ref p) H ∧ C := ⟨.inl ⟨rfl, _, h⟩, z⟩
theorem s_append (h : H p = some (.lst xs)) (hl : xs.length < sizeLine) (z : Q .non (upd H p (.lst (xs ++ [x])))) : rAppend (.ref p) [x] H Q := ⟨p, xs, x, rfl, rfl, h, hl, z⟩
theorem s_extend (h : H p = some (.lst xs)) (h2 : H q = some (.lst ys)) (hl : xs.length + ys.length ≤ sizeLine) (z : Q .non (upd H p (.lst (xs ++ ys)))) : rExtend (.ref p) [.ref q] H Q := ⟨p, q, xs, ys, rfl, rfl, h, h2, hl, z⟩
theorem s_lstRg {te : St → Hp → (Int → Int → Hp → Prop) → Prop} (z : te σ H fun a b H1 => RgOk a b ∧ ∀ q, H1 q = none → Q (.ref q) (upd H1 q (.lst (rgV a b)))) : tLstRg te σ H Q := z
theorem s_prg1 {R : Int → Int → Hp → Prop} (z : ta σ H fun x H1 => ∃ b, x = .int b ∧ R 0 b H1) : tRg1 ta σ H R := z
theorem s_try {tb : WX → TS} {W : Ends → WX} (z : tb (W D) D σ H) : tTry tb W D σ H := z
theorem s_only {c cls : Value} {d : Option Addr} {t : Addr → Value → Option Addr → TS} {Wout : WX} (h : PySem.W.exmOne K cls c = some true) (z : ∀ a, H a = none → t a cls d D σ H) : WE (wOnly K c t Wout D) σ cls d H := ⟨true, h, fun _ => z, fun (e : true = false) => absurd e.symm Bool.false_ne_true⟩
theorem s_many1 {c cls : Value} {d : Option Addr} {t : Addr → Value → Option Addr → TS} {Wout : WX} {l : List (Value × (Addr → Value → Option Addr → TS))} (h : PySem.W.exmOne K cls c = some true) (z : ∀ a, H a = none → t a cls d D σ H) : WE (wMany K Wout D ((c, t) :: l)) σ cls d H := ⟨true, h, fun _ => z, fun (e : true = false) => absurd e.symm Bool.false_ne_true⟩
theorem s_many0 {c cls : Value} {d : Option Addr} {t : Addr → Value → Option Addr → TS} {Wout : WX} {l : List (Value × (Addr → Value → Option Addr → TS))} (h : PySem.W.exmOne K cls c = some false) (z : WE (wMany K Wout D l) σ cls d H) : WE (wMany K Wout D ((c, t) :: l)) σ cls d H := ⟨false, h, fun (e : false = true) => absurd e Bool.false_ne_true, fun _ => z⟩
/-! statements -/
theorem s_start {σ' : St} (e : σ = σ') (z : ts D σ' H) : ts D σ H := e ▸ z
theorem s_seq {nx : St → Hp → Prop} {rt : VK} {bk ct : St → Hp → Prop} (z : ts ⟨us ⟨nx, rt, bk, ct⟩, rt, bk, ct⟩ σ H) : tSeq ts us ⟨nx, rt, bk, ct⟩ σ H := z
theorem s_next (z : D.nx σ H) : tNext D σ H := z
theorem s_brk (z : D.bk σ H) : tBreak D σ H := z
theorem s_cont (z : D.ct σ H) : tCont D σ H := z
theorem s_drop (z : ta σ H fun _ H1 => D.nx σ H1) : tDrop ta D σ H := z
theorem s_ret (z : ta σ H D.rt) : tRet ta D σ H := z
theorem s_ifS (z : tt σ H fun b H1 => if b = true then ts D σ H1 else us D σ H1) : tIfS tt ts us D σ H := z
theorem s_asg {g : TG} (z : ta σ H fun x H1 => g x σ H1 D.nx) : tAsg ta g D σ H := z
theorem s_gName {R : St → Hp → Prop} (z : R (σ.set n (some v)) H) : gName n v σ H R := z
theorem s_gSub {R : St → Hp → Prop} {to ti : TE} {t : TSet} (z : to σ H fun o H1 => ti σ H1 fun i H2 => t o i v H2 fun H3 => R σ H3) : gSub to ti t v σ H R := z
theorem s_setL {R : Hp → Prop} (h : H p = some (.lst xs)) (h1 : ixN xs.length i = some n) (z : R (upd H p (.lst (xs.set n v)))) : rSetL (.ref p) (.int i) v H R := ⟨p, xs, i, n, rfl, rfl, h, h1, z⟩
theorem s_gTup {R : St → Hp → Prop} {t : TGs} (h : SqT K H p xs) (h1 : xs.length = n) (z : t xs σ H R) : gTup K n t (.ref p) σ H R := ⟨p, xs, rfl, h, h1, z⟩
theorem s_gCons {R : St → Hp → Prop} {t : TG} {u : TGs} (z : t x σ H fun σ' H' => u xs σ' H' R) : gCons t u (x :: xs) σ H R := ⟨x, xs, rfl, z⟩
theorem s_gNil {R : St → Hp → Prop} (z : R σ H) : gNil [] σ H R := ⟨rfl, z⟩
theorem s_nx {nx : St → Hp → Prop} {rt : VK} {bk ct : St → Hp → Prop} (z : nx σ H) : Ends.nx ⟨nx, rt, bk, ct⟩ σ H := z
theorem s_rt {nx : St → Hp → Prop} {rt : VK} {bk ct : St → Hp → Prop} (z : rt v H) : Ends.rt ⟨nx, rt, bk, ct⟩ v H := z
theorem s_bk {nx : St → Hp → Prop} {rt : VK} {bk ct : St → Hp → Prop} (z : bk σ H) : Ends.bk ⟨nx, rt, bk, ct⟩ σ H := z
theorem s_ct {nx : St → Hp → Prop} {rt : VK} {bk ct : St → Hp → Prop} (z : ct σ H) : Ends.ct ⟨nx, rt, bk, ct⟩ σ H := z
theorem s_seqJ {nx0 : St → Hp → Prop} {rt : VK} {bk ct : St → Hp → Prop} (J : St → Hp → Prop) (h2 : ∀ σ' H', J σ' H' → us ⟨nx0, rt, bk, ct⟩ σ' H') (h1 : ∀ nx : St → Hp → Prop, (∀ σ' H', J σ' H' → nx σ' H') → ts ⟨nx, rt, bk, ct⟩ σ H) : tSeq ts us ⟨nx0, rt, bk, ct⟩ σ H := h1 _ h2
theorem s_abs {R : Int → Prop} (z : R i) : ∃ i', [V.int i] = [.int i'] ∧ R i' := ⟨i, rfl, z⟩
theorem s_lenL {R : Nat → Prop} (h : SqL K H p xs) (z : R xs.length) : ∃ x' n', [V.ref p] = [x'] ∧ LenV K x' H n' ∧ R n' := ⟨_, _, rfl, .inl ⟨_, h, rfl⟩, z⟩
theorem s_lenT {R : Nat → Prop} (h : SqT K H p xs) (z : R xs.length) : ∃ x' n', [V.ref p] = [x'] ∧ LenV K x' H n' ∧ R n' := ⟨_, _, rfl, .inr ⟨_, h, rfl⟩, z⟩
theorem s_lenS {R : Nat → Prop} (h : a.length ≤ sizeLine) (z : R a.length) : ∃ x' n', [V.str a] = [x'] ∧ LenV K x' H n' ∧ R n' := ⟨_, _, rfl, ⟨h, rfl⟩, z⟩
/-- a branch -/
theorem br {c : Prop} [Decidable c] {A B : Prop} (h1 : c → A) (h2 : ¬ c → B) : if decide c = true then A else B := by
  by_cases h : c
  · rw [if_pos (decide_eq_true h)]
    exact h1 h
  · rw [if_neg (by rw [decide_eq_false h]; exact Bool.false_ne_true)]
    exact h2 h
theorem brN {c : Prop} [Decidable c] {A B : Prop} (h1 : ¬ c → A) (h2 : c → B) : if (!decide c) = true then A else B := by
  by_cases h : c
  · rw [if_neg (by rw [decide_eq_true h]; exact Bool.false_ne_true)]
    exact h2 h
  · rw [if_pos (by rw [decide_eq_false h]; rfl)]
    exact h1 h
theorem brB {c : Bool} {A B : Prop} (h1 : c = true → A) (h2 : c = false → B) : if c = true then A else B := by
  cases c
  · exact iteF (h2 rfl)
  · exact iteT (h1 rfl)
theorem same_upd {H : Hp} {p : Addr} {o : HO} (h : H p = none) : Same H (upd H p o) := fun b x e => by
  rw [upd_ne (ne_of_none e h)]
  exact e
theorem Same.sqT {K : PySem.W.Frag} {H H' : Hp} {a : Addr} {xs : List V} (e : Same H H') (h : SqT K H a xs) : SqT K H' a xs := by
  rcases h with (h | ⟨o, h⟩) | h
  · exact .inl (.inl (e _ _ h))
  · exact .inl (.inr ⟨o, e _ _ h⟩)
  · exact .inr h
end
end L2.U
/-! D: what the laws' own helpers promise (a draw, a list begun, one of a row, sameness), comprehensions by a word. Own text. -/
namespace L2.U
open PySem PySem.Spec PyProof.Rows RZ
/-! ### the heap but for one object -/
def Keep (p : Addr) (H H' : Hp) : Prop := ∀ b o, b ≠ p → H b = some o → H' b = some o
theorem Keep.refl (p : Addr) (H : Hp) : Keep p H H := fun _ _ _ h => h
theorem Keep.trans {p : Addr} {H H' H'' : Hp} (a : Keep p H H') (b : Keep p H' H'') : Keep p H H'' := fun c o n h => b c o n (a c o n h)
theorem Keep.upd {p : Addr} {H : Hp} {o : HO} : Keep p H (upd H p o) := fun c u n h => by rw [upd_ne n]; exact h
theorem Same.keep {p : Addr} {H H' : Hp} (s : Same H H') : Keep p H H' := fun b o _ h => s b o h
theorem Keep.sqL {K : PySem.W.Frag} {p a : Addr} {H H' : Hp} {xs : List V} (k : Keep p H H') (n : a ≠ p) (h : SqL K H a xs) : SqL K H' a xs := by
  rcases h with (h | ⟨o, h⟩) | h
  · exact .inl (.inl (k _ _ n h))
  · exact .inl (.inr ⟨o, k _ _ n h⟩)
  · exact .inr h
theorem Keep.free {p a : Addr} {H H' : Hp} (k : Keep p H H') (n : a ≠ p) (h : H' a = none) : H a = none := by
  cases q : H a with
  | none => rfl
  | some o =>
    rw [k a o n q] at h
    cases h
structure Draw (H : Hp) (p a : Addr) : Prop where
  ex : ∃ (ns : List Int) (c h s : Int), H p = some (.lst [.ref a, .int c, .int h, .int s]) ∧ H a = some (.lst (ns.map V.int)) ∧ a ≠ p ∧ ns.length ≤ 1000 ∧ 0 ≤ c ∧ 0 ≤ h ∧ 0 ≤ s ∧ s < 2147483647
theorem Draw.same {H H' : Hp} {p a : Addr} (d : Draw H p a) (s : Same H H') : Draw H' p a := by
  obtain ⟨ns, c, h, t, e, hS, r⟩ := d.ex
  exact ⟨ns, c, h, t, s _ _ e, s _ _ hS, r⟩
theorem Draw.ne {H : Hp} {p a q : Addr} (d : Draw H p a) (h : H q = none) : q ≠ p := fun e => by
  obtain ⟨ns, c, g, t, e2, hS, r⟩ := d.ex
  rw [e, e2] at h
  cases h
theorem Draw.ne2 {H : Hp} {p a q : Addr} (d : Draw H p a) (h : H q = none) : q ≠ a := fun e => by
  obtain ⟨ns, c, g, t, e2, hS, r⟩ := d.ex
  rw [e, hS] at h
  cases h
theorem Draw.updN {H : Hp} {p a q : Addr} {o : HO} (d : Draw H p a) (n : q ≠ p) (m : q ≠ a) : Draw (upd H q o) p a := by
  obtain ⟨ns, c, h, t, e, hS, r⟩ := d.ex
  exact ⟨ns, c, h, t, by rw [upd_ne n.symm]; exact e, by rw [upd_ne m.symm]; exact hS, r⟩
/-! ### promises -/
abbrev spTake : Sp := sp2 fun d n H Q _ => ∃ (p a : Addr) (k : Int), d = .ref p ∧ n = .int k ∧ 0 < k ∧ k < 1073741824 ∧ Draw H p a ∧ ∀ H' r, Keep p H H' → Draw H' p a → 0 ≤ r → r < k → Q (.int r) H'
abbrev spBegin (K : PySem.W.Frag) : Sp := sp1 fun v H Q _ => ∃ (b : Addr) (ns : List Int), v = .ref b ∧ SqL K H b (ns.map V.int) ∧ ns.length ≤ 63 ∧ ∀ H' p a, Same H H' → H p = none → Draw H' p a → Q (.ref p) H'
abbrev spOne (K : PySem.W.Frag) : Sp := sp2 fun d r H Q _ => ∃ (p a b : Addr) (xs : List V), d = .ref p ∧ r = .ref b ∧ b ≠ p ∧ SqL K H b xs ∧ 0 < xs.length ∧ xs.length < 1000000 ∧ Draw H p a ∧ ∀ H' v, Keep p H H' → Draw H' p a → v ∈ xs → Q v H'
def OkD : Nat → PyData → Prop
  | 0, _ => False
  | n + 1, .list ds => ds.length ≤ 1000000 ∧ ∀ d ∈ ds, OkD n d
  | n + 1, .tuple ds => ds.length ≤ 1000000 ∧ ∀ d ∈ ds, OkD n d
  | _ + 1, .dict _ => False
  | _ + 1, _ => True
abbrev spSame (K : PySem.W.Frag) (n : Nat) : Sp := sp2 fun x y H Q _ => ∃ d : PyData, Dp K H x d ∧ Dp K H y d ∧ OkD n d ∧ ∀ H', Same H H' → Q (.bl true) H'
/-! ### the heap but for some objects -/
def hid (S : List Addr) (H : Hp) : Hp := fun b => if b ∈ S then none else H b
section
variable {S S' : List Addr} {H H' : Hp} {q b : Addr} {o : HO}
theorem hid_get (n : b ∉ S) : hid S H b = H b := if_neg n
theorem hid_none (n : b ∈ S) : hid S H b = none := if_pos n
theorem hid_same : Same (hid S H) H := fun b o e => by
  unfold hid at e
  split at e
  · cases e
  · exact e
theorem hid_up (m : q ∈ S) : hid S (upd H q o) = hid S H := by
  funext b
  unfold hid
  by_cases hb : b ∈ S
  · rw [if_pos hb, if_pos hb]
  · rw [if_neg hb, if_neg hb, upd_ne fun e => hb (by rw [e]; exact m)]
theorem Same.hid (s : Same H H') : Same (hid S H) (hid S H') := fun b o e => by
  unfold U.hid at e ⊢
  split at e
  · cases e
  · rename_i hb
    rw [if_neg hb]
    exact s _ _ e
theorem Keep.hid {p : Addr} (k : Keep p H H') (m : p ∈ S) : Same (hid S H) (hid S H') := fun b o e => by
  unfold U.hid at e ⊢
  split at e
  · cases e
  · rename_i hb
    rw [if_neg hb]
    exact k b o (fun z => hb (by rw [z]; exact m)) e
theorem hid_free (h : H q = none) : hid S H q = none := by
  unfold hid
  split
  · rfl
  · exact h
theorem hid_new (h : H q = none) : hid (q :: S) H = hid S H := by
  funext b
  unfold hid
  by_cases hb : b = q
  · rw [if_pos (by rw [hb]; exact List.mem_cons_self), hb, h]
    split <;> rfl
  · by_cases hS : b ∈ S
    · rw [if_pos (List.mem_cons_of_mem _ hS), if_pos hS]
    · rw [if_neg (by simp [hb, hS]), if_neg hS]
theorem hid_less (h : ∀ x ∈ S, x ∈ S') : Same (hid S' H) (hid S H) := fun b o e => by
  unfold hid at e ⊢
  split at e
  · cases e
  · rename_i hb
    rw [if_neg fun m => hb (h b m)]
    exact e
theorem hid_nil : hid [] H = H := by
  funext b
  exact if_neg (fun m => nomatch m)
end
/-! ### data -/
section
variable {K : PySem.W.Frag} {H H' : Hp}
mutual
theorem Dp.same (s : Same H H') : ∀ (d : PyData) (v : V), Dp K H v d → Dp K H' v d
  | .none, _, h => by cases h; exact .non
  | .bool b, _, h => by cases h; exact .bl b
  | .int i, _, h => by cases h; exact .int i
  | .str x, _, h => by cases h; exact .str x
  | .list ds, _, h => by
    cases h with
    | lst hs ha => exact .lst (s.seq hs) (Dp.sameAll s ds _ ha)
  | .tuple ds, _, h => by
    cases h with
    | tup hs ha => exact .tup (Same.sqT s hs) (Dp.sameAll s ds _ ha)
  | .dict _, _, h => by cases h
theorem Dp.sameAll (s : Same H H') : ∀ (ds : List PyData) (vs : List V), DpAll K H vs ds → DpAll K H' vs ds
  | [], _, h => by cases h; exact .nil
  | d :: ds, _, h => by
    cases h with
    | cons h1 h2 => exact .cons (Dp.same s d _ h1) (Dp.sameAll s ds _ h2)
end
theorem DpAll.length : ∀ {vs : List V} {ds : List PyData}, DpAll K H vs ds → vs.length = ds.length
  | _, _, .nil => rfl
  | _, _, .cons _ h => by rw [List.length_cons, List.length_cons, DpAll.length h]
theorem DpAll.get : ∀ {vs : List V} {ds : List PyData} {i : Nat} {v : V}, DpAll K H vs ds → vs[i]? = some v → ∃ d, ds[i]? = some d ∧ Dp K H v d
  | _, _, _, _, .nil, e => by simp at e
  | _, _, 0, _, .cons h _, e => by
    cases e
    exact ⟨_, rfl, h⟩
  | _, _, i + 1, v, .cons _ h, e => DpAll.get (i := i) (v := v) h e
end
/-! ### data without lists: no list's place is among its own -/
mutual
def noL : PyData → Bool
  | .list _ => false
  | .dict _ => false
  | .tuple ds => noLAll ds
  | .none => true | .bool _ => true | .int _ => true | .str _ => true
def noLAll : List PyData → Bool
  | [] => true
  | d :: ds => noL d && noLAll ds
end
section
variable {K : PySem.W.Frag} {H : Hp} {p : Addr}
theorem SqT.avoid {a : Addr} {xs ys : List V} (hp : H p = some (.lst ys)) (h : SqT K H a xs) : SqT K (hid [p] H) a xs := by
  have ne : ∀ o, H a = some o → o ≠ .lst ys → hid [p] H a = some o := fun o e n => by
    rw [hid_get, e]
    intro m
    rw [List.mem_singleton.mp m, hp] at e
    exact n (Option.some.inj e).symm
  rcases h with (h | ⟨o, h⟩) | h
  · exact .inl (.inl (ne _ h (fun z => by cases z)))
  · exact .inl (.inr ⟨o, ne _ h (fun z => by cases z)⟩)
  · exact .inr h
mutual
theorem Dp.avoid {ys : List V} (hp : H p = some (.lst ys)) : ∀ (d : PyData) (v : V), noL d = true → Dp K H v d → Dp K (hid [p] H) v d
  | .none, _, _, h => by cases h; exact .non
  | .bool b, _, _, h => by cases h; exact .bl b
  | .int i, _, _, h => by cases h; exact .int i
  | .str x, _, _, h => by cases h; exact .str x
  | .list ds, _, n, _ => by simp [noL] at n
  | .tuple ds, _, n, h => by
    cases h with
    | tup hs ha => exact .tup (SqT.avoid hp hs) (Dp.avoidAll hp ds _ (by simpa [noL] using n) ha)
  | .dict _, _, n, _ => by simp [noL] at n
theorem Dp.avoidAll {ys : List V} (hp : H p = some (.lst ys)) : ∀ (ds : List PyData) (vs : List V), noLAll ds = true → DpAll K H vs ds → DpAll K (hid [p] H) vs ds
  | [], _, _, h => by cases h; exact .nil
  | d :: ds, _, n, h => by
    have n' : noL d = true ∧ noLAll ds = true := by simpa [noLAll] using n
    cases h with
    | cons h1 h2 => exact .cons (Dp.avoid hp d _ n'.1 h1) (Dp.avoidAll hp ds _ n'.2 h2)
end
theorem DpAll.take : ∀ {vs : List V} {ds : List PyData} (n : Nat), DpAll K H vs ds → DpAll K H (vs.take n) (ds.take n)
  | _, _, 0, _ => .nil
  | _, _, _ + 1, .nil => .nil
  | _, _, n + 1, .cons h1 h2 => .cons h1 (DpAll.take n h2)
theorem DpAll.drop : ∀ {vs : List V} {ds : List PyData} (n : Nat), DpAll K H vs ds → DpAll K H (vs.drop n) (ds.drop n)
  | _, _, 0, h => h
  | _, _, _ + 1, .nil => .nil
  | _, _, n + 1, .cons _ h2 => DpAll.drop n h2
end
theorem Draw.lst {H : Hp} {p a : Addr} (d : Draw H p a) : ∃ ys, H p = some (.lst ys) := by
  obtain ⟨ns, c, h, t, e, _⟩ := d.ex
  exact ⟨_, e⟩
theorem cutV_take (xs : List V) (i : Nat) : cutV xs none (some (i : Int)) = xs.take i := by
  unfold cutV
  rw [HT.sIx_none, HT.sIx_nat, List.drop_zero, Nat.sub_zero]
  rcases Nat.lt_or_ge i xs.length with h | h
  · rw [Nat.min_eq_left (Nat.le_of_lt h)]
  · rw [Nat.min_eq_right h, List.take_length, List.take_of_length_le h]
theorem cutV_drop (xs : List V) (i : Nat) : cutV xs (some (i : Int)) none = xs.drop i := by
  unfold cutV
  rw [HT.sIx_none, HT.sIx_nat]
  rcases Nat.lt_or_ge i xs.length with h | h
  · rw [Nat.min_eq_left (Nat.le_of_lt h)]
    exact List.take_of_length_le (by rw [List.length_drop]; exact Nat.le_refl _)
  · rw [Nat.min_eq_right h, List.drop_length, List.drop_eq_nil_of_le h]
    exact List.take_nil
/-! ### kinds -/
def tyD : PyData → String
  | .none => "NoneType" | .bool _ => "bool" | .int _ => "int" | .str _ => "str" | .list _ => "list" | .tuple _ => "tuple" | .dict _ => "dict"
def isList : PyData → Bool
  | .list _ => true | _ => false
def isSeq : PyData → Bool
  | .list _ => true | .tuple _ => true | _ => false
def isBool : PyData → Bool
  | .bool _ => true | _ => false
def isStr : PyData → Bool
  | .str _ => true | _ => false
section
variable {K : PySem.W.Frag} {H : Hp} {Q : VK} {x : V} {d : PyData}
theorem Dp.ty (h : Dp K H x d) : TyX K H x (.type (tyD d)) := by
  cases h with
  | non => exact .base .non
  | bl b => exact .base (.bl b)
  | int i => exact .base (.int i)
  | str z => exact .base (.str z)
  | lst hs _ =>
    rcases hs with (h | ⟨o, h⟩) | ⟨o, its, n, e, c, _⟩
    · exact .base (.lst h)
    · exact .base (.frz h)
    · exact .kList e c
  | tup hs _ =>
    rcases hs with (h | ⟨o, h⟩) | ⟨o, its, n, e, c, _⟩
    · exact .base (.tup h)
    · exact .fTuple h
    · exact .kTuple e c
theorem s_isiLT {tp : Addr} (hd : Dp K H x d) (h : H tp = some (.tup [.ty "list", .ty "tuple"])) (z : Q (.bl (isSeq d)) H) : rIsiT K [x, .ref tp] H Q :=
  ⟨x, tp, _, _, [.type "list", .type "tuple"], isSeq d, rfl, h, .cons (.ty _) (.cons (.ty _) .nil), Dp.ty hd, by clear hd z; cases d <;> rfl, z⟩
theorem s_isiL (hd : Dp K H x d) (z : Q (.bl (isList d)) H) : rIsi K [x, .ty "list"] H Q := ⟨x, _, _, _, isList d, rfl, .ty _, Dp.ty hd, by clear hd z; cases d <;> rfl, z⟩
theorem s_isiB (hd : Dp K H x d) (z : Q (.bl (isBool d)) H) : rIsi K [x, .ty "bool"] H Q := ⟨x, _, _, _, isBool d, rfl, .ty _, Dp.ty hd, by clear hd z; cases d <;> rfl, z⟩
theorem s_isiS (hd : Dp K H x d) (z : Q (.bl (isStr d)) H) : rIsi K [x, .ty "str"] H Q := ⟨x, _, _, _, isStr d, rfl, .ty _, Dp.ty hd, by clear hd z; cases d <;> rfl, z⟩
theorem s_isNV (z : Q (.bl (decide (x = .non))) H) : tIsN (fun _ H Q => Q x H) [] H Q := z
end
/-! ### comprehensions -/
def lcB (J : It) (g : TG) (tt : TT) (te : TE) (vs : List Nat) (σ : St) (H1 : Hp) (Q : VK) : Prop :=
  ∀ D, H1 D = none → ∃ W : Nat → Nat → Hp → Prop, (∃ m, W 0 m (upd H1 D (.lst []))) ∧ ∀ i m H, W i m H →
  (J.stop i H ∧ Q (.ref D) H) ∨ (J.go i H ∧ ∃ Nx : Hp → Prop, (∀ H', Nx H' → ∃ m', m' < m ∧ W (i + 1) m' H') ∧ ∀ x H', J.yld i H x H' → g x (wipe σ vs) H' fun σ2 H2 => wipe σ2 vs = wipe σ vs ∧ tt σ2 H2 fun b H3 =>
    if b = true then te σ2 H3 fun y H4 => ∃ acc, H4 D = some (.lst acc) ∧ acc.length < sizeLine ∧ Nx (upd H4 D (.lst (acc ++ [y]))) else Nx H3)
/-- what an element's end is asked: the new list with the element -/
def LcPost (S : Addr → Nat → List V → Hp → Prop) (D : Addr) (i : Nat) (y : V) (H4 : Hp) : Prop :=
  ∃ acc, H4 D = some (.lst acc) ∧ acc.length < sizeLine ∧ (∃ acc', (upd H4 D (.lst (acc ++ [y]))) D = some (.lst acc') ∧ acc'.length ≤ i + 1 ∧ S D (i + 1) acc' (upd H4 D (.lst (acc ++ [y]))))
def LcSkip (S : Addr → Nat → List V → Hp → Prop) (D : Addr) (i : Nat) (H3 : Hp) : Prop := ∃ acc', H3 D = some (.lst acc') ∧ acc'.length ≤ i + 1 ∧ S D (i + 1) acc' H3
theorem LcPost.mk {S : Addr → Nat → List V → Hp → Prop} {D : Addr} {i : Nat} {y : V} {H4 : Hp} {acc : List V} (h : H4 D = some (.lst acc)) (l : acc.length ≤ i) (n : i < 1000000) (s : S D (i + 1) (acc ++ [y]) (upd H4 D (.lst (acc ++ [y])))) : LcPost S D i y H4 :=
  ⟨acc, h, Nat.lt_of_le_of_lt l (Nat.lt_trans n (by decide)), _, upd_same, by rw [List.length_append]; exact Nat.add_le_add_right l 1, s⟩
theorem LcSkip.mk {S : Addr → Nat → List V → Hp → Prop} {D : Addr} {i : Nat} {H3 : Hp} {acc : List V} (h : H3 D = some (.lst acc)) (l : acc.length ≤ i) (s : S D (i + 1) acc H3) : LcSkip S D i H3 := ⟨acc, h, Nat.le_succ_of_le l, s⟩
section
variable {K : PySem.W.Frag} {σ : St} {H1 : Hp} {Q : VK} {J : It} {g : TG} {te : TE} {vs : List Nat}
theorem tYes_mk {H : Hp} {R : Bool → Hp → Prop} (z : R true H) : tYes σ H R := z
theorem s_lc {wi : TI} {tt : TT} (z : wi σ H1 fun J H => lcB J g tt te vs σ H Q) : tLc wi g tt te vs σ H1 Q := z
theorem s_iStr {ta : TE} {R : It → Hp → Prop} (z : ta σ H1 fun v H => ∃ x, v = .str x ∧ R (Its x) H) : iStr ta σ H1 R := z
theorem s_str {a : Str} {R : Str → Prop} (z : R a) : ∃ x, V.str a = .str x ∧ R x := ⟨a, rfl, z⟩
theorem s_iRng1 {ta : TA} {R : It → Hp → Prop} (z : ta σ H1 fun vs H => ∃ j : Int, vs = [.int j] ∧ -(2 ^ 62) ≤ j ∧ j < 2 ^ 62 ∧ R (Itr 0 j.toNat) H) : iRng1 ta σ H1 R := z
theorem s_rng1 {j : Int} {R : Int → Prop} (h1 : -(2 ^ 62) ≤ j) (h2 : j < 2 ^ 62) (z : R j) : ∃ k : Int, [V.int j] = [.int k] ∧ -(2 ^ 62) ≤ k ∧ k < 2 ^ 62 ∧ R k := ⟨j, rfl, h1, h2, z⟩
theorem s_iList {ta : TE} {R : It → Hp → Prop} (z : ta σ H1 fun v H => ∃ a, v = .ref a ∧ (∃ xs, SqL K H a xs) ∧ R (Itl K a) H) : iList K ta σ H1 R := z
theorem s_iTup {ta : TE} {R : It → Hp → Prop} (z : ta σ H1 fun v H => ∃ a, v = .ref a ∧ (∃ xs, SqT K H a xs) ∧ R (Itt K a) H) : iTup K ta σ H1 R := z
theorem s_itL {a : Addr} {xs : List V} {R : Addr → Prop} (h : SqL K H1 a xs) (z : R a) : ∃ b, V.ref a = .ref b ∧ (∃ xs, SqL K H1 b xs) ∧ R b := ⟨a, rfl, ⟨xs, h⟩, z⟩
theorem s_itT {a : Addr} {xs : List V} {R : Addr → Prop} (h : SqT K H1 a xs) (z : R a) : ∃ b, V.ref a = .ref b ∧ (∃ xs, SqT K H1 b xs) ∧ R b := ⟨a, rfl, ⟨xs, h⟩, z⟩
theorem s_iZipA {ta : TA} {R : It → Hp → Prop} (z : ta σ H1 fun vs H => ∃ a b xs ys, vs = [.ref a, .ref b] ∧ ((SqL K H a xs ∧ SqL K H b ys ∧ R (Itz K a b) H) ∨ (SqT K H a xs ∧ SqT K H b ys ∧ R (ItzT K a b) H))) : iZipA K ta σ H1 R := z
def forB (J : It) (g : TG) (tb : TS) (D : Ends) (σ : St) (H : Hp) : Prop := ∃ W : Nat → Nat → St → Hp → Prop, (∃ m, W 0 m σ H) ∧ ∀ i m σ H, W i m σ H →
  (J.stop i H ∧ D.nx σ H) ∨ (J.go i H ∧ ∃ N : St → Hp → Prop, (∀ σ' H', N σ' H' → ∃ m', m' < m ∧ W (i + 1) m' σ' H') ∧ ∀ x H', J.yld i H x H' → g x σ H' fun σ2 H2 => tb { D with nx := N, ct := N, bk := D.nx } σ2 H2)
theorem s_for {wi : TI} {tb : TS} {D : Ends} (z : wi σ H1 fun J H => forB J g tb D σ H) : tFor wi g tb D σ H1 := z
theorem forB_range {lo : Int} {n : Nat} {tb : TS} {nx : St → Hp → Prop} {rt : VK} {bk ct : St → Hp → Prop} (Pv : Nat → St → Hp → Prop) (h0 : Pv 0 σ H1)
    (hs : ∀ i σ H, i < n → Pv i σ H → g (.int (lo + i)) σ H fun σ2 H2 => tb ⟨Pv (i + 1), rt, nx, Pv (i + 1)⟩ σ2 H2) (hd : ∀ σ H, Pv n σ H → nx σ H) : forB (Itr lo n) g tb ⟨nx, rt, bk, ct⟩ σ H1 := for_range Pv h0 hs hd
theorem forB_list {a : Addr} {xs : List V} {tb : TS} {nx : St → Hp → Prop} {rt : VK} {bk ct : St → Hp → Prop} (Pv : Nat → St → Hp → Prop) (h0 : Pv 0 σ H1) (hl : ∀ i σ H, i ≤ xs.length → Pv i σ H → SqL K H a xs)
    (hs : ∀ i x σ H, xs[i]? = some x → Pv i σ H → g x σ H fun σ2 H2 => tb ⟨Pv (i + 1), rt, nx, Pv (i + 1)⟩ σ2 H2) (hd : ∀ σ H, Pv xs.length σ H → nx σ H) : forB (Itl K a) g tb ⟨nx, rt, bk, ct⟩ σ H1 := for_list Pv h0 hl hs hd
theorem s_yes {A B : Hp → Prop} (z : A H1) : tYes σ H1 (fun b H3 => if b = true then A H3 else B H3) := tYes_mk (if_pos rfl ▸ z)
theorem forB_of {tb : TS} {nx : St → Hp → Prop} {rt : VK} {bk ct : St → Hp → Prop} (n : Nat) (Pv : Nat → St → Hp → Prop) (h0 : Pv 0 σ H1) (hgo : ∀ i σ H, i < n → Pv i σ H → J.go i H) (hst : ∀ σ H, Pv n σ H → J.stop n H)
    (hs : ∀ i σ H x H', i < n → Pv i σ H → J.yld i H x H' → g x σ H' fun σ2 H2 => tb ⟨Pv (i + 1), rt, nx, Pv (i + 1)⟩ σ2 H2) (hd : ∀ σ H, Pv n σ H → nx σ H) : forB J g tb ⟨nx, rt, bk, ct⟩ σ H1 := by
  refine ⟨fun i m σ H => m = n - i ∧ i ≤ n ∧ Pv i σ H, ⟨n, rfl, Nat.zero_le _, h0⟩, ?_⟩
  rintro i m σ H ⟨rfl, hi, p⟩
  by_cases hlt : i < n
  · exact .inr ⟨hgo i σ H hlt p, Pv (i + 1), fun σ' H' p' => ⟨n - (i + 1), by omega, rfl, hlt, p'⟩, fun x H' hy => hs i σ H x H' hlt p hy⟩
  · have e : i = n := by omega
    subst e
    exact .inl ⟨hst σ H p, hd σ H p⟩
def WhB (Pv : Nat → St → Hp → Prop) (m : Nat) (tb : TS) (rt : VK) (nx : St → Hp → Prop) (σ : St) (H : Hp) : Prop := ∃ N : St → Hp → Prop, (∀ σ' H', N σ' H' → ∃ m', m' < m ∧ Pv m' σ' H') ∧ tb ⟨N, rt, nx, N⟩ σ H
theorem WhB.mk {Pv : Nat → St → Hp → Prop} {m : Nat} {tb : TS} {rt : VK} {nx : St → Hp → Prop} (z : tb ⟨fun σ' H' => ∃ m', m' < m ∧ Pv m' σ' H', rt, nx, fun σ' H' => ∃ m', m' < m ∧ Pv m' σ' H'⟩ σ H1) : WhB Pv m tb rt nx σ H1 := ⟨_, fun _ _ h => h, z⟩
theorem s_while {tc : TT} {tb : TS} {nx : St → Hp → Prop} {rt : VK} {bk ct : St → Hp → Prop} (Pv : Nat → St → Hp → Prop) (m0 : Nat) (h0 : Pv m0 σ H1) (hs : ∀ m σ H, Pv m σ H → tc σ H fun b H1 => if b = true then WhB Pv m tb rt nx σ H1 else nx σ H1) : tWhile tc tb ⟨nx, rt, bk, ct⟩ σ H1 := ⟨Pv, ⟨m0, h0⟩, hs⟩
/-- a comprehension, by a word S (the new list's place, the turn, what it holds, the heap) -/
theorem lcB_of {tt : TT} (n : Nat) (S : Addr → Nat → List V → Hp → Prop) (h0 : ∀ D, H1 D = none → S D 0 [] (upd H1 D (.lst [])))
    (hgo : ∀ D i acc H, H1 D = none → i < n → S D i acc H → J.go i H) (hst : ∀ D acc H, H1 D = none → S D n acc H → J.stop n H)
    (hs : ∀ D i acc H x H', H1 D = none → i < n → H D = some (.lst acc) → acc.length ≤ i → S D i acc H → J.yld i H x H' → g x (wipe σ vs) H' fun σ2 H2 => wipe σ2 vs = wipe σ vs ∧ tt σ2 H2 fun b H3 => if b = true then te σ2 H3 (LcPost S D i) else LcSkip S D i H3)
    (hd : ∀ D acc H, H1 D = none → H D = some (.lst acc) → acc.length ≤ n → S D n acc H → Q (.ref D) H) : lcB J g tt te vs σ H1 Q := by
  intro D hD
  refine ⟨fun i m H => m = n - i ∧ i ≤ n ∧ ∃ acc, H D = some (.lst acc) ∧ acc.length ≤ i ∧ S D i acc H, ⟨n, rfl, Nat.zero_le _, [], upd_same, Nat.le_refl _, h0 D hD⟩, ?_⟩
  rintro i m H ⟨rfl, hi, acc, ha, hl, hS⟩
  by_cases hlt : i < n
  · exact .inr ⟨hgo D i acc H hD hlt hS, fun H' => ∃ acc', H' D = some (.lst acc') ∧ acc'.length ≤ i + 1 ∧ S D (i + 1) acc' H', fun H' ⟨acc', e1, e2, e3⟩ => ⟨n - (i + 1), by omega, rfl, hlt, acc', e1, e2, e3⟩, fun x H' hy => hs D i acc H x H' hD hlt ha hl hS hy⟩
  · have e : i = n := by omega
    subst e
    exact .inl ⟨hst D acc H hD hS, hd D acc H hD ha hl hS⟩
/-- each sign of a text, by a function, the heap as it is -/
theorem lcB_str {a : Str} {i : Nat} (f : Nat → V) (hn : a.length ≤ 1000000) (hw : ∀ x, wipe ((wipe σ vs).set i (some x)) vs = wipe σ vs)
    (he : ∀ c H R, R (f c) H → te ((wipe σ vs).set i (some (.str ⟨#[c]⟩))) H R) (q : ∀ D, H1 D = none → Q (.ref D) (upd H1 D (.lst (a.cps.toList.map f)))) : lcB (Its a) (gName i) tYes te vs σ H1 Q := by
  refine lcB_of a.cps.size (fun D n acc H => acc = (a.cps.toList.take n).map f ∧ H = upd H1 D (.lst acc)) (fun D _ => ⟨rfl, rfl⟩) (fun D i acc H _ h _ => h) (fun D acc H _ _ => Nat.le_refl _) ?_ ?_
  · rintro D k acc H x H' hD hk ha hl ⟨e1, e2⟩ ⟨rfl, c, hc, rfl⟩
    refine ⟨hw _, s_yes ?_⟩
    refine he c _ _ (LcPost.mk ha hl (Nat.lt_of_lt_of_le hk hn) ⟨?_, ?_⟩)
    · rw [List.take_add_one, show a.cps.toList[k]? = some c by rw [Array.getElem?_toList]; exact hc, List.map_append, ← e1]
      rfl
    · rw [e2, upd_upd]
  · rintro D acc H hD ha hl ⟨e1, rfl⟩
    have e : acc = a.cps.toList.map f := by rw [e1, List.take_of_length_le (by rw [Array.length_toList]; exact Nat.le_refl _)]
    rw [e]
    exact q D hD
end
end L2.U
/-! Tab: tables of lines: the mathematics, how they lie in the heap. Own text. -/
namespace L2.U
open PySem PySem.Spec PyProof.Rows RZ
abbrev Tab := List (Int × Int)
def rowAt (t : Tab) (i : Nat) : Int := (t.getD i (0, 0)).1
def lineAt (t : Tab) (i : Nat) : Int := (t.getD i (0, 0)).2
def dPair (p : Int × Int) : PyData := .tuple [.int p.1, .int p.2]
def dTab (t : Tab) : PyData := .list (t.map dPair)
def dInts (ns : List Int) : PyData := .list (ns.map .int)
section
variable {K : PySem.W.Frag} {H : Hp} {v : V}
theorem DpAll.ints_of : ∀ {ns : List Int} {xs : List V}, DpAll K H xs (ns.map .int) → xs = ns.map V.int
  | [], _, h => by cases h; rfl
  | n :: ns, _, h => by
    cases h with
    | cons h1 h2 =>
      cases h1
      rw [DpAll.ints_of h2]
      rfl
theorem DpAll.ints : ∀ ns : List Int, DpAll K H (ns.map V.int) (ns.map .int)
  | [] => .nil
  | n :: ns => .cons (.int n) (DpAll.ints ns)
theorem Dp.ints {a : Addr} {ns : List Int} (h : SqL K H a (ns.map V.int)) : Dp K H (.ref a) (dInts ns) := .lst h (DpAll.ints ns)
theorem Dp.ints_of {ns : List Int} (h : Dp K H v (dInts ns)) : ∃ a, v = .ref a ∧ SqL K H a (ns.map V.int) := by
  cases h with
  | lst hs ha =>
    rw [DpAll.ints_of ha] at hs
    exact ⟨_, rfl, hs⟩
theorem Dp.tab_of {t : Tab} (h : Dp K H v (dTab t)) : ∃ a xs, v = .ref a ∧ SqL K H a xs ∧ DpAll K H xs (t.map dPair) := by
  cases h with
  | lst hs ha => exact ⟨_, _, rfl, hs, ha⟩
theorem getD_of {t : Tab} {i : Nat} {p : Int × Int} (h : t[i]? = some p) : t.getD i (0, 0) = p := by rw [List.getD_eq_getElem?_getD, h]; rfl
theorem Dp.pair_of {p : Int × Int} (h : Dp K H v (dPair p)) : ∃ b, v = .ref b ∧ SqT K H b [.int p.1, .int p.2] := by
  cases h with
  | tup hs ha =>
    cases ha with
    | cons h1 h2 =>
      cases h2 with
      | cons h3 h4 =>
        cases h1
        cases h3
        cases h4
        exact ⟨_, rfl, hs⟩
theorem DpAll.pair {t : Tab} {xs : List V} {i : Nat} {x : V} (h : DpAll K H xs (t.map dPair)) (hi : xs[i]? = some x) : ∃ b, x = .ref b ∧ SqT K H b [.int (rowAt t i), .int (lineAt t i)] := by
  obtain ⟨d, e, hd⟩ := DpAll.get h hi
  rw [List.getElem?_map] at e
  obtain ⟨p, e1, rfl⟩ := Option.map_eq_some_iff.mp e
  obtain ⟨b, rfl, hs⟩ := Dp.pair_of hd
  refine ⟨b, rfl, ?_⟩
  unfold rowAt lineAt
  rw [getD_of e1]
  exact hs
theorem Dp.pair {b : Addr} {r l : Int} (h : SqT K H b [.int r, .int l]) : Dp K H (.ref b) (dPair (r, l)) := .tup h (.cons (.int r) (.cons (.int l) .nil))
theorem DpAll.app : ∀ {xs ys : List V} {ds es : List PyData}, DpAll K H xs ds → DpAll K H ys es → DpAll K H (xs ++ ys) (ds ++ es)
  | _, _, _, _, .nil, h => h
  | _, _, _, _, .cons h1 h2, h => .cons h1 (DpAll.app h2 h)
theorem DpAll.one {d : PyData} (h : Dp K H v d) : DpAll K H [v] [d] := .cons h .nil
theorem DpAll.at {xs : List V} {ds : List PyData} {i : Nat} {d : PyData} (h : DpAll K H xs ds) (hi : ds[i]? = some d) : ∃ x, xs[i]? = some x ∧ Dp K H x d := by
  have hl := DpAll.length h
  have hlt := (List.getElem?_eq_some_iff.mp hi).1
  obtain ⟨d', e1, e2⟩ := DpAll.get h (List.getElem?_eq_getElem (show i < xs.length by omega))
  rw [hi] at e1
  cases e1
  exact ⟨_, List.getElem?_eq_getElem (by omega), e2⟩
end
/-! ### good data -/
theorem canLayAll_ints : ∀ ns : List Int, PyData.canLayAll0 (ns.map .int) = true
  | [] => by simp [PyData.canLayAll0]
  | n :: ns => by simp only [List.map_cons, PyData.canLayAll0, PyData.canLay0, canLayAll_ints ns, Bool.and_self]
theorem depthAll_ints : ∀ ns : List Int, PyData.depthAll (ns.map .int) = 0
  | [] => by simp [PyData.depthAll]
  | n :: ns => by simp [PyData.depthAll, PyData.depth, depthAll_ints ns]
theorem shaped_ints (ns : List Int) : SeqAt.shaped (dInts ns) = true := by
  unfold SeqAt.shaped dInts
  rw [PyData.canLay0, canLayAll_ints, PyData.depth, depthAll_ints]
  rfl
theorem eqvAll_ints : ∀ ns ms : List Int, PyData.eqvAll (ns.map .int) (ms.map .int) = decide (ns = ms)
  | [], [] => by simp [PyData.eqvAll]
  | [], _ :: _ => by simp [PyData.eqvAll]
  | _ :: _, [] => by simp [PyData.eqvAll]
  | n :: ns, m :: ms => by
    simp only [List.map_cons, PyData.eqvAll, PyData.eqv, eqvAll_ints ns ms]
    by_cases h1 : n = m <;> by_cases h2 : ns = ms <;> simp [h1, h2]
theorem eqv_ints (ns ms : List Int) : PyData.eqv (dInts ns) (dInts ms) = decide (ns = ms) := by
  unfold dInts
  rw [PyData.eqv, eqvAll_ints]
theorem okD_ints {ns : List Int} (h : ns.length ≤ 1000000) (n : Nat) : OkD (n + 2) (dInts ns) := ⟨by rw [List.length_map]; exact h, fun d hd => by
  obtain ⟨i, _, rfl⟩ := List.mem_map.mp hd
  trivial⟩
theorem okD_pair (p : Int × Int) (n : Nat) : OkD (n + 2) (dPair p) := ⟨Nat.le_of_ble_eq_true rfl, fun d hd => by
  simp only [List.mem_cons, List.not_mem_nil, or_false] at hd
  rcases hd with rfl | rfl <;> trivial⟩
theorem okD_tab {t : Tab} (h : t.length ≤ 1000000) (n : Nat) : OkD (n + 3) (dTab t) := ⟨by rw [List.length_map]; exact h, fun d hd => by
  obtain ⟨p, _, rfl⟩ := List.mem_map.mp hd
  exact okD_pair p n⟩
/-! ### packing -/
def packTo (ls : List Int) : Nat → Tab
  | 0 => []
  | i + 1 => packTo ls i ++ (if i = 0 ∨ ls.getD i 0 ≠ ls.getD (i - 1) 0 then [((i : Int), ls.getD i 0)] else [])
def pack (ls : List Int) : Tab := packTo ls ls.length
/-! ### good tables -/
def GoodAt (t : Tab) (m : Int) (i : Nat) : Prop := 0 ≤ lineAt t i ∧ rowAt t i < m ∧ (i = 0 ∨ (rowAt t (i - 1) < rowAt t i ∧ lineAt t i ≠ lineAt t (i - 1)))
def Good (t : Tab) (m : Int) : Prop := 1 ≤ m ∧ m ≤ 400 ∧ 0 < t.length ∧ rowAt t 0 = 0 ∧ ∀ i, i < t.length → GoodAt t m i
theorem Good.row {t : Tab} {m : Int} (g : Good t m) : ∀ i, i < t.length → 0 ≤ rowAt t i ∧ rowAt t i < m := by
  intro i
  induction i with
  | zero => exact fun h => ⟨by rw [g.2.2.2.1]; exact Int.le_refl _, (g.2.2.2.2 0 h).2.1⟩
  | succ i ih =>
    intro h
    obtain ⟨_, h2, h3⟩ := g.2.2.2.2 (i + 1) h
    have h0 := ih (by omega)
    rcases h3 with h3 | ⟨h3, _⟩
    · cases h3
    · rw [Nat.add_sub_cancel] at h3
      exact ⟨by omega, h2⟩
theorem Good.rising {t : Tab} {m : Int} (g : Good t m) {i : Nat} (h : i + 1 < t.length) : rowAt t i < rowAt t (i + 1) := by
  obtain ⟨_, _, h3⟩ := g.2.2.2.2 (i + 1) h
  rcases h3 with h3 | ⟨h3, _⟩
  · cases h3
  · exact h3
/-! ### unpacking -/
def nextRow : Tab → Int → Int
  | [], m => m
  | p :: _, _ => p.1
def unpackL : Tab → Int → List Int
  | [], _ => []
  | p :: rest, m => List.replicate (nextRow rest m - p.1).toNat p.2 ++ unpackL rest m
theorem nextRow_drop (t : Tab) (m : Int) (i : Nat) : nextRow (t.drop i) m = if i < t.length then rowAt t i else m := by
  by_cases h : i < t.length
  · rw [if_pos h, List.drop_eq_getElem_cons h]
    show t[i].1 = _
    unfold rowAt
    rw [getD_of (List.getElem?_eq_getElem h)]
  · rw [if_neg h, List.drop_eq_nil_of_le (by omega)]
    rfl
theorem unpackL_drop (t : Tab) (m : Int) {i : Nat} (h : i < t.length) : unpackL (t.drop i) m = List.replicate ((if i + 1 < t.length then rowAt t (i + 1) else m) - rowAt t i).toNat (lineAt t i) ++ unpackL (t.drop (i + 1)) m := by
  have e : t.drop i = t[i] :: t.drop (i + 1) := List.drop_eq_getElem_cons h
  have e1 := getD_of (List.getElem?_eq_getElem h)
  rw [e, ← nextRow_drop]
  unfold rowAt lineAt
  rw [e1]
  rfl
theorem unpackL_snoc (m l : Int) : ∀ t : Tab, unpackL (t ++ [(m, l)]) (m + 1) = unpackL t m ++ [l]
  | [] => by
    show List.replicate (m + 1 - m).toNat l ++ [] = [] ++ [l]
    rw [show (m + 1 - m).toNat = 1 by omega]
    rfl
  | p :: rest => by
    have e : nextRow (rest ++ [(m, l)]) (m + 1) = nextRow rest m := by cases rest <;> rfl
    show List.replicate (nextRow (rest ++ [(m, l)]) (m + 1) - p.1).toNat p.2 ++ unpackL (rest ++ [(m, l)]) (m + 1) = (List.replicate (nextRow rest m - p.1).toNat p.2 ++ unpackL rest m) ++ [l]
    rw [e, unpackL_snoc m l rest, List.append_assoc]
theorem unpackL_more (m : Int) : ∀ t : Tab, t ≠ [] → rowAt t (t.length - 1) ≤ m → unpackL t (m + 1) = unpackL t m ++ [lineAt t (t.length - 1)]
  | [], h, _ => absurd rfl h
  | [p], _, h => by
    have h' : p.1 ≤ m := h
    show List.replicate (m + 1 - p.1).toNat p.2 ++ [] = (List.replicate (m - p.1).toNat p.2 ++ []) ++ [p.2]
    rw [List.append_nil, List.append_nil, show (m + 1 - p.1).toNat = (m - p.1).toNat + 1 by omega, List.replicate_succ']
  | p :: q :: rest, _, h => by
    have ih := unpackL_more m (q :: rest) (by simp) h
    show List.replicate (q.1 - p.1).toNat p.2 ++ unpackL (q :: rest) (m + 1) = (List.replicate (q.1 - p.1).toNat p.2 ++ unpackL (q :: rest) m) ++ [lineAt (q :: rest) ((q :: rest).length - 1)]
    rw [ih, List.append_assoc]
theorem getD_app_lt {t : Tab} {p : Int × Int} {j : Nat} (h : j < t.length) : (t ++ [p]).getD j (0, 0) = t.getD j (0, 0) := by
  rw [List.getD_eq_getElem?_getD, List.getD_eq_getElem?_getD, List.getElem?_append_left h]
theorem getD_app_eq {t : Tab} {p : Int × Int} : (t ++ [p]).getD t.length (0, 0) = p := by
  rw [List.getD_eq_getElem?_getD, List.getElem?_append_right (Nat.le_refl _), Nat.sub_self]
  rfl
/-- what a packing keeps -/
theorem packTo_keeps (ls : List Int) (hp : ∀ x ∈ ls, 0 ≤ x) : ∀ i, i < ls.length →
    (packTo ls (i + 1)) ≠ [] ∧ (packTo ls (i + 1)).length ≤ i + 1 ∧ rowAt (packTo ls (i + 1)) 0 = 0 ∧ (∀ j, j < (packTo ls (i + 1)).length → GoodAt (packTo ls (i + 1)) (i + 1 : Nat) j) ∧
      lineAt (packTo ls (i + 1)) ((packTo ls (i + 1)).length - 1) = ls.getD i 0 ∧ rowAt (packTo ls (i + 1)) ((packTo ls (i + 1)).length - 1) ≤ i ∧ unpackL (packTo ls (i + 1)) (i + 1 : Nat) = ls.take (i + 1) := by
  intro i
  have pos : ∀ j, j < ls.length → 0 ≤ ls.getD j 0 := fun j hj => by
    rw [List.getD_eq_getElem?_getD, List.getElem?_eq_getElem hj]
    exact hp _ (List.getElem_mem hj)
  have tk : ∀ j, j < ls.length → ls.take (j + 1) = ls.take j ++ [ls.getD j 0] := fun j hj => by
    rw [List.take_add_one, List.getElem?_eq_getElem hj, List.getD_eq_getElem?_getD, List.getElem?_eq_getElem hj]
    rfl
  induction i with
  | zero =>
    intro hi
    have e : packTo ls 1 = [(0, ls.getD 0 0)] := by
      show [] ++ (if (0 = 0 ∨ _) then _ else _) = _
      rw [if_pos (.inl rfl)]
      rfl
    rw [e]
    refine ⟨by simp, Nat.le_refl 1, rfl, fun j hj => ?_, rfl, Int.le_refl _, ?_⟩
    · have : j = 0 := by simp at hj; omega
      subst this
      exact ⟨pos 0 hi, by show (0 : Int) < 1; decide, .inl rfl⟩
    · rw [tk 0 hi]
      rfl
  | succ i ih =>
    intro hi
    obtain ⟨h1, h2, h3, h4, h5, h6, h7⟩ := ih (by omega)
    have hl : 0 < (packTo ls (i + 1)).length := List.length_pos_iff.mpr h1
    have ec : ((i + 1 + 1 : Nat) : Int) = ((i + 1 : Nat) : Int) + 1 := by omega
    have estep : packTo ls (i + 1 + 1) = packTo ls (i + 1) ++ (if i + 1 = 0 ∨ ls.getD (i + 1) 0 ≠ ls.getD (i + 1 - 1) 0 then [(((i + 1 : Nat) : Int), ls.getD (i + 1) 0)] else []) := rfl
    by_cases hne : ls.getD (i + 1) 0 ≠ ls.getD i 0
    · have e : packTo ls (i + 1 + 1) = packTo ls (i + 1) ++ [(((i + 1 : Nat) : Int), ls.getD (i + 1) 0)] := by
        rw [estep, if_pos (.inr (by rw [Nat.add_sub_cancel]; exact hne))]
      rw [e]
      generalize packTo ls (i + 1) = t at *
      have el : (t ++ [(((i + 1 : Nat) : Int), ls.getD (i + 1) 0)]).length = t.length + 1 := by simp
      refine ⟨by simp, by rw [el]; omega, ?_, fun j hj => ?_, ?_, ?_, ?_⟩
      · unfold rowAt
        rw [getD_app_lt hl]
        exact h3
      · rw [el] at hj
        by_cases hj2 : j < t.length
        · obtain ⟨g1, g2, g3⟩ := h4 j hj2
          unfold GoodAt rowAt lineAt at *
          rw [getD_app_lt hj2, getD_app_lt (show j - 1 < t.length by omega)]
          exact ⟨g1, by omega, g3⟩
        · have : j = t.length := by omega
          subst this
          unfold GoodAt rowAt lineAt at *
          rw [getD_app_eq, getD_app_lt (show t.length - 1 < t.length by omega)]
          exact ⟨pos (i + 1) hi, by show ((i + 1 : Nat) : Int) < _; omega, .inr ⟨by show _ < ((i + 1 : Nat) : Int); omega, by rw [h5]; exact hne⟩⟩
      · rw [el, Nat.add_sub_cancel]
        unfold lineAt
        rw [getD_app_eq]
      · rw [el, Nat.add_sub_cancel]
        unfold rowAt
        rw [getD_app_eq]
        exact Int.le_refl _
      · rw [ec, unpackL_snoc, h7, tk (i + 1) hi]
    · have hne' : ls.getD (i + 1) 0 = ls.getD i 0 := Decidable.not_not.mp hne
      have e : packTo ls (i + 1 + 1) = packTo ls (i + 1) := by
        rw [estep, if_neg (by rw [Nat.add_sub_cancel]; rintro (z | z); cases z; exact hne z), List.append_nil]
      rw [e]
      generalize packTo ls (i + 1) = t at *
      refine ⟨h1, by omega, h3, fun j hj => ?_, by rw [h5, hne'], by omega, ?_⟩
      · obtain ⟨g1, g2, g3⟩ := h4 j hj
        exact ⟨g1, by omega, g3⟩
      · rw [ec, unpackL_more _ _ h1 (by omega), h7, tk (i + 1) hi, h5, hne']
theorem pack_good {ls : List Int} (hp : ∀ x ∈ ls, 0 ≤ x) (h1 : 0 < ls.length) (h2 : ls.length ≤ 400) : Good (pack ls) ls.length ∧ unpackL (pack ls) ls.length = ls ∧ (pack ls).length ≤ ls.length := by
  obtain ⟨n, hn⟩ : ∃ n, ls.length = n + 1 := ⟨ls.length - 1, by omega⟩
  obtain ⟨a1, a2, a3, a4, _, _, a7⟩ := packTo_keeps ls hp n (by omega)
  unfold pack
  rw [hn]
  refine ⟨⟨by omega, by omega, List.length_pos_iff.mpr a1, a3, a4⟩, ?_, a2⟩
  rw [a7, ← hn, List.take_length]
theorem unpackL_len {t : Tab} {m : Int} (g : Good t m) : ∀ k i, i + k = t.length → ((unpackL (t.drop i) m).length : Int) = m - (if i < t.length then rowAt t i else m)
  | 0, i, h => by
    rw [List.drop_eq_nil_of_le (by omega), if_neg (by omega)]
    show (0 : Int) = _
    omega
  | k + 1, i, h => by
    have ih := unpackL_len g k (i + 1) (by omega)
    have hi : i < t.length := by omega
    rw [unpackL_drop t m hi, List.length_append, List.length_replicate, if_pos hi]
    have r1 := g.row i hi
    by_cases h2 : i + 1 < t.length
    · rw [if_pos h2] at ih ⊢
      have r2 := g.rising h2
      omega
    · rw [if_neg h2] at ih ⊢
      omega
theorem unpackL_len0 {t : Tab} {m : Int} (g : Good t m) : ((unpackL t m).length : Int) = m := by
  have h := unpackL_len g t.length 0 (by omega)
  rw [List.drop_zero, if_pos g.2.2.1, g.2.2.2.1] at h
  omega
theorem unpackL_split {t : Tab} {m : Int} (g : Good t m) : ∀ i, i ≤ t.length → ∃ X, unpackL t m = X ++ unpackL (t.drop i) m ∧ (X.length : Int) = (if i < t.length then rowAt t i else m)
  | 0, _ => ⟨[], rfl, by rw [if_pos g.2.2.1, g.2.2.2.1]; rfl⟩
  | i + 1, h => by
    obtain ⟨X, e, l⟩ := unpackL_split g i (by omega)
    have hi : i < t.length := by omega
    rw [if_pos hi] at l
    rw [unpackL_drop t m hi] at e
    refine ⟨X ++ List.replicate ((if i + 1 < t.length then rowAt t (i + 1) else m) - rowAt t i).toNat (lineAt t i), by rw [e, List.append_assoc], ?_⟩
    rw [List.length_append, List.length_replicate]
    have r1 := g.row i hi
    by_cases h2 : i + 1 < t.length
    · rw [if_pos h2]
      have r2 := g.rising h2
      omega
    · rw [if_neg h2]
      omega
/-- a row's line, by the pair whose rows it is among -/
theorem unpackL_at {t : Tab} {m : Int} (g : Good t m) {i : Nat} (hi : i < t.length) {r : Int} (h1 : rowAt t i ≤ r) (h2 : r < if i + 1 < t.length then rowAt t (i + 1) else m) : (unpackL t m)[r.toNat]? = some (lineAt t i) := by
  obtain ⟨X, e, l⟩ := unpackL_split g i (by omega)
  rw [if_pos hi] at l
  have r1 := g.row i hi
  rw [e, List.getElem?_append_right (by omega), unpackL_drop t m hi, List.getElem?_append_left (by rw [List.length_replicate]; omega), List.getElem?_replicate, if_pos (by omega)]
theorem flat_rep {α : Type} (x : α) : ∀ n, (List.replicate n [x]).flatten = List.replicate n x
  | 0 => rfl
  | n + 1 => by rw [List.replicate_succ, List.flatten_cons, flat_rep x n]; rfl
/-! ### promises -/
abbrev spPacked (K : PySem.W.Frag) : Sp := sp1 fun v H Q _ => ∃ (b : Addr) (ns : List Int), v = .ref b ∧ SqL K H b (ns.map V.int) ∧ ns.length ≤ 1000 ∧
  ∀ H' r xs, Same H H' → H r = none → H' r = some (.lst xs) → DpAll K (hid [r] H') xs ((pack ns).map dPair) → Q (.ref r) H'
abbrev spNeed (K : PySem.W.Frag) (cT : Addr) : Sp := sp2 fun t m H Q E => ∃ (tab : Tab) (many : Int), m = .int many ∧ Dp K H t (dTab tab) ∧ tab.length ≤ 1000 ∧
  (Good tab many → ∀ H', Same H H' → Q .non H') ∧ (¬ Good tab many → ∀ H', Same H H' → E (.ref cT) none H')
abbrev spUnpacked (K : PySem.W.Frag) (cT : Addr) : Sp := sp2 fun t m H Q E => ∃ (tab : Tab) (many : Int), m = .int many ∧ Dp K H t (dTab tab) ∧ tab.length ≤ 1000 ∧
  (Good tab many → ∀ H' r, Same H H' → H r = none → H' r = some (.lst ((unpackL tab many).map V.int)) → Q (.ref r) H') ∧ (¬ Good tab many → ∀ H', Same H H' → E (.ref cT) none H')
abbrev spLineAt (K : PySem.W.Frag) (cT cP : Addr) : Sp := sp3 fun t m r H Q E => ∃ (tab : Tab) (many row : Int), m = .int many ∧ r = .int row ∧ Dp K H t (dTab tab) ∧ tab.length ≤ 1000 ∧
  (Good tab many → ∀ H' v, Same H H' → 0 ≤ row → row < many → (unpackL tab many)[row.toNat]? = some v → Q (.int v) H') ∧ (¬ Good tab many → ∀ H', Same H H' → E (.ref cT) none H') ∧ (Good tab many → ¬ (0 ≤ row ∧ row < many) → ∀ H', Same H H' → E (.ref cP) none H')
/-- the rows of a line among those below n -/
def rowsOf (ls : List Int) (line : Int) : Nat → List Int
  | 0 => []
  | i + 1 => rowsOf ls line i ++ (if ls.getD i 0 = line then [(i : Int)] else [])
abbrev spRowsOf (K : PySem.W.Frag) (cT : Addr) : Sp := sp3 fun t m l H Q E => ∃ (tab : Tab) (many line : Int), m = .int many ∧ l = .int line ∧ Dp K H t (dTab tab) ∧ tab.length ≤ 1000 ∧
  (Good tab many → ∀ H' r, Same H H' → H r = none → H' r = some (.lst ((rowsOf (unpackL tab many) line (unpackL tab many).length).map V.int)) → Q (.ref r) H') ∧ (¬ Good tab many → ∀ H', Same H H' → E (.ref cT) none H')
end L2.U
/-! Tab9: a table is told by its lines; the rows of all lines. Own text. -/
namespace L2.U
open PySem PySem.Spec PyProof.Rows RZ
def Chain (m : Int) : Tab → Prop
  | [] => True
  | p :: rest => p.1 < nextRow rest m ∧ (∀ q r, rest = q :: r → q.2 ≠ p.2) ∧ Chain m rest
theorem Good.chain {t : Tab} {m : Int} (g : Good t m) : ∀ k i, i + k = t.length → Chain m (t.drop i)
  | 0, i, h => by
    rw [List.drop_eq_nil_of_le (by omega)]
    trivial
  | k + 1, i, h => by
    have hi : i < t.length := by omega
    have e : t.drop i = t[i] :: t.drop (i + 1) := List.drop_eq_getElem_cons hi
    have ed := getD_of (List.getElem?_eq_getElem hi)
    rw [e]
    refine ⟨?_, ?_, g.chain k (i + 1) (by omega)⟩
    · rw [nextRow_drop]
      have r1 := g.row i hi
      by_cases h2 : i + 1 < t.length
      · rw [if_pos h2]
        have := g.rising h2
        unfold rowAt at this
        rw [ed] at this
        exact this
      · rw [if_neg h2]
        have := r1.2
        unfold rowAt at this
        rw [ed] at this
        exact this
    · intro q r eq
      have h2 : i + 1 < t.length := by
        rcases Nat.lt_or_ge (i + 1) t.length with z | z
        · exact z
        · rw [List.drop_eq_nil_of_le z] at eq
          cases eq
      rw [List.drop_eq_getElem_cons h2] at eq
      obtain ⟨e1, _⟩ := List.cons.inj eq
      obtain ⟨_, _, h3⟩ := g.2.2.2.2 (i + 1) h2
      rcases h3 with z | ⟨_, z⟩
      · cases z
      · rw [Nat.add_sub_cancel] at z
        unfold lineAt at z
        rw [ed, getD_of (List.getElem?_eq_getElem h2), e1] at z
        exact z
theorem chain_head {m : Int} {q : Int × Int} {r : Tab} (c : Chain m (q :: r)) : (unpackL (q :: r) m).head? = some q.2 := by
  have h : 0 < (nextRow r m - q.1).toNat := by
    have := c.1
    omega
  show (List.replicate (nextRow r m - q.1).toNat q.2 ++ unpackL r m).head? = some q.2
  obtain ⟨n, hn⟩ : ∃ n, (nextRow r m - q.1).toNat = n + 1 := ⟨(nextRow r m - q.1).toNat - 1, by omega⟩
  rw [hn]
  rfl
theorem rep_cancel {l : Int} {X Y : List Int} (hx : X.head? ≠ some l) (hy : Y.head? ≠ some l) : ∀ a b : Nat, List.replicate a l ++ X = List.replicate b l ++ Y → a = b ∧ X = Y
  | 0, 0, h => ⟨rfl, h⟩
  | 0, b + 1, h => by
    exfalso
    apply hx
    have : X = List.replicate (b + 1) l ++ Y := h
    rw [this]
    rfl
  | a + 1, 0, h => by
    exfalso
    apply hy
    have : List.replicate (a + 1) l ++ X = Y := h
    rw [← this]
    rfl
  | a + 1, b + 1, h => by
    have h' : l :: (List.replicate a l ++ X) = l :: (List.replicate b l ++ Y) := h
    obtain ⟨h1, h2⟩ := rep_cancel hx hy a b (List.cons.inj h').2
    exact ⟨by omega, h2⟩
theorem chain_unique {m : Int} : ∀ t t' : Tab, Chain m t → Chain m t' → nextRow t m = nextRow t' m → unpackL t m = unpackL t' m → t = t'
  | [], [], _, _, _, _ => rfl
  | [], q :: r, _, c', _, h => by
    have e := chain_head c'
    rw [← h] at e
    cases e
  | p :: s, [], c, _, _, h => by
    have e := chain_head c
    rw [h] at e
    cases e
  | p :: s, q :: r, c, c', hn, h => by
    have e1 : p.1 = q.1 := hn
    have e2 : p.2 = q.2 := by
      have a := chain_head c
      have b := chain_head c'
      rw [h, b] at a
      exact (Option.some.inj a).symm
    have ne : ∀ (z : Int × Int) (w : Tab), Chain m (z :: w) → (unpackL w m).head? ≠ some z.2 := fun z w cw => by
      cases w with
      | nil => intro x; cases x
      | cons z2 w2 =>
        rw [chain_head cw.2.2]
        intro x
        exact cw.2.1 z2 w2 rfl (Option.some.inj x)
    have h' : List.replicate (nextRow s m - p.1).toNat p.2 ++ unpackL s m = List.replicate (nextRow r m - q.1).toNat p.2 ++ unpackL r m := by
      have : List.replicate (nextRow s m - p.1).toNat p.2 ++ unpackL s m = List.replicate (nextRow r m - q.1).toNat q.2 ++ unpackL r m := h
      rw [this, e2]
    obtain ⟨k1, k2⟩ := rep_cancel (ne p s c) (by rw [e2]; exact ne q r c') _ _ h'
    have b1 := c.1
    have b2 := c'.1
    have e3 := chain_unique s r c.2.2 c'.2.2 (by omega) k2
    have e4 : p = q := Prod.ext e1 e2
    rw [e3, e4]
theorem table_unique {t t' : Tab} {m : Int} (g : Good t m) (g' : Good t' m) (h : unpackL t m = unpackL t' m) : t = t' := by
  have c := g.chain t.length 0 (by omega)
  have c' := g'.chain t'.length 0 (by omega)
  have n1 := nextRow_drop t m 0
  have n2 := nextRow_drop t' m 0
  rw [List.drop_zero] at c c' n1 n2
  rw [if_pos g.2.2.1, g.2.2.2.1] at n1
  rw [if_pos g'.2.2.1, g'.2.2.2.1] at n2
  exact chain_unique t t' c c' (by rw [n1, n2]) h
/-! ### the rows of all lines -/
def allRows (ls : List Int) : Nat → List Int
  | 0 => []
  | j + 1 => allRows ls j ++ rowsOf ls j ls.length
def rgI (n : Nat) : List Int := (List.range n).map fun i => (0 : Int) + (i : Nat)
theorem count_rowsOf (ls : List Int) (line a : Int) : ∀ n, (rowsOf ls line n).count a = if 0 ≤ a ∧ a < n ∧ ls.getD a.toNat 0 = line then 1 else 0
  | 0 => by
    rw [if_neg (by omega)]
    rfl
  | n + 1 => by
    have ih := count_rowsOf ls line a n
    show (rowsOf ls line n ++ (if ls.getD n 0 = line then [(n : Int)] else [])).count a = _
    rw [List.count_append, ih]
    by_cases ha : a = (n : Int)
    · subst ha
      rw [if_neg (show ¬ (0 ≤ (n : Int) ∧ (n : Int) < n ∧ _) from fun z => by omega)]
      by_cases hl : ls.getD n 0 = line
      · rw [if_pos hl, if_pos ⟨by omega, by omega, hl⟩]
        simp
      · rw [if_neg hl, if_neg (fun z => hl z.2.2)]
        rfl
    · have h0 : (if ls.getD n 0 = line then [(n : Int)] else []).count a = 0 := by
        split
        · simp [List.count_singleton]
          exact fun z => ha z.symm
        · rfl
      rw [h0, Nat.add_zero]
      by_cases hc : 0 ≤ a ∧ a < n ∧ ls.getD a.toNat 0 = line
      · rw [if_pos hc, if_pos ⟨hc.1, by omega, hc.2.2⟩]
      · rw [if_neg hc, if_neg (fun z => hc ⟨z.1, by omega, z.2.2⟩)]
theorem count_allRows (ls : List Int) (a : Int) : ∀ j : Nat, (allRows ls j).count a = if 0 ≤ a ∧ a < ls.length ∧ 0 ≤ ls.getD a.toNat 0 ∧ ls.getD a.toNat 0 < j then 1 else 0
  | 0 => by
    rw [if_neg (by omega)]
    rfl
  | j + 1 => by
    have ih := count_allRows ls a j
    show (allRows ls j ++ rowsOf ls j ls.length).count a = _
    rw [List.count_append, ih, count_rowsOf]
    generalize ls.getD a.toNat 0 = l
    by_cases h0 : 0 ≤ a ∧ a < ls.length
    · by_cases h1 : 0 ≤ l ∧ l < j
      · rw [if_pos ⟨h0.1, h0.2, h1⟩, if_neg (by omega), if_pos (by omega)]
      · by_cases h2 : l = j
        · rw [if_neg (by omega), if_pos (by omega), if_pos (by omega)]
        · rw [if_neg (by omega), if_neg (by omega), if_neg (by omega)]
    · rw [if_neg (by omega), if_neg (by omega), if_neg (by omega)]
theorem count_rgI (a : Int) : ∀ n, (rgI n).count a = if 0 ≤ a ∧ a < n then 1 else 0
  | 0 => by
    rw [if_neg (by omega)]
    rfl
  | n + 1 => by
    have ih := count_rgI a n
    have e : rgI (n + 1) = rgI n ++ [(0 : Int) + (n : Nat)] := by
      unfold rgI
      rw [List.range_succ, List.map_append]
      rfl
    rw [e, List.count_append, ih, List.count_singleton]
    simp only [beq_iff_eq]
    split <;> split <;> split <;> omega
theorem allRows_perm {ls : List Int} {k : Nat} (h : ∀ x ∈ ls, 0 ≤ x ∧ x < k) : (allRows ls k).Perm (rgI ls.length) := by
  refine List.perm_iff_count.mpr fun a => ?_
  rw [count_allRows, count_rgI]
  by_cases h0 : 0 ≤ a ∧ a < ls.length
  · have hm : ls.getD a.toNat 0 ∈ ls := by
      rw [List.getD_eq_getElem?_getD, List.getElem?_eq_getElem (show a.toNat < ls.length by omega)]
      exact List.getElem_mem _
    have := h _ hm
    rw [if_pos h0, if_pos ⟨h0.1, h0.2, this⟩]
  · rw [if_neg h0, if_neg (by omega)]
theorem rgI_sorted : ∀ n, (rgI n).Pairwise (· ≤ ·) := fun n => by
  unfold rgI
  rw [List.pairwise_map]
  exact List.Pairwise.imp (fun h => by omega) List.pairwise_lt_range
theorem rgV_rgI (n : Nat) : rgV 0 (n : Int) = (rgI n).map V.int := by
  unfold rgV rgI
  rw [List.map_map, show ((n : Int) - 0).toNat = n by omega]
  rfl
theorem rowsOf_len (ls : List Int) (l : Int) : ∀ n, (rowsOf ls l n).length ≤ n
  | 0 => Nat.le_refl _
  | n + 1 => by
    have := rowsOf_len ls l n
    show (rowsOf ls l n ++ _).length ≤ n + 1
    rw [List.length_append]
    split
    · exact Nat.add_le_add_right this 1
    · exact Nat.le_succ_of_le this
theorem allRows_len (ls : List Int) : ∀ j, (allRows ls j).length ≤ j * ls.length
  | 0 => Nat.zero_le _
  | j + 1 => by
    have h1 := allRows_len ls j
    have h2 := rowsOf_len ls j ls.length
    show (allRows ls j ++ rowsOf ls j ls.length).length ≤ _
    rw [List.length_append, Nat.succ_mul]
    omega
theorem noL_tab : ∀ t : Tab, noLAll (t.map dPair) = true
  | [] => by simp [noLAll]
  | p :: t => by simp [noLAll, noL, dPair, noL_tab t]
theorem eqv_none (ns : List Int) : PyData.eqv .none (dInts ns) = false := by simp [dInts, PyData.eqv]
abbrev spTold (K : PySem.W.Frag) : Sp := sp2 fun t m H Q _ => ∃ (tab : Tab) (many : Int), m = .int many ∧ Dp K H t (dTab tab) ∧ tab.length ≤ 1000 ∧
  (Good tab many → ∀ H' r, Same H H' → H' r = some (.lst ((unpackL tab many).map V.int)) → Q (.ref r) H') ∧ (¬ Good tab many → ∀ H', Same H H' → Q .non H')
end L2.U
namespace L2.U
open PySem PySem.Spec PyProof.Rows RZ TL
def topS (i : Nat) : Stmt := PySem.Challenge.pw_hindstep_k09_whole_tables_are_the_shorte.main.body.getD i (.Pass ⟨0, 0, 0, 0⟩)
abbrev s_packed : Stmt := topS 6
theorem sc_packed : FnScope ["lines", "found", "row", "line"] ["lines"] (defScope s_packed) := ⟨rfl, rfl, rfl, by decide +kernel, rfl, by decide +kernel, by decide +kernel⟩
abbrev s_need_table : Stmt := topS 7
theorem sc_need_table : FnScope ["table", "many", "at", "row", "line"] ["table", "many"] (defScope s_need_table) := ⟨rfl, rfl, rfl, by decide +kernel, rfl, by decide +kernel, by decide +kernel⟩
abbrev s_unpacked : Stmt := topS 8
theorem sc_unpacked : FnScope ["table", "many", "found", "at", "row", "line", "behind"] ["table", "many"] (defScope s_unpacked) := ⟨rfl, rfl, rfl, by decide +kernel, rfl, by decide +kernel, by decide +kernel⟩
abbrev s_line_at : Stmt := topS 9
theorem sc_line_at : FnScope ["table", "many", "row", "low", "high", "middle"] ["table", "many", "row"] (defScope s_line_at) := ⟨rfl, rfl, rfl, by decide +kernel, rfl, by decide +kernel, by decide +kernel⟩
abbrev s_rows_of : Stmt := topS 10
theorem sc_rows_of : FnScope ["table", "many", "line", "row", "own"] ["table", "many", "line"] (defScope s_rows_of) := ⟨rfl, rfl, rfl, by decide +kernel, rfl, by decide +kernel, by decide +kernel⟩
abbrev s_law_begin : Stmt := topS 12
theorem sc_law_begin : FnScope ["_law_script"] ["_law_script"] (defScope s_law_begin) := ⟨rfl, rfl, rfl, by decide +kernel, rfl, by decide +kernel, by decide +kernel⟩
abbrev s_law_take : Stmt := topS 13
theorem sc_law_take : FnScope ["_law_draw", "_law_sides", "_law_cell", "_law_got"] ["_law_draw", "_law_sides"] (defScope s_law_take) := ⟨rfl, rfl, rfl, by decide +kernel, rfl, by decide +kernel, by decide +kernel⟩
abbrev s_law_told : Stmt := topS 14
theorem sc_law_told : FnScope ["_law_table", "_law_many"] ["_law_table", "_law_many"] (defScope s_law_told) := ⟨rfl, rfl, rfl, by decide +kernel, rfl, by decide +kernel, by decide +kernel⟩
abbrev s_law : Stmt := topS 15
theorem sc_law : FnScope ["_law_script", "_law_draw", "_law_lines", "_law_k", "_law_table", "_law_many", "_law_rows", "_law_line", "_law_at", "_law_more", "_law_row"] ["_law_script"] (defScope s_law) := ⟨rfl, rfl, rfl, by decide +kernel, rfl, by decide +kernel, by decide +kernel⟩
structure Blt (mg : Str → Option Value) : Prop where
  abs : mg "abs" = none
  enumerate : mg "enumerate" = none
  len : mg "len" = none
  list : mg "list" = none
  range : mg "range" = none
  sorted : mg "sorted" = none
section
variable {P : Program} {w : World} {K : PySem.W.Frag} {mg : Str → Option Value} {base : Heap}
local macro_rules | `(tactic| walk_at "rd1") => `(tactic| first
  | with_reducible refine s_var (by with_unfolding_all exact rfl) ?_
  | with_reducible refine s_c ?_ | with_reducible refine s_op ?_ | with_reducible refine s_cons ?_ | with_reducible refine s_nil ?_
  | with_reducible refine s_nx ?_ | with_reducible refine s_rt ?_ | with_reducible refine s_seq ?_ | with_reducible refine s_test ?_ | with_reducible refine s_bl ?_
  | with_reducible refine s_add ?_ | with_reducible refine s_sub ?_ | with_reducible refine s_lt ?_ | with_reducible refine s_le ?_ | with_reducible refine s_ge ?_ | with_reducible refine s_gt ?_
  | with_reducible refine s_and ?_ | with_reducible refine s_or ?_ | with_reducible refine s_not ?_ | with_reducible refine s_cb ?_ | with_reducible refine s_ret ?_ | with_reducible refine s_ifS ?_ | with_reducible refine s_if ?_
  | with_reducible refine s_asg ?_ | with_reducible refine s_gName ?_ | with_reducible refine s_gSub ?_ | with_reducible refine s_drop ?_ | with_reducible refine s_next ?_
  | with_reducible refine s_abs ?_ | with_reducible refine s_call ?_ | with_reducible refine s_sp1 ?_ | with_reducible refine s_sp2 ?_ | with_reducible refine s_sp3 ?_
  | with_reducible refine s_tup ?_ | with_reducible refine s_lst ?_ | with_reducible refine s_sl ?_ | with_reducible refine s_noPart ?_ | with_reducible refine s_part ?_ | with_reducible refine s_partI ?_
  | with_reducible refine s_tr ?_ | with_reducible refine s_truB ?_ | with_reducible refine s_lc ?_ | with_reducible refine s_iStr ?_ | with_reducible refine s_str ?_ | with_reducible refine s_iRng1 ?_ | with_reducible refine s_iList ?_ | with_reducible refine s_iTup ?_ | with_reducible refine s_iZipA ?_
  | with_reducible refine s_for ?_ | with_reducible refine s_try ?_ | with_reducible refine s_lstRg ?_ | with_reducible refine s_prg1 ?_ | with_reducible refine s_enum ?_ | with_reducible refine s_bm ?_ | with_reducible refine s_bm0 ?_ | with_reducible refine s_callS ?_ | with_reducible refine s_sq1 ?_ | with_reducible refine s_sq2 ?_ | with_reducible refine s_sq3 ?_ | with_reducible refine s_ipI ?_ | with_reducible refine s_aug (by with_unfolding_all exact rfl) ?_ | with_reducible refine s_yes ?_ | with_reducible refine s_m1 ?_ | with_reducible refine s_m0 ?_ | with_reducible refine s_isStr ?_ | with_reducible refine s_isN ?_ | with_reducible refine s_notN ?_ | with_reducible refine s_chain ?_ | with_reducible refine s_andV ?_ | with_reducible refine s_orV ?_ | with_reducible refine s_notV ?_ | with_reducible refine s_un ?_ | with_reducible refine s_neg ?_)
local macro_rules | `(tactic| walk_at "rd") => `(tactic| repeat walk_at "rd1")
theorem ok_packed (D : DefAt K mg "packed" s_packed ["lines"]) (B : Blt mg) : OkF P w K mg base CX0 1 "packed" ["lines"] (spPacked K) := by
  refine D.ok sc_packed len1 (fun f cdv A outer s H vs Q E hr h => ?_)
  obtain ⟨_, rfl, b, ns, rfl, hS, hl, q⟩ := h
  refine ⟨_, (pss_cons (ps_set (i := 1) sc_packed.nd rfl (by first | exact .inl rfl | exact .inr rfl) (pe_lst pa_nil))
    (pss_cons (ps_for PassesOwn.never (by rfl) (u_enum (K := K) B.enumerate (pa_cons (pv 0) pa_nil)) (u_tup (K := K) rfl (pgs_cons (pg_name (i := 2) sc_packed.nd rfl (by first | exact .inl rfl | exact .inr rfl)) (pgs_cons (pg_name (i := 3) sc_packed.nd rfl (by first | exact .inl rfl | exact .inr rfl)) pgs_nil))) (pss_one (ps_if (PW.pt (pw_or (pt_cmpR (o_eq (K := K) hr.units) (pv 2) pe_int (nomark _)) (pw_or1 (pt_cmpR (o_ne (K := K) hr.units) (pv 3) (pe_ix (u_ix (K := K)) (pv 0) (pe_op o_sub (pv 2) pe_int) (fun _ _ => rfl)) (nomark _))))) (pss_one (ps_expr (u_bm (K := K) PySem.F.plainAttrs_list PySem.F.slot_list_append PySem.F.type_list_append mt_append (pv 1) (pa_cons (pe_tup (pa_cons (pv 2) (pa_cons (pv 3) pa_nil))) pa_nil)))) pss_nil)))
    (pss_one (ps_ret (pv 1))))), ?_⟩
  refine s_start (σ' := [some (.ref b), none, none, none]) rfl ?_
  walk_at "rd"
  refine ⟨sz rfl, fun r nr => ?_⟩
  walk_at "rd"
  have s1 := same_upd (o := .lst []) nr
  refine s_enumL (s1.seq hS) ?_
  have h0 : Same H (hid [r] (upd H r (.lst []))) := by
    rw [hid_up List.mem_cons_self, hid_new nr, hid_nil]
    exact Same.refl _
  have e0 : upd H r (.lst []) r = some (.lst []) := upd_same
  have s1' : Same H (upd H r (.lst [])) := s1
  generalize upd H r (.lst []) = H1 at h0 e0 s1' ⊢
  refine forB_of ns.length (fun i σ H' => ∃ x y xs, σ = [some (.ref b), some (.ref r), x, y] ∧ Same H (hid [r] H') ∧ H' r = some (.lst xs) ∧ DpAll K (hid [r] H') xs ((packTo ns i).map dPair) ∧ xs.length ≤ i) ⟨none, none, [], rfl, h0, e0, .nil, Nat.le_refl _⟩ ?_ ?_ ?_ ?_
  · rintro i σ H' hi ⟨x, y, xs, rfl, sm, _⟩
    exact ⟨ns.map V.int, .int ns[i], hid_same.seq (sm.seq hS), by rw [List.getElem?_map, List.getElem?_eq_getElem hi]; rfl⟩
  · rintro σ H' ⟨x, y, xs, rfl, sm, _⟩
    exact ⟨ns.map V.int, hid_same.seq (sm.seq hS), by rw [List.length_map]; exact Nat.le_refl _⟩
  · rintro i σ H' v _ hi ⟨x, y, xs, rfl, sm, eq, dp, hl2⟩ ⟨T, z, rfl, nT, rfl, hz⟩
    have hS' : SqL K H' b (ns.map V.int) := hid_same.seq (sm.seq hS)
    have hz' : z = .int (ns.getD i 0) := by
      have e := hz _ hS'
      rw [List.getElem?_map, List.getElem?_eq_getElem hi] at e
      rw [List.getD_eq_getElem?_getD, List.getElem?_eq_getElem hi]
      exact (Option.some.inj e).symm
    subst hz'
    have sT := same_upd (o := .tup [.int (i : Nat), .int (ns.getD i 0)]) nT
    have rT : r ≠ T := ne_of_none eq nT
    refine s_gTup (SqT.of upd_same) rfl (s_gCons (s_gName (s_gCons (s_gName (s_gNil ?_)))))
    have hST := sT.seq hS'
    have eqT := sT _ _ eq
    have smT : Same H (hid [r] (upd H' T (.tup [.int (i : Nat), .int (ns.getD i 0)]))) := sm.trans (Same.hid sT)
    have dpT := Dp.sameAll (Same.hid sT (S := [r])) _ _ dp
    generalize upd H' T (.tup [.int (i : Nat), .int (ns.getD i 0)]) = H2 at hST eqT smT dpT ⊢
    have put : (i = 0 ∨ ns.getD i 0 ≠ ns.getD (i - 1) 0) → (tDrop (tBM K "list" rAppend (tVar 1) (tCons (tTup (tCons (tVar 2) (tCons (tVar 3) tNil))) tNil))) ⟨fun σ H' => ∃ x y xs, σ = [some (.ref b), some (.ref r), x, y] ∧ Same H (hid [r] H') ∧ H' r = some (.lst xs) ∧ DpAll K (hid [r] H') xs ((packTo ns (i + 1)).map dPair) ∧ xs.length ≤ i + 1, Q, tRet (tVar 1) { nx := fun x H' => Q V.non H', rt := Q }, fun σ H' => ∃ x y xs, σ = [some (.ref b), some (.ref r), x, y] ∧ Same H (hid [r] H') ∧ H' r = some (.lst xs) ∧ DpAll K (hid [r] H') xs ((packTo ns (i + 1)).map dPair) ∧ xs.length ≤ i + 1⟩ [some (.ref b), some (.ref r), some (.int (i : Nat)), some (.int (ns.getD i 0))] H2 := by
      intro hc
      walk_at "rd"
      refine s_tyL (SqL.of eqT) ?_
      walk_at "rd"
      refine ⟨sz rfl, fun p np => ?_⟩
      walk_at "rd"
      have sp := same_upd (o := .tup [.int (i : Nat), .int (ns.getD i 0)]) np
      have rp : r ≠ p := ne_of_none eqT np
      refine s_append (sp _ _ eqT) (small1000 (by omega)) ?_
      walk_at "rd"
      refine ⟨_, _, _, rfl, ?_, upd_same, ?_, ?_⟩
      · rw [hid_up List.mem_cons_self]
        exact smT.trans (Same.hid sp)
      · rw [hid_up List.mem_cons_self, show packTo ns (i + 1) = packTo ns i ++ [((i : Int), ns.getD i 0)] from by show _ ++ (if _ then _ else _) = _; rw [if_pos hc], List.map_append]
        refine DpAll.app (Dp.sameAll (Same.hid sp) _ _ dpT) (DpAll.one (Dp.pair (SqT.of ?_)))
        rw [hid_get (by simpa using rp.symm)]
        exact upd_same
      · rw [List.length_append]
        exact Nat.add_le_add_right hl2 1
    walk_at "rd"
    refine s_eq rfl ?_
    walk_at "rd"
    refine br (fun c0 => ?_) (fun c0 => ?_)
    · refine iteT ?_
      exact put (.inl (by have := V.int.inj c0; omega))
    · have i0 : i ≠ 0 := fun e => c0 (by rw [e]; rfl)
      walk_at "rd"
      refine s_ixL hST (at_of (j := i - 1) (v := .int (ns.getD (i - 1) 0)) (by omega) (by rw [List.getElem?_map, List.getElem?_eq_getElem (show i - 1 < ns.length by omega), List.getD_eq_getElem?_getD, List.getElem?_eq_getElem (show i - 1 < ns.length by omega)]; rfl)) ?_
      refine s_ne rfl ?_
      walk_at "rd"
      refine brN (fun c1 => ?_) (fun c1 => ?_)
      · exact put (.inr fun e => c1 (by rw [e]))
      · walk_at "rd"
        refine ⟨_, _, xs, rfl, smT, eqT, ?_, by omega⟩
        rw [show packTo ns (i + 1) = packTo ns i from by show _ ++ (if _ then _ else _) = _; rw [if_neg (by rintro (z | z); exact i0 z; exact z (V.int.inj c1)), List.append_nil]]
        exact dpT
  · rintro σ H' ⟨x, y, xs, rfl, sm, eq, dp, hl2⟩
    walk_at "rd"
    exact q H' r xs (sm.trans hid_same) nr eq dp
theorem ok_need {t_MOST : Tok} {c_BadTable : Addr} (D : DefAt K mg "need_table" s_need_table ["table", "many"]) (B : Blt mg) (C_MOST : mg "MOST" = some (.int 400 t_MOST)) (X_BadTable : ExcAt K mg "BadTable" c_BadTable) :
    OkF P w K mg base (L2.CX P w) 1 "need_table" ["table", "many"] (spNeed K c_BadTable) := by
  refine D.okX sc_need_table len2 (fun f cdv A outer s H vs Q E hr h => ?_)
  obtain ⟨_, _, rfl, tab, many, rfl, hT, hl, qg, qb⟩ := h
  obtain ⟨a, xs, rfl, hS, hD⟩ := Dp.tab_of hT
  have hxl : xs.length = tab.length := by rw [DpAll.length hD, List.length_map]
  refine ⟨_, (pss_cons (ps_if (PW.pt (pw_or (pt_not (pt_chain o_le o_le pe_int (pv 1) (pe_glob (v := .int 400) (by rfl) C_MOST ⟨_, rfl⟩))) (pw_or (pt_cmpR (o_eq (K := K) hr.units) (pe_callB (u_len (K := K)) (by rfl) B.len (by decide +kernel) (pa_cons (pv 0) pa_nil)) pe_int (nomark _)) (pw_or1 (pt_cmpR (o_ne (K := K) hr.units) (pe_ix (u_ix (K := K)) (pe_ix (u_ix (K := K)) (pv 0) pe_int (fun _ _ => rfl)) pe_int (fun _ _ => rfl)) pe_int (nomark _)))))) (pss_one (ps_raise rfl (takes_of rfl rfl rfl rfl) (u_exc X_BadTable))) pss_nil)
    (pss_one (ps_for (passes_of rfl) (by rfl) (u_enum (K := K) B.enumerate (pa_cons (pv 0) pa_nil)) (u_tup (K := K) rfl (pgs_cons (pg_name (i := 2) sc_need_table.nd rfl (by first | exact .inl rfl | exact .inr rfl)) (pgs_cons (u_tup (K := K) rfl (pgs_cons (pg_name (i := 3) sc_need_table.nd rfl (by first | exact .inl rfl | exact .inr rfl)) (pgs_cons (pg_name (i := 4) sc_need_table.nd rfl (by first | exact .inl rfl | exact .inr rfl)) pgs_nil))) pgs_nil))) (pss_cons (ps_if (PW.pt (pw_or (pt_cmpR o_lt (pv 4) pe_int (nomark _)) (pw_or1 (pt_cmpR o_ge (pv 3) (pv 1) (nomark _))))) (pss_one (ps_raise rfl (takes_of rfl rfl rfl rfl) (u_exc X_BadTable))) pss_nil)
    (pss_one (ps_if (PW.pt (pw_and (pt_cmpR o_gt (pv 2) pe_int (nomark _)) (pw_and1 (PW.pt (pw_or (pt_cmpR o_le (pv 3) (pe_ix (u_ix (K := K)) (pe_ix (u_ix (K := K)) (pv 0) (pe_op o_sub (pv 2) pe_int) (fun _ _ => rfl)) pe_int (fun _ _ => rfl)) (nomark _)) (pw_or1 (pt_cmpR (o_eq (K := K) hr.units) (pv 4) (pe_ix (u_ix (K := K)) (pe_ix (u_ix (K := K)) (pv 0) (pe_op o_sub (pv 2) pe_int) (fun _ _ => rfl)) pe_int (fun _ _ => rfl)) (nomark _)))))))) (pss_one (ps_raise rfl (takes_of rfl rfl rfl rfl) (u_exc X_BadTable))) pss_nil)))))), ?_⟩
  refine s_start (σ' := [some (.ref a), some (.int many), none, none, none]) rfl ?_
  walk_at "rd"
  have bad0 : ¬ Good tab many → ∀ (DD : Ends) (σ : St), (fun (_ : Ends) (_ : St) (H : Hp) => E (.ref c_BadTable) none H) DD σ H := fun ng _ _ => qb ng H (Same.refl _)
  have loop : 1 ≤ many → many ≤ 400 → 0 < tab.length → rowAt tab 0 = 0 → forB (Ite K a) (gTup K 2 (gCons (gName 2) (gCons (gTup K 2 (gCons (gName 3) (gCons (gName 4) gNil))) gNil)))
      (tSeq (tIfS (tOr (tTest (tOp rLtU (tVar 4) (tC (.int 0)))) (tTest (tOp rGeU (tVar 3) (tVar 1)))) (fun _ σ H => E (.ref c_BadTable) none H) tNext)
        (tIfS (tAnd (tTest (tOp rGtU (tVar 2) (tC (.int 0)))) (tOr (tTest (tOp rLeU (tVar 3) (tOp (rIx K) (tOp (rIx K) (tVar 0) (tOp rSubU (tVar 2) (tC (.int 1)))) (tC (.int 0))))) (tTest (tOp (rEqU K) (tVar 4) (tOp (rIx K) (tOp (rIx K) (tVar 0) (tOp rSubU (tVar 2) (tC (.int 1)))) (tC (.int 1))))))) (fun _ σ H => E (.ref c_BadTable) none H) tNext))
      ⟨fun _ H' => Q .non H', Q, fun _ _ => False, fun _ _ => False⟩ [some (.ref a), some (.int many), none, none, none] H := by
    intro m1 m2 l0 r0
    refine forB_of tab.length (fun i σ H' => ∃ x y z, σ = [some (.ref a), some (.int many), x, y, z] ∧ Same H H' ∧ ∀ j, j < i → GoodAt tab many j) ⟨none, none, none, rfl, Same.refl _, fun j hj => nomatch hj⟩ ?_ ?_ ?_ ?_
    · rintro i σ H' hi ⟨x, y, z, rfl, sm, _⟩
      exact ⟨xs, xs[i], sm.seq hS, List.getElem?_eq_getElem _⟩
    · rintro σ H' ⟨x, y, z, rfl, sm, _⟩
      exact ⟨xs, sm.seq hS, by omega⟩
    · rintro i σ H' v _ hi ⟨x, y, z, rfl, sm, gd⟩ ⟨T, u, rfl, nT, rfl, hu⟩
      have hx := hu xs (sm.seq hS)
      obtain ⟨b, rfl, hb⟩ := DpAll.pair hD hx
      have sT := sm.trans (same_upd (o := .tup [.int (i : Nat), .ref b]) nT)
      have eT : SqT K (upd H' T (.tup [.int (i : Nat), .ref b])) T [.int (i : Nat), .ref b] := SqT.of upd_same
      generalize upd H' T (.tup [.int (i : Nat), .ref b]) = H2 at sT eT ⊢
      refine s_gTup eT rfl (s_gCons (s_gName (s_gCons (s_gTup (Same.sqT sT hb) rfl (s_gCons (s_gName (s_gCons (s_gName (s_gNil (s_gNil ?_)))))) ))))
      have stop : ¬ GoodAt tab many i → E (.ref c_BadTable) none H2 := fun ng => qb (fun g => ng (g.2.2.2.2 i hi)) H2 sT
      walk_at "rd"
      refine br (fun c1 => ?_) (fun c1 => ?_)
      · refine iteT ?_
        exact stop fun g => absurd g.1 (by omega)
      walk_at "rd"
      refine br (fun c2 => ?_) (fun c2 => ?_)
      · exact stop fun g => absurd g.2.1 (by omega)
      walk_at "rd"
      refine br (fun c3 => ?_) (fun c3 => ?_)
      · have hj : i - 1 < xs.length := by omega
        obtain ⟨b1, eb1, hb1⟩ := DpAll.pair hD (List.getElem?_eq_getElem hj)
        have e1 : atI xs ((i : Int) - 1) = some (.ref b1) := at_of (j := i - 1) (by omega) (by rw [List.getElem?_eq_getElem hj, eb1])
        walk_at "rd"
        refine s_ixL (sT.seq hS) e1 ?_
        walk_at "rd"
        refine s_ixT (Same.sqT sT hb1) rfl ?_
        walk_at "rd"
        refine br (fun c4 => ?_) (fun c4 => ?_)
        · refine iteT ?_
          exact stop fun g => by
            rcases g.2.2 with z | ⟨z, _⟩ <;> omega
        walk_at "rd"
        refine s_ixL (sT.seq hS) e1 ?_
        walk_at "rd"
        refine s_ixT (Same.sqT sT hb1) rfl ?_
        refine s_eq rfl ?_
        walk_at "rd"
        refine br (fun c5 => ?_) (fun c5 => ?_)
        · exact stop fun g => by
            rcases g.2.2 with z | ⟨_, z⟩
            · omega
            · exact z (V.int.inj c5)
        walk_at "rd"
        refine ⟨_, _, _, rfl, sT, fun j hj => ?_⟩
        by_cases hji : j < i
        · exact gd j hji
        · have : j = i := by omega
          subst this
          exact ⟨by omega, by omega, .inr ⟨by omega, fun z => c5 (by rw [z])⟩⟩
      · refine iteF ?_
        walk_at "rd"
        refine ⟨_, _, _, rfl, sT, fun j hj => ?_⟩
        by_cases hji : j < i
        · exact gd j hji
        · have : j = i := by omega
          subst this
          exact ⟨by omega, by omega, .inl (by omega)⟩
    · rintro σ H' ⟨x, y, z, rfl, sm, gd⟩
      exact qg ⟨m1, m2, l0, r0, gd⟩ H' sm
  refine br (fun c1 => ?_) (fun c1 => ?_)
  · walk_at "rd"
    refine brB (fun c2 => ?_) (fun c2 => ?_)
    · refine iteT ?_
      exact bad0 (fun g => absurd c2 (by rw [decide_eq_true g.2.1]; decide)) ⟨fun _ _ => False, Q, fun _ _ => False, fun _ _ => False⟩ []
    have m2 : many ≤ 400 := by
      by_cases h : many ≤ 400
      · exact h
      · rw [decide_eq_false h] at c2
        exact absurd c2 (by decide)
    walk_at "rd"
    refine s_lenL hS ?_
    walk_at "rd"
    refine s_eq rfl ?_
    walk_at "rd"
    refine br (fun c3 => ?_) (fun c3 => ?_)
    · refine iteT ?_
      exact bad0 (fun g => absurd g.2.2.1 (by have := V.int.inj c3; omega)) ⟨fun _ _ => False, Q, fun _ _ => False, fun _ _ => False⟩ []
    have l0 : 0 < tab.length := by
      rcases Nat.eq_zero_or_pos tab.length with z | z
      · exact absurd (by rw [hxl, z]; rfl) c3
      · exact z
    obtain ⟨b1, eb1, hb1⟩ := DpAll.pair hD (List.getElem?_eq_getElem (show 0 < xs.length by omega))
    walk_at "rd"
    refine s_ixL hS (at_of (j := 0) rfl (by rw [List.getElem?_eq_getElem (show 0 < xs.length by omega), eb1])) ?_
    walk_at "rd"
    refine s_ixT hb1 rfl ?_
    walk_at "rd"
    refine s_ne rfl ?_
    walk_at "rd"
    refine brN (fun c4 => ?_) (fun c4 => ?_)
    · exact bad0 (fun g => c4 (by rw [g.2.2.2.1])) ⟨fun _ _ => False, Q, fun _ _ => False, fun _ _ => False⟩ []
    walk_at "rd"
    refine s_enumL hS ?_
    exact loop c1 m2 l0 (V.int.inj c4)
  · refine s_bl ?_
    refine iteT ?_
    refine iteT ?_
    exact bad0 (fun g => c1 g.1) ⟨fun _ _ => False, Q, fun _ _ => False, fun _ _ => False⟩ []
theorem ok_unpacked {c_BadTable : Addr} (D : DefAt K mg "unpacked" s_unpacked ["table", "many"]) (B : Blt mg) (G_need_table : OkF P w K mg base (L2.CX P w) 1 "need_table" ["table", "many"] (spNeed K c_BadTable)) :
    OkF P w K mg base (L2.CX P w) 2 "unpacked" ["table", "many"] (spUnpacked K c_BadTable) := by
  refine D.okX sc_unpacked len2 (fun f cdv A outer s H vs Q E hr h => ?_)
  obtain ⟨_, _, rfl, tab, many, rfl, hT, hl, qg, qb⟩ := h
  obtain ⟨a, xs, rfl, hS, hD⟩ := Dp.tab_of hT
  have hxl : xs.length = tab.length := by rw [DpAll.length hD, List.length_map]
  refine ⟨_, (pss_cons (ps_expr (u_call G_need_table (hr.mono (by omega)) (passes_call (takes_of rfl rfl rfl rfl) (fun _ _ _ _ h => h)) (pa_cons (pv 0) (pa_cons (pv 1) pa_nil))))
    (pss_cons (ps_set (i := 2) sc_unpacked.nd rfl (by first | exact .inl rfl | exact .inr rfl) (pe_lst pa_nil))
    (pss_cons (ps_for (passes_of rfl) (by rfl) (u_enum (K := K) B.enumerate (pa_cons (pv 0) pa_nil)) (u_tup (K := K) rfl (pgs_cons (pg_name (i := 3) sc_unpacked.nd rfl (by first | exact .inl rfl | exact .inr rfl)) (pgs_cons (u_tup (K := K) rfl (pgs_cons (pg_name (i := 4) sc_unpacked.nd rfl (by first | exact .inl rfl | exact .inr rfl)) (pgs_cons (pg_name (i := 5) sc_unpacked.nd rfl (by first | exact .inl rfl | exact .inr rfl)) pgs_nil))) pgs_nil))) (pss_cons (ps_set (i := 6) sc_unpacked.nd rfl (by first | exact .inl rfl | exact .inr rfl) (pe_ifExp (pt_cmpR o_lt (pe_op (o_add (K := K)) (pv 3) pe_int) (pe_callB (u_len (K := K)) (by rfl) B.len (by decide +kernel) (pa_cons (pv 0) pa_nil)) (nomark _)) (pe_ix (u_ix (K := K)) (pe_ix (u_ix (K := K)) (pv 0) (pe_op (o_add (K := K)) (pv 3) pe_int) (fun _ _ => rfl)) pe_int (fun _ _ => rfl)) (pv 1)))
    (pss_one (ps_aug (i := 2) sc_unpacked.nd rfl (by first | exact .inl rfl | exact .inr rfl) (pe_op o_mul (pe_lst (pa_cons (pv 5) pa_nil)) (pe_op o_sub (pv 6) (pv 4))) ip_addU))))
    (pss_one (ps_ret (pv 2)))))), ?_⟩
  refine s_start (σ' := [some (.ref a), some (.int many), none, none, none, none, none]) rfl ?_
  walk_at "rd"
  refine ⟨tab, many, rfl, hT, hl, fun g H1 s1 => ?_, fun ng H1 s1 => qb ng H1 s1⟩
  walk_at "rd"
  refine ⟨sz rfl, fun r nr => ?_⟩
  walk_at "rd"
  have hlen := unpackL_len0 g
  have m4 := g.2.1
  have n0 : H r = none := s1.free nr
  have h0 : Same H (hid [r] (upd H1 r (.lst []))) := by
    rw [hid_up List.mem_cons_self, hid_new nr, hid_nil]
    exact s1
  have e0 : upd H1 r (.lst []) r = some (.lst []) := upd_same
  generalize upd H1 r (.lst []) = H2 at h0 e0 ⊢
  refine s_enumL (hid_same.seq (h0.seq hS)) ?_
  refine forB_of tab.length (fun i σ H' => ∃ x y z u ys, σ = [some (.ref a), some (.int many), some (.ref r), x, y, z, u] ∧ Same H (hid [r] H') ∧ H' r = some (.lst (ys.map V.int)) ∧ ys ++ unpackL (tab.drop i) many = unpackL tab many) ⟨none, none, none, none, [], rfl, h0, e0, rfl⟩ ?_ ?_ ?_ ?_
  · rintro i σ H' hi ⟨x, y, z, u, ys, rfl, sm, _⟩
    exact ⟨xs, xs[i], hid_same.seq (sm.seq hS), List.getElem?_eq_getElem _⟩
  · rintro σ H' ⟨x, y, z, u, ys, rfl, sm, _⟩
    exact ⟨xs, hid_same.seq (sm.seq hS), by omega⟩
  · rintro i σ H' v _ hi ⟨x, y, z, u, ys, rfl, sm, er, ey⟩ ⟨T, u2, rfl, nT, rfl, hu⟩
    have hx := hu xs (hid_same.seq (sm.seq hS))
    obtain ⟨b, rfl, hb⟩ := DpAll.pair hD hx
    have sT0 := same_upd (o := .tup [.int (i : Nat), .ref b]) nT
    have sT : Same H (hid [r] (upd H' T (.tup [.int (i : Nat), .ref b]))) := sm.trans (Same.hid sT0)
    have eT : SqT K (upd H' T (.tup [.int (i : Nat), .ref b])) T [.int (i : Nat), .ref b] := SqT.of upd_same
    have er2 := sT0 _ _ er
    generalize upd H' T (.tup [.int (i : Nat), .ref b]) = H3 at sT eT er2 ⊢
    have sT2 : Same H H3 := sT.trans hid_same
    refine s_gTup eT rfl (s_gCons (s_gName (s_gCons (s_gTup (Same.sqT sT2 hb) rfl (s_gCons (s_gName (s_gCons (s_gName (s_gNil (s_gNil ?_)))))) ))))
    have hys : ys.length ≤ 400 := by
      have := congrArg List.length ey
      rw [List.length_append] at this
      omega
    have ud := unpackL_drop tab many hi
    have r1 := g.row i hi
    have fin : ∀ (be : Int) (bv : Option V), be = (if i + 1 < tab.length then rowAt tab (i + 1) else many) → (tAug 2 (tOp rMulU (tLst (tCons (tVar 5) tNil)) (tOp rSubU (tVar 6) (tVar 4))) ipU)
        ⟨fun σ H' => ∃ x y z u ys, σ = [some (.ref a), some (.int many), some (.ref r), x, y, z, u] ∧ Same H (hid [r] H') ∧ H' r = some (.lst (ys.map V.int)) ∧ ys ++ unpackL (tab.drop (i + 1)) many = unpackL tab many, Q, tRet (tVar 2) { nx := fun _ H' => Q V.non H', rt := Q },
         fun σ H' => ∃ x y z u ys, σ = [some (.ref a), some (.int many), some (.ref r), x, y, z, u] ∧ Same H (hid [r] H') ∧ H' r = some (.lst (ys.map V.int)) ∧ ys ++ unpackL (tab.drop (i + 1)) many = unpackL tab many⟩
        [some (.ref a), some (.int many), some (.ref r), some (.int (i : Nat)), some (.int (rowAt tab i)), some (.int (lineAt tab i)), some (.int be)] H3 := by
      intro be bv ebe
      have hbe : rowAt tab i ≤ be ∧ be ≤ 400 := by
        rw [ebe]
        by_cases h2 : i + 1 < tab.length
        · rw [if_pos h2]
          have := g.rising h2
          have := g.row (i + 1) h2
          omega
        · rw [if_neg h2]
          omega
      walk_at "rd"
      refine ⟨sz rfl, fun l4 n4 => ?_⟩
      have s4 := same_upd (o := .lst [.int (lineAt tab i)]) n4
      walk_at "rd"
      refine s_rep upd_same (by omega) (by omega) (sz_of (by show 1 * _ ≤ 1000; omega)) fun l5 n5 => ?_
      rw [flat_rep]
      have s5 := same_upd (o := .lst (List.replicate (be - rowAt tab i).toNat (V.int (lineAt tab i)))) n5
      have n45 : r ≠ l5 := ne_of_none (s4 _ _ er2) n5
      refine s_ipL (s5 _ _ (s4 _ _ er2)) upd_same (sz_of (by rw [List.length_map, List.length_replicate]; omega)) ?_
      walk_at "rd"
      refine ⟨_, _, _, _, ys ++ List.replicate (be - rowAt tab i).toNat (lineAt tab i), rfl, ?_, ?_, ?_⟩
      · rw [hid_up List.mem_cons_self]
        exact sT.trans (Same.hid (s4.trans s5))
      · rw [upd_same, List.map_append, List.map_replicate]
      · rw [List.append_assoc, ebe, ← ud]
        exact ey
    walk_at "rd"
    refine s_lenL (sT2.seq hS) ?_
    walk_at "rd"
    rw [hxl]
    refine br (fun c1 => ?_) (fun c1 => ?_)
    · have hj : i + 1 < xs.length := by omega
      obtain ⟨b1, eb1, hb1⟩ := DpAll.pair hD (List.getElem?_eq_getElem hj)
      walk_at "rd"
      refine s_ixL (sT2.seq hS) (at_of (j := i + 1) (by omega) (by rw [List.getElem?_eq_getElem hj, eb1])) ?_
      walk_at "rd"
      refine s_ixT (Same.sqT sT2 hb1) rfl ?_
      with_reducible refine s_gName ?_
      with_reducible refine s_nx ?_
      exact fin _ none (by rw [if_pos (by omega)])
    · with_reducible refine s_var (by with_unfolding_all exact rfl) ?_
      with_reducible refine s_gName ?_
      with_reducible refine s_nx ?_
      exact fin _ none (by rw [if_neg (by omega)])
  · rintro σ H' ⟨x, y, z, u, ys, rfl, sm, er, ey⟩
    walk_at "rd"
    rw [List.drop_length, show unpackL [] many = [] from rfl, List.append_nil] at ey
    exact qg g H' r (sm.trans hid_same) n0 (by rw [er, ey])
theorem ok_line_at {c_BadTable c_BadPlace : Addr} (D : DefAt K mg "line_at" s_line_at ["table", "many", "row"]) (B : Blt mg) (X_BadPlace : ExcAt K mg "BadPlace" c_BadPlace) (G_need_table : OkF P w K mg base (L2.CX P w) 1 "need_table" ["table", "many"] (spNeed K c_BadTable)) :
    OkF P w K mg base (L2.CX P w) 2 "line_at" ["table", "many", "row"] (spLineAt K c_BadTable c_BadPlace) := by
  refine D.okX sc_line_at len3 (fun f cdv A outer s H vs Q E hr h => ?_)
  obtain ⟨_, _, _, rfl, tab, many, row, rfl, rfl, hT, hl, qg, qb, qp⟩ := h
  obtain ⟨a, xs, rfl, hS, hD⟩ := Dp.tab_of hT
  have hxl : xs.length = tab.length := by rw [DpAll.length hD, List.length_map]
  refine ⟨_, (pss_cons (ps_expr (u_call G_need_table (hr.mono (by omega)) (passes_call (takes_of rfl rfl rfl rfl) (fun _ _ _ _ h => h)) (pa_cons (pv 0) (pa_cons (pv 1) pa_nil))))
    (pss_cons (ps_if (pt_not (pt_chain o_le o_lt pe_int (pv 2) (pv 1))) (pss_one (ps_raise rfl (takes_of rfl rfl rfl rfl) (u_exc X_BadPlace))) pss_nil)
    (pss_cons (ps_set (i := 3) sc_line_at.nd rfl (by first | exact .inl rfl | exact .inr rfl) pe_int)
    (pss_cons (ps_set (i := 4) sc_line_at.nd rfl (by first | exact .inl rfl | exact .inr rfl) (pe_callB (u_len (K := K)) (by rfl) B.len (by decide +kernel) (pa_cons (pv 0) pa_nil)))
    (pss_cons (ps_while (passes_of rfl) (pt_cmpR o_gt (pe_op o_sub (pv 4) (pv 3)) pe_int (nomark _)) (pss_cons (ps_set (i := 5) sc_line_at.nd rfl (by first | exact .inl rfl | exact .inr rfl) (pe_op o_div (pe_op (o_add (K := K)) (pv 3) (pv 4)) pe_int))
    (pss_one (ps_if (pt_cmpR o_le (pe_ix (u_ix (K := K)) (pe_ix (u_ix (K := K)) (pv 0) (pv 5) (fun _ _ => rfl)) pe_int (fun _ _ => rfl)) (pv 2) (nomark _)) (pss_one (ps_set (i := 3) sc_line_at.nd rfl (by first | exact .inl rfl | exact .inr rfl) (pv 5))) (pss_one (ps_set (i := 4) sc_line_at.nd rfl (by first | exact .inl rfl | exact .inr rfl) (pv 5)))))))
    (pss_one (ps_ret (pe_ix (u_ix (K := K)) (pe_ix (u_ix (K := K)) (pv 0) (pv 3) (fun _ _ => rfl)) pe_int (fun _ _ => rfl))))))))), ?_⟩
  refine s_start (σ' := [some (.ref a), some (.int many), some (.int row), none, none, none]) rfl ?_
  walk_at "rd"
  refine ⟨tab, many, rfl, hT, hl, fun g H1 s1 => ?_, fun ng H1 s1 => qb ng H1 s1⟩
  walk_at "rd"
  have hS1 := s1.seq hS
  have main : 0 ≤ row → row < many → tSeq (tAsg (tC (.int 0)) (gName 3)) (tSeq (tAsg (tCB (fun xs H Q => ∃ x n, xs = [x] ∧ LenV K x H n ∧ Q (.int ↑n) H) (tCons (tVar 0) tNil)) (gName 4))
      (tSeq (tWhile (tTest (tOp rGtU (tOp rSubU (tVar 4) (tVar 3)) (tC (.int 1)))) (tSeq (tAsg (tOp rDivU (tOp (rAddU K) (tVar 3) (tVar 4)) (tC (.int 2))) (gName 5))
          (tIfS (tTest (tOp rLeU (tOp (rIx K) (tOp (rIx K) (tVar 0) (tVar 5)) (tC (.int 0))) (tVar 2))) (tAsg (tVar 5) (gName 3)) (tAsg (tVar 5) (gName 4)))))
        (tRet (tOp (rIx K) (tOp (rIx K) (tVar 0) (tVar 3)) (tC (.int 1)))))) ⟨fun _ H' => Q .non H', Q, fun _ _ => False, fun _ _ => False⟩ [some (.ref a), some (.int many), some (.int row), none, none, none] H1 := by
    intro r0 r1
    walk_at "rd"
    refine s_lenL hS1 ?_
    rw [hxl]
    walk_at "rd"
    refine s_while (fun m σ H' => ∃ (lo hi : Nat) (z : Option V), σ = [some (.ref a), some (.int many), some (.int row), some (.int lo), some (.int hi), z] ∧ Same H H' ∧ m = hi - lo ∧ lo < hi ∧ hi ≤ tab.length ∧ rowAt tab lo ≤ row ∧ (hi < tab.length → row < rowAt tab hi)) tab.length
      ⟨0, tab.length, none, rfl, s1, rfl, g.2.2.1, Nat.le_refl _, by rw [g.2.2.2.1]; exact r0, fun h => absurd h (Nat.lt_irrefl _)⟩ ?_
    rintro m σ H2 ⟨lo, hi, z, rfl, s2, rfl, h1, h2, h3, h4⟩
    walk_at "rd"
    refine br (fun c1 => ?_) (fun c1 => ?_)
    · refine WhB.mk ?_
      walk_at "rd"
      refine s_div ⟨by decide, by decide⟩ ?_
      obtain ⟨mi, emi, m1, m2⟩ : ∃ mi : Nat, ((lo : Int) + hi).fdiv 2 = (mi : Nat) ∧ lo < mi ∧ mi < hi := by
        refine ⟨(lo + hi) / 2, ?_, by omega, by omega⟩
        rw [Int.fdiv_eq_ediv_of_nonneg _ (by decide)]
        omega
      rw [emi]
      walk_at "rd"
      obtain ⟨b, eb, hb⟩ := DpAll.pair hD (List.getElem?_eq_getElem (show mi < xs.length by omega))
      refine s_ixL (s2.seq hS) (atI_nat (by rw [List.getElem?_eq_getElem (show mi < xs.length by omega), eb])) ?_
      walk_at "rd"
      refine s_ixT (Same.sqT s2 hb) rfl ?_
      walk_at "rd"
      refine br (fun c2 => ?_) (fun c2 => ?_)
      · walk_at "rd"
        exact ⟨hi - mi, by omega, mi, hi, _, rfl, s2, rfl, m2, h2, c2, h4⟩
      · walk_at "rd"
        exact ⟨mi - lo, by omega, lo, mi, _, rfl, s2, rfl, m1, by omega, h3, fun _ => by omega⟩
    · walk_at "rd"
      have hlo : lo < tab.length := by omega
      obtain ⟨b, eb, hb⟩ := DpAll.pair hD (List.getElem?_eq_getElem (show lo < xs.length by omega))
      refine s_ixL (s2.seq hS) (atI_nat (by rw [List.getElem?_eq_getElem (show lo < xs.length by omega), eb])) ?_
      walk_at "rd"
      refine s_ixT (Same.sqT s2 hb) rfl ?_
      refine qg g _ _ s2 r0 r1 (unpackL_at g hlo h3 ?_)
      by_cases h5 : lo + 1 < tab.length
      · rw [if_pos h5]
        have : hi = lo + 1 := by omega
        subst this
        exact h4 h5
      · rw [if_neg h5]
        exact r1
  refine br (fun c1 => ?_) (fun c1 => ?_)
  · walk_at "rd"
    refine brB (fun c2 => ?_) (fun c2 => ?_)
    · exact qp g (fun z => by rw [decide_eq_true z.2] at c2; exact absurd c2 (by decide)) _ s1
    · with_reducible refine s_next ?_
      with_reducible refine s_nx ?_
      refine main c1 ?_
      by_cases h : row < many
      · exact h
      · rw [decide_eq_false h] at c2
        exact absurd c2 (by decide)
  · refine s_bl ?_
    refine iteT ?_
    exact qp g (fun z => c1 z.1) _ s1
theorem ok_rows_of {c_BadTable : Addr} (D : DefAt K mg "rows_of" s_rows_of ["table", "many", "line"]) (B : Blt mg) (G_unpacked : OkF P w K mg base (L2.CX P w) 2 "unpacked" ["table", "many"] (spUnpacked K c_BadTable)) :
    OkF P w K mg base (L2.CX P w) 3 "rows_of" ["table", "many", "line"] (spRowsOf K c_BadTable) := by
  refine D.okX sc_rows_of len3 (fun f cdv A outer s H vs Q E hr h => ?_)
  obtain ⟨_, _, _, rfl, tab, many, line, rfl, rfl, hT, hl, qg, qb⟩ := h
  refine ⟨_, (pss_one (ps_ret (pe_lc (own := [("row", 3), ("own", 4)]) (g := (gTup K 2 (gCons (gName 3) (gCons (gName 4) gNil)))) rfl sc_rows_of.nd (u_enum (K := K) B.enumerate (pa_cons (u_call G_unpacked (hr.mono (by omega)) (passes_call (takes_of rfl rfl rfl rfl) (fun _ _ _ _ h => h)) (pa_cons (pv 0) (pa_cons (pv 1) pa_nil))) pa_nil)) (blkOk_by (N := ["table", "many", "line", "row", "own"]) (sc := defScope s_rows_of) (own := [("row", 3), ("own", 4)]) (by decide +kernel)) (fun _ _ _ _ _ => (u_tup (K := K) rfl (pgs_cons (pg_name (i := 3) sc_rows_of.nd rfl (by first | exact .inl rfl | exact .inr rfl)) (pgs_cons (pg_name (i := 4) sc_rows_of.nd rfl (by first | exact .inl rfl | exact .inr rfl)) pgs_nil)))) (fun _ _ _ _ _ => (pts_one (pt_cmpR (o_eq (K := K) hr.units) (pv 4) (pv 2) (nomark _)))) (fun _ _ _ _ _ => (pv 3))))), ?_⟩
  obtain ⟨a, xs, rfl, _, _⟩ := Dp.tab_of hT
  refine s_start (σ' := [some (.ref a), some (.int many), some (.int line), none, none]) rfl ?_
  walk_at "rd"
  refine ⟨tab, many, rfl, hT, hl, fun g H1 u s1 nu eu => ?_, fun ng H1 s1 => qb ng H1 s1⟩
  walk_at "rd"
  refine s_enumL (SqL.of eu) ?_
  have hlen := unpackL_len0 g
  have m4 := g.2.1
  generalize hU : unpackL tab many = ls at eu qg hlen
  refine lcB_of ls.length (fun D i acc H' => Same H1 (hid [D] H') ∧ acc = (rowsOf ls line i).map V.int)
    (fun D hD => ⟨by rw [hid_up List.mem_cons_self, hid_new hD, hid_nil]; exact Same.refl _, rfl⟩)
    (fun D i acc H' hD hi hS => ⟨ls.map V.int, .int ls[i], hid_same.seq (hS.1.seq (SqL.of eu)), by rw [List.getElem?_map, List.getElem?_eq_getElem hi]; rfl⟩)
    (fun D acc H' hD hS => ⟨ls.map V.int, hid_same.seq (hS.1.seq (SqL.of eu)), by rw [List.length_map]; exact Nat.le_refl _⟩) ?_ ?_
  · rintro D i acc H' v _ hD hi ha hla ⟨sm, ea⟩ ⟨T, z, rfl, nT, rfl, hz⟩
    have hz' : z = .int (ls.getD i 0) := by
      have e := hz _ (hid_same.seq (sm.seq (SqL.of eu)))
      rw [List.getElem?_map, List.getElem?_eq_getElem hi] at e
      rw [List.getD_eq_getElem?_getD, List.getElem?_eq_getElem hi]
      exact (Option.some.inj e).symm
    subst hz'
    have sT := same_upd (o := .tup [.int (i : Nat), .int (ls.getD i 0)]) nT
    refine s_gTup (SqT.of upd_same) rfl (s_gCons (s_gName (s_gCons (s_gName (s_gNil ⟨rfl, ?_⟩)))))
    walk_at "rd"
    refine s_eq rfl ?_
    walk_at "rd"
    refine br (fun c1 => ?_) (fun c1 => ?_)
    · walk_at "rd"
      refine LcPost.mk (sT _ _ ha) hla (by omega) ⟨?_, ?_⟩
      · rw [hid_up List.mem_cons_self]
        exact sm.trans (Same.hid sT)
      · rw [ea, show rowsOf ls line (i + 1) = rowsOf ls line i ++ [(i : Int)] from by show _ ++ (if _ then _ else _) = _; rw [if_pos (V.int.inj c1)], List.map_append]
        rfl
    · refine LcSkip.mk (sT _ _ ha) hla ⟨sm.trans (Same.hid sT), ?_⟩
      rw [ea, show rowsOf ls line (i + 1) = rowsOf ls line i from by show _ ++ (if _ then _ else _) = _; rw [if_neg (fun z => c1 (by rw [z])), List.append_nil]]
  · rintro D acc H' hD ha hla ⟨sm, ea⟩
    rw [ea] at ha
    exact qg g H' D ((s1.trans sm).trans hid_same) (s1.free hD) ha
theorem ok_take (D : DefAt K mg "_law_take" s_law_take ["_law_draw", "_law_sides"]) (B : Blt mg) : OkF P w K mg base CX0 1 "_law_take" ["_law_draw", "_law_sides"] spTake := by
  refine D.ok sc_law_take len2 (fun f cdv A outer s H vs Q E hr h => ?_)
  obtain ⟨_, _, rfl, p, a, n, rfl, rfl, n0, n1, ⟨ns, c, h, t, e, hS, ap, hl, c0, h0, t0, t1⟩, q⟩ := h
  refine ⟨_, (pss_cons (ps_if (PW.pt (pw_and (pt_cmpR o_lt (pe_ix (u_ix (K := K)) (pv 0) pe_int (fun _ _ => rfl)) (pv 1) (nomark _)) (pw_and1 (pt_cmpR o_lt (pe_ix (u_ix (K := K)) (pv 0) pe_int (fun _ _ => rfl)) (pe_callB (u_len (K := K)) (by rfl) B.len (by decide +kernel) (pa_cons (pe_ix (u_ix (K := K)) (pv 0) pe_int (fun _ _ => rfl)) pa_nil)) (nomark _))))) (pss_cons (ps_set (i := 2) sc_law_take.nd rfl (by first | exact .inl rfl | exact .inr rfl) (pe_ix (u_ix (K := K)) (pe_ix (u_ix (K := K)) (pv 0) pe_int (fun _ _ => rfl)) (pe_ix (u_ix (K := K)) (pv 0) pe_int (fun _ _ => rfl)) (fun _ _ => rfl)))
    (pss_cons (ps_asg (pe_op (o_add (K := K)) (pe_ix (u_ix (K := K)) (pv 0) pe_int (fun _ _ => rfl)) pe_int) (pg_sub (pv 0) pe_int set_list))
    (pss_cons (ps_asg pe_int (pg_sub (pv 0) pe_int set_list))
    (pss_one (ps_if (pt_cmpR o_ge (pe_callB call_abs (by rfl) B.abs (by decide +kernel) (pa_cons (pv 2) pa_nil)) (pe_op o_pow pe_int pe_int) (nomark _)) (pss_one (ps_asg (pe_callB call_abs (by rfl) B.abs (by decide +kernel) (pa_cons (pv 2) pa_nil)) (pg_sub (pv 0) pe_int set_list))) (pss_one (ps_asg (pe_op o_mod (pe_op (o_add (K := K)) (pe_op (o_add (K := K)) (pe_op o_mul (pe_ix (u_ix (K := K)) (pv 0) pe_int (fun _ _ => rfl)) pe_int) (pe_op o_mul (pe_op o_mod (pv 2) pe_int) pe_int)) pe_int) pe_int) (pg_sub (pv 0) pe_int set_list)))))))) pss_nil)
    (pss_cons (ps_if (pt_cmpR o_ge (pe_ix (u_ix (K := K)) (pv 0) pe_int (fun _ _ => rfl)) (pv 1) (nomark _)) (pss_cons (ps_set (i := 3) sc_law_take.nd rfl (by first | exact .inl rfl | exact .inr rfl) (pe_op o_mod (pe_ix (u_ix (K := K)) (pv 0) pe_int (fun _ _ => rfl)) (pv 1)))
    (pss_cons (ps_asg (pe_op o_div (pe_ix (u_ix (K := K)) (pv 0) pe_int (fun _ _ => rfl)) (pv 1)) (pg_sub (pv 0) pe_int set_list))
    (pss_one (ps_ret (pv 3))))) pss_nil)
    (pss_cons (ps_asg (pe_op o_mod (pe_op (o_add (K := K)) (pe_op (o_add (K := K)) (pe_op o_mul (pe_op o_mod (pe_op o_mul (pe_ix (u_ix (K := K)) (pv 0) pe_int (fun _ _ => rfl)) (pe_ix (u_ix (K := K)) (pv 0) pe_int (fun _ _ => rfl))) pe_int) pe_int) (pe_op o_mul (pe_ix (u_ix (K := K)) (pv 0) pe_int (fun _ _ => rfl)) pe_int)) pe_int) pe_int) (pg_sub (pv 0) pe_int set_list))
    (pss_one (ps_ret (pe_op o_mod (pe_op (o_add (K := K)) (pe_op o_div (pe_ix (u_ix (K := K)) (pv 0) pe_int (fun _ _ => rfl)) pe_int) (pe_op o_mul (pe_op o_mod (pe_ix (u_ix (K := K)) (pv 0) pe_int (fun _ _ => rfl)) pe_int) pe_int)) (pv 1))))))), ?_⟩
  refine s_start (σ' := [some (.ref p), some (.int n), none, none]) rfl ?_
  refine s_seqJ (fun σ' H' => ∃ x c h t, σ' = [some (.ref p), some (.int n), x, none] ∧ H' p = some (.lst [.ref a, .int c, .int h, .int t]) ∧ Keep p H H' ∧ 0 ≤ c ∧ 0 ≤ h ∧ 0 ≤ t ∧ t < 2147483647) (fun σ' H' hJ => ?_) (fun nx J => ?_)
  · obtain ⟨x, c, h, t, rfl, e, kp, c0, h0, t0, t1⟩ := hJ
    have fin : ∀ H'' c h t r, H'' p = some (.lst [.ref a, .int c, .int h, .int t]) → Keep p H' H'' → 0 ≤ c → 0 ≤ h → 0 ≤ t → t < 2147483647 → 0 ≤ r → r < n → Q (.int r) H'' := fun H'' c h t r e2 k2 a1 a2 a3 a4 r0 r1 =>
      q H'' r (kp.trans k2) ⟨ns, c, h, t, e2, (kp.trans k2) _ _ ap hS, ap, hl, a1, a2, a3, a4⟩ r0 r1
    walk_at "rd"
    refine s_ixL (SqL.of e) rfl ?_
    walk_at "rd"
    refine br (fun b1 => ?_) (fun b1 => ?_)
    · walk_at "rd"
      refine s_ixL (SqL.of e) rfl ?_
      walk_at "rd"
      refine s_mod (by omega) ?_
      walk_at "rd"
      refine s_ixL (SqL.of e) rfl ?_
      walk_at "rd"
      refine s_div ⟨by omega, by omega⟩ ?_
      walk_at "rd"
      refine s_setL e rfl ?_
      walk_at "rd"
      exact fin _ c (h.fdiv n) t _ upd_same Keep.upd c0 (Int.fdiv_nonneg h0 (by omega)) t0 t1 (Int.fmod_nonneg_of_pos _ n0) (Int.fmod_lt_of_pos _ n0)
    · walk_at "rd"
      refine s_ixL (SqL.of e) rfl ?_
      walk_at "rd"
      refine s_ixL (SqL.of e) rfl ?_
      refine s_mul (.inl ⟨by omega, by omega⟩) ?_
      walk_at "rd"
      refine s_mod (by decide) ?_
      walk_at "rd"
      have f1 := Int.fmod_nonneg_of_pos (t * t) (show (0 : Int) < 2147483629 by decide)
      have f2 := Int.fmod_lt_of_pos (t * t) (show (0 : Int) < 2147483629 by decide)
      refine s_mul (.inl ⟨by omega, by omega⟩) ?_
      walk_at "rd"
      refine s_ixL (SqL.of e) rfl ?_
      walk_at "rd"
      refine s_mul (.inl ⟨by omega, by omega⟩) ?_
      walk_at "rd"
      refine s_mod (by decide) ?_
      walk_at "rd"
      refine s_setL e rfl ?_
      walk_at "rd"
      have f3 := Int.fmod_nonneg_of_pos ((t * t).fmod 2147483629 * 5 + t * 16811 + 2531011) (show (0 : Int) < 2147483647 by decide)
      have f4 := Int.fmod_lt_of_pos ((t * t).fmod 2147483629 * 5 + t * 16811 + 2531011) (show (0 : Int) < 2147483647 by decide)
      generalize ((t * t).fmod 2147483629 * 5 + t * 16811 + 2531011).fmod 2147483647 = t' at f3 f4 ⊢
      refine s_ixL (SqL.of upd_same) rfl ?_
      walk_at "rd"
      refine s_div ⟨by decide, by decide⟩ ?_
      walk_at "rd"
      refine s_ixL (SqL.of upd_same) rfl ?_
      walk_at "rd"
      refine s_mod (by decide) ?_
      walk_at "rd"
      have f5 := Int.fmod_nonneg_of_pos t' (show (0 : Int) < 8191 by decide)
      have f6 := Int.fmod_lt_of_pos t' (show (0 : Int) < 8191 by decide)
      refine s_mul (.inl ⟨by omega, by omega⟩) ?_
      walk_at "rd"
      refine s_mod (by omega) ?_
      exact fin _ c h t' _ upd_same Keep.upd c0 h0 f3 f4 (Int.fmod_nonneg_of_pos _ n0) (Int.fmod_lt_of_pos _ n0)
  · have no := fun H' x c h t e1 e2 e3 e4 e5 e6 => J [some (.ref p), some (.int n), x, none] H' ⟨x, c, h, t, rfl, e1, e2, e3, e4, e5, e6⟩
    walk_at "rd"
    refine s_ixL (SqL.of e) rfl ?_
    walk_at "rd"
    refine br (fun b1 => ?_) (fun b1 => ?_)
    · walk_at "rd"
      refine s_ixL (SqL.of e) rfl ?_
      walk_at "rd"
      refine s_ixL (SqL.of e) rfl ?_
      walk_at "rd"
      refine s_lenL (SqL.of hS) ?_
      walk_at "rd"
      refine br (fun b2 => ?_) (fun b2 => ?_)
      · rw [List.length_map] at b2
        obtain ⟨cell, hc⟩ : ∃ z, ns[c.toNat]? = some z := ⟨_, List.getElem?_eq_getElem (show c.toNat < ns.length by omega)⟩
        have hc2 : atI (ns.map V.int) c = some (.int cell) := at_of (j := c.toNat) (by omega) (by rw [List.getElem?_map, hc]; rfl)
        walk_at "rd"
        refine s_ixL (SqL.of e) rfl ?_
        walk_at "rd"
        refine s_ixL (SqL.of e) rfl ?_
        refine s_ixL (SqL.of hS) hc2 ?_
        walk_at "rd"
        refine s_ixL (SqL.of e) rfl ?_
        walk_at "rd"
        refine s_setL e rfl ?_
        walk_at "rd"
        refine s_setL upd_same rfl ?_
        walk_at "rd"
        rw [upd_upd]
        refine s_pow ⟨by decide, by decide, by decide⟩ ?_
        walk_at "rd"
        refine br (fun b3 => ?_) (fun b3 => ?_)
        · walk_at "rd"
          refine s_setL upd_same rfl ?_
          walk_at "rd"
          rw [upd_upd]
          refine no _ _ (c + 1) (if cell < 0 then -cell else cell) t upd_same Keep.upd (by omega) ?_ t0 t1
          split <;> omega
        · walk_at "rd"
          refine s_ixL (SqL.of upd_same) rfl ?_
          walk_at "rd"
          refine s_mul (.inl ⟨by omega, by omega⟩) ?_
          walk_at "rd"
          refine s_mod (by decide) ?_
          walk_at "rd"
          refine s_mul (.inr ⟨by decide, by decide⟩) ?_
          walk_at "rd"
          refine s_mod (by decide) ?_
          walk_at "rd"
          refine s_setL upd_same rfl ?_
          walk_at "rd"
          rw [upd_upd]
          exact no _ _ (c + 1) 0 _ upd_same Keep.upd (by omega) (by omega) (Int.fmod_nonneg_of_pos _ (by decide)) (Int.fmod_lt_of_pos _ (by decide))
      · walk_at "rd"
        exact no _ _ c h t e (Keep.refl _ _) c0 h0 t0 t1
    · walk_at "rd"
      exact no _ _ c h t e (Keep.refl _ _) c0 h0 t0 t1
theorem ok_begin (D : DefAt K mg "_law_begin" s_law_begin ["_law_script"]) (B : Blt mg) : OkF P w K mg base CX0 1 "_law_begin" ["_law_script"] (spBegin K) := by
  refine D.ok sc_law_begin len1 (fun f cdv A outer s H vs Q E hr h => ?_)
  obtain ⟨_, rfl, a, ns, rfl, hS, hl, q⟩ := h
  refine ⟨_, (pss_one (ps_ret (pe_lst (pa_cons (pe_callTy (call_listU (K := K) rfl) (by rfl) B.list (by decide +kernel) (pa_cons (pe_slice (sl_u (K := K)) (pv 0) po_none (po_some pe_int)) pa_nil)) (pa_cons pe_int (pa_cons pe_int (pa_cons pe_int pa_nil))))))), ?_⟩
  refine s_start (σ' := [some (.ref a)]) rfl ?_
  walk_at "rd"
  obtain ⟨ms, em, lm⟩ : ∃ ms : List Int, cutV (ns.map V.int) none (some 63) = ms.map V.int ∧ ms.length ≤ 1000 := by
    refine ⟨(ns.drop (HT.sIx (ns.map V.int).length 0 none)).take (HT.sIx (ns.map V.int).length (ns.map V.int).length (some 63) - HT.sIx (ns.map V.int).length 0 none), ?_, ?_⟩
    · unfold cutV
      rw [List.map_take, List.map_drop]
    · rw [List.length_take, List.length_drop]
      omega
  refine s_slL hS fun l1 n1 => ?_
  rw [em]
  walk_at "rd"
  refine s_listL (.inl (SqL.of upd_same)) fun l2 n2 => ?_
  walk_at "rd"
  refine ⟨sz rfl, fun p n3 => ?_⟩
  walk_at "rd"
  have s1 := same_upd (o := .lst (ms.map V.int)) n1
  have s2 := same_upd (o := .lst (ms.map V.int)) n2
  have s3 := same_upd (o := .lst [.ref l2, .int 0, .int 0, .int 29]) n3
  refine q _ p l2 (s1.trans (s2.trans s3)) ((s1.trans s2).free n3) ⟨ms, 0, 0, 29, upd_same, s3 _ _ upd_same, ?_, lm, by decide, by decide, by decide, by decide⟩
  intro e
  rw [e, upd_same] at n3
  cases n3
theorem ok_told {c_BadTable : Addr} (D : DefAt K mg "_law_told" s_law_told ["_law_table", "_law_many"]) (B : Blt mg) (X_BadTable : ExcAt K mg "BadTable" c_BadTable) (m_BT : PySem.W.exmOne K (.ref c_BadTable) (.ref c_BadTable) = some true) (G_unpacked : OkF P w K mg base (L2.CX P w) 2 "unpacked" ["table", "many"] (spUnpacked K c_BadTable)) :
    OkF P w K mg base CX0 3 "_law_told" ["_law_table", "_law_many"] (spTold K) := by
  refine D.ok sc_law_told len2 (fun f cdv A outer s H vs Q E hr h => ?_)
  obtain ⟨_, _, rfl, tab, many, rfl, hT, hl, qg, qb⟩ := h
  refine ⟨_, (pss_one (u_try_only (K := K) rfl rfl (names_own X_BadTable) takes0 (fun W pn xe tk po => (pss_one (ps_ret (u_callS G_unpacked (hr.mono (by omega)) tk (pa_cons (pv 0) (pa_cons (pv 1) pa_nil)))))) (fun a_ oe_ cls_ d_ pn_ hz_ hf_ => (pss_one (ps_ret pe_non))))), ?_⟩
  obtain ⟨a, xs, rfl, _, _⟩ := Dp.tab_of hT
  refine s_start (σ' := [some (.ref a), some (.int many)]) rfl ?_
  walk_at "rd"
  refine ⟨tab, many, rfl, hT, hl, fun g H1 u s1 nu eu => ?_, fun ng H1 s1 => ?_⟩
  · exact qg g H1 u s1 eu
  · refine s_only m_BT fun b nb => ?_
    walk_at "rd"
    exact qb ng H1 s1
abbrev spLaw (K : PySem.W.Frag) : Sp := sp1 fun v H Q _ => ∃ (a : Addr) (ns : List Int), v = .ref a ∧ SqL K H a (ns.map V.int) ∧ ns.length ≤ 63 ∧ ∀ H', Q (.bl true) H'
theorem ok_law {fa c_BadTable c_BadPlace : Addr} {fd : FuncData} (F : Fun K "law" "law" s_law fa fd) (B : Blt mg) (G_law_begin : OkF P w K mg base CX0 1 "_law_begin" ["_law_script"] (spBegin K)) (G_law_take : OkF P w K mg base CX0 1 "_law_take" ["_law_draw", "_law_sides"] spTake)
    (G_packed : OkF P w K mg base CX0 1 "packed" ["lines"] (spPacked K)) (G_law_told : OkF P w K mg base CX0 3 "_law_told" ["_law_table", "_law_many"] (spTold K)) (G_line_at : OkF P w K mg base (L2.CX P w) 2 "line_at" ["table", "many", "row"] (spLineAt K c_BadTable c_BadPlace)) (G_rows_of : OkF P w K mg base (L2.CX P w) 3 "rows_of" ["table", "many", "line"] (spRowsOf K c_BadTable)) :
    FnOk P w K mg base CX0 4 fa fd ["_law_script"] (spLaw K) := by
  refine F.ok sc_law len1 (fun cdv A outer s H vs Q E hr h => ?_)
  obtain ⟨_, rfl, b, ns, rfl, hS, hl, q⟩ := h
  refine ⟨_, (pss_cons (ps_set (i := 1) sc_law.nd rfl (by first | exact .inl rfl | exact .inr rfl) (u_call G_law_begin (hr.mono (by omega)) pass0 (pa_cons (pv 0) pa_nil)))
    (pss_cons (ps_set (i := 2) sc_law.nd rfl (by first | exact .inl rfl | exact .inr rfl) (pe_lst pa_nil))
    (pss_cons (ps_for PassesOwn.never (by rfl) (pi_range1 (by rfl) B.range (pa_cons (pe_op (o_add (K := K)) pe_int (u_call G_law_take (hr.mono (by omega)) pass0 (pa_cons (pv 1) (pa_cons pe_int pa_nil)))) pa_nil)) (pg_name (i := 3) sc_law.nd rfl (by first | exact .inl rfl | exact .inr rfl)) (pss_one (ps_expr (u_bm (K := K) PySem.F.plainAttrs_list PySem.F.slot_list_extend PySem.F.type_list_extend mt_extend (pv 2) (pa_cons (pe_op o_mul (pe_lst (pa_cons (u_call G_law_take (hr.mono (by omega)) pass0 (pa_cons (pv 1) (pa_cons pe_int pa_nil))) pa_nil)) (pe_op (o_add (K := K)) pe_int (u_call G_law_take (hr.mono (by omega)) pass0 (pa_cons (pv 1) (pa_cons pe_int pa_nil))))) pa_nil)))))
    (pss_cons (ps_set (i := 4) sc_law.nd rfl (by first | exact .inl rfl | exact .inr rfl) (u_call G_packed (hr.mono (by omega)) pass0 (pa_cons (pv 2) pa_nil)))
    (pss_cons (ps_set (i := 5) sc_law.nd rfl (by first | exact .inl rfl | exact .inr rfl) (pe_callB (u_len (K := K)) (by rfl) B.len (by decide +kernel) (pa_cons (pv 2) pa_nil)))
    (pss_cons (ps_if (pt_cmpR (o_ne (K := K) hr.units) (pe_lc (own := [("_law_row", 10)]) (g := (gName 10)) (tt := tYes) rfl sc_law.nd (pi_range1 (by rfl) B.range (pa_cons (pv 5) pa_nil)) (blkOk_by (N := ["_law_script", "_law_draw", "_law_lines", "_law_k", "_law_table", "_law_many", "_law_rows", "_law_line", "_law_at", "_law_more", "_law_row"]) (sc := defScope s_law) (own := [("_law_row", 10)]) (by decide +kernel)) (fun _ _ _ _ _ => (pg_name (i := 10) sc_law.nd rfl (by first | exact .inl rfl | exact .inr rfl))) (fun _ _ _ _ _ => pts_nil) (fun _ _ _ _ _ => (u_call G_line_at (hr.mono (by omega)) passL (pa_cons (pv 4) (pa_cons (pv 5) (pa_cons (pv 10) pa_nil)))))) (pv 2) (nomark _)) (pss_one (ps_ret pe_bl)) pss_nil)
    (pss_cons (ps_set (i := 6) sc_law.nd rfl (by first | exact .inl rfl | exact .inr rfl) (pe_lst pa_nil))
    (pss_cons (ps_for PassesOwn.never (by rfl) (pi_range1 (by rfl) B.range (pa_cons pe_int pa_nil)) (pg_name (i := 7) sc_law.nd rfl (by first | exact .inl rfl | exact .inr rfl)) (pss_one (ps_expr (u_bm (K := K) PySem.F.plainAttrs_list PySem.F.slot_list_extend PySem.F.type_list_extend mt_extend (pv 6) (pa_cons (u_call G_rows_of (hr.mono (by omega)) passL (pa_cons (pv 4) (pa_cons (pv 5) (pa_cons (pv 7) pa_nil)))) pa_nil)))))
    (pss_cons (ps_if (pt_cmpR (o_ne (K := K) hr.units) (pe_callB (u_sortedI (K := K)) (by rfl) B.sorted (by decide +kernel) (pa_cons (pv 6) pa_nil)) (pe_listRg rfl (by rfl) B.list (prg_1 (by rfl) B.range (pv 5))) (nomark _)) (pss_one (ps_ret pe_bl)) pss_nil)
    (pss_cons (ps_for PassesOwn.never (by rfl) (pi_range1 (by rfl) B.range (pa_cons (pe_callB (u_len (K := K)) (by rfl) B.len (by decide +kernel) (pa_cons (pv 4) pa_nil)) pa_nil)) (pg_name (i := 8) sc_law.nd rfl (by first | exact .inl rfl | exact .inr rfl)) (pss_one (ps_if (pt_cmpR (o_eq (K := K) hr.units) (u_call G_law_told (hr.mono (by omega)) pass0 (pa_cons (pe_op (o_add (K := K)) (pe_slice (sl_u (K := K)) (pv 4) po_none (po_some (pv 8))) (pe_slice (sl_u (K := K)) (pv 4) (po_some (pe_op (o_add (K := K)) (pv 8) pe_int)) po_none)) (pa_cons (pv 5) pa_nil))) (pv 2) (nomark _)) (pss_one (ps_ret pe_bl)) pss_nil)))
    (pss_cons (ps_set (i := 8) sc_law.nd rfl (by first | exact .inl rfl | exact .inr rfl) (u_call G_law_take (hr.mono (by omega)) pass0 (pa_cons (pv 1) (pa_cons (pe_op (o_add (K := K)) (pe_callB (u_len (K := K)) (by rfl) B.len (by decide +kernel) (pa_cons (pv 4) pa_nil)) pe_int) pa_nil))))
    (pss_cons (ps_set (i := 9) sc_law.nd rfl (by first | exact .inl rfl | exact .inr rfl) (pe_tup (pa_cons (u_call G_law_take (hr.mono (by omega)) pass0 (pa_cons (pv 1) (pa_cons (pv 5) pa_nil))) (pa_cons (u_call G_law_take (hr.mono (by omega)) pass0 (pa_cons (pv 1) (pa_cons pe_int pa_nil))) pa_nil))))
    (pss_one (ps_ret (pe_cmpR (o_ne (K := K) hr.units) (u_call G_law_told (hr.mono (by omega)) pass0 (pa_cons (pe_op (o_add (K := K)) (pe_op (o_add (K := K)) (pe_slice (sl_u (K := K)) (pv 4) po_none (po_some (pv 8))) (pe_lst (pa_cons (pv 9) pa_nil))) (pe_slice (sl_u (K := K)) (pv 4) (po_some (pv 8)) po_none)) (pa_cons (pv 5) pa_nil))) (pv 2) (nomark _)))))))))))))))), ?_⟩
  refine s_start (σ' := [some (.ref b), none, none, none, none, none, none, none, none, none, none]) rfl ?_
  walk_at "rd"
  refine ⟨b, ns, rfl, hS, hl, fun H1 p a s1 n1 d1 => ?_⟩
  walk_at "rd"
  refine ⟨sz rfl, fun r nr => ?_⟩
  walk_at "rd"
  have rp : r ≠ p := d1.ne nr
  have ra : r ≠ a := d1.ne2 nr
  have e1 : upd H1 r (.lst []) r = some (.lst (([] : List Int).map V.int)) := upd_same
  have d1' := d1.same (same_upd (o := .lst []) nr)
  generalize upd H1 r (.lst []) = H1' at e1 d1' ⊢
  refine ⟨p, a, 9, rfl, rfl, by decide, by decide, d1', fun H2 n k2 d2 n0 n1 => ?_⟩
  have e2 := k2 _ _ rp e1
  walk_at "rd"
  refine ⟨by omega, by omega, ?_⟩
  refine forB_range (n := (1 + n).toNat) (fun i σ H' => ∃ y3, ∃ ns : List Int, σ = [some (.ref b), some (.ref p), some (.ref r), y3, none, none, none, none, none, none, none] ∧ Draw H' p a ∧ H' r = some (.lst (ns.map V.int)) ∧ i ≤ ns.length ∧ ns.length ≤ 5 * i ∧ ∀ x ∈ ns, 0 ≤ x ∧ x < ((4 : Nat) : Int))
    ⟨none, [], rfl, d2, e2, Nat.le_refl _, Nat.le_refl _, fun x hx => nomatch hx⟩ ?_ ?_
  · rintro i σ H3 hi ⟨y3, ns, rfl, d3, e3, l1, l2, hx⟩
    have i9 : i ≤ 9 := by omega
    walk_at "rd"
    refine s_tyL (SqL.of e3) ?_
    walk_at "rd"
    refine ⟨p, a, 4, rfl, rfl, by decide, by decide, d3, fun H6 line k6 d6 z0 z1 => ?_⟩
    walk_at "rd"
    refine ⟨sz rfl, fun l7 n7 => ?_⟩
    have e6 := k6 _ _ rp e3
    have s7 := same_upd (o := .lst [.int line]) n7
    walk_at "rd"
    refine ⟨p, a, 5, rfl, rfl, by decide, by decide, d6.same s7, fun H8 c k8 d8 c0 c1 => ?_⟩
    walk_at "rd"
    have p7 : l7 ≠ p := d6.ne n7
    refine s_rep (k8 _ _ p7 upd_same) (by omega) (by omega) (sz_of (by show 1 * _ ≤ 1000; omega)) fun l9 n9 => ?_
    rw [flat_rep]
    have s9 := same_upd (o := .lst (List.replicate (1 + c).toNat (V.int line))) n9
    walk_at "rd"
    have e8 := k8 _ _ rp (s7 _ _ e6)
    refine s_extend (s9 _ _ e8) upd_same (sz_of (by rw [List.length_map, List.length_replicate]; omega)) ?_
    walk_at "rd"
    refine ⟨_, ns ++ List.replicate (1 + c).toNat line, rfl, (d8.same s9).updN rp ra, by rw [upd_same, List.map_append, List.map_replicate], ?_, ?_, ?_⟩
    · rw [List.length_append, List.length_replicate]
      omega
    · rw [List.length_append, List.length_replicate]
      omega
    · intro x hx2
      rcases List.mem_append.mp hx2 with hx2 | hx2
      · exact hx x hx2
      · rw [(List.mem_replicate.mp hx2).2]
        omega
  · rintro σ H3 ⟨y3, ls, rfl, d3, e3, l1, l2, hx⟩
    have hl1 : 1 ≤ ls.length := by omega
    have hl2 : ls.length ≤ 45 := by omega
    obtain ⟨gd, ud, pl⟩ := pack_good (ls := ls) (fun x h => (hx x h).1) (by omega) (by omega)
    walk_at "rd"
    refine ⟨r, ls, rfl, SqL.of e3, by omega, fun H4 t xs s4 nt et dt => ?_⟩
    have d4 := d3.same s4
    have e4 := s4 _ _ e3
    have tp : t ≠ p := d3.ne nt
    obtain ⟨yp, ep⟩ := d4.lst
    have dt4 : DpAll K (hid [p] H4) xs ((pack ls).map dPair) := Dp.avoidAll ep _ _ (noL_tab _) (Dp.sameAll hid_same _ _ dt)
    have hxl : xs.length = (pack ls).length := by rw [DpAll.length dt, List.length_map]
    have tabD : ∀ H', Same H4 H' → Dp K H' (.ref t) (dTab (pack ls)) := fun H' s => .lst (SqL.of (s _ _ et)) (Dp.sameAll (hid_same.trans s) _ _ dt4)
    walk_at "rd"
    refine s_lenL (SqL.of e4) ?_
    rw [List.length_map]
    walk_at "rd"
    refine ⟨by omega, by omega, ?_⟩
    rw [Int.toNat_natCast]
    refine lcB_of ls.length (fun D i acc H' => Same H4 (hid [D] H') ∧ acc = (ls.take i).map V.int)
      (fun D hD => ⟨by rw [hid_up List.mem_cons_self, hid_new hD, hid_nil]; exact Same.refl _, rfl⟩) (fun D i acc H' hD hi _ => hi) (fun D acc H' hD hS => Nat.le_refl _) ?_ ?_
    · rintro D i acc H' _ _ hD hi ha hla ⟨sm, ea⟩ ⟨rfl, rfl⟩
      refine s_gName ⟨rfl, ?_⟩
      walk_at "rd"
      refine ⟨pack ls, ls.length, _, rfl, rfl, tabD _ (sm.trans hid_same), by omega, fun g H5 v s5 r0 r1 hv => ?_, fun ng => absurd gd ng, fun g nb => absurd ⟨by omega, by omega⟩ nb⟩
      rw [ud, show ((0 : Int) + (i : Nat)).toNat = i by omega] at hv
      refine LcPost.mk (s5 _ _ ha) hla (by omega) ⟨?_, ?_⟩
      · rw [hid_up List.mem_cons_self]
        exact sm.trans (Same.hid s5)
      · rw [ea, List.take_add_one, hv, List.map_append]
        rfl
    rintro D acc H5 hD ha hla ⟨sm, ea⟩
    walk_at "rd"
    have s5 : Same H4 H5 := sm.trans hid_same
    have e5 := s5 _ _ e4
    rw [ea, List.take_length] at ha
    refine s_neD (Dp.ints (SqL.of ha)) (Dp.ints (SqL.of e5)) (shaped_ints _) (shaped_ints _) ?_
    rw [eqv_ints, decide_eq_true rfl]
    walk_at "rd"
    refine iteF ?_
    walk_at "rd"
    refine ⟨sz rfl, fun l6 n6 => ?_⟩
    walk_at "rd"
    refine ⟨by decide, by decide, ?_⟩
    have h6 : Same H5 (hid [l6] (upd H5 l6 (.lst []))) := by
      rw [hid_up List.mem_cons_self, hid_new n6, hid_nil]
      exact Same.refl _
    refine forB_range (n := 4) (fun i σ H' => ∃ y7, σ = [some (.ref b), some (.ref p), some (.ref r), y3, some (.ref t), some (.int ls.length), some (.ref l6), y7, none, none, none] ∧ Same H5 (hid [l6] H') ∧ H' l6 = some (.lst ((allRows ls i).map V.int)))
      ⟨none, rfl, h6, upd_same⟩ ?_ ?_
    · rintro i σ H7 hi ⟨y7, rfl, s7, e7⟩
      walk_at "rd"
      refine s_tyL (SqL.of e7) ?_
      walk_at "rd"
      refine ⟨pack ls, ls.length, _, rfl, rfl, tabD _ (s5.trans (s7.trans hid_same)), by omega, fun g H8 r8 s8 n8 e8 => ?_, fun ng => absurd gd ng⟩
      walk_at "rd"
      have b1 := allRows_len ls i
      have b2 := rowsOf_len ls (0 + (i : Nat)) ls.length
      have b3 : i * ls.length ≤ 3 * 45 := Nat.mul_le_mul (by omega) hl2
      rw [ud] at e8
      refine s_extend (s8 _ _ e7) e8 (sz_of (by rw [List.length_map, List.length_map]; omega)) ?_
      walk_at "rd"
      refine ⟨_, rfl, ?_, ?_⟩
      · rw [hid_up List.mem_cons_self]
        exact s7.trans (Same.hid s8)
      · rw [upd_same, Int.zero_add, ← List.map_append]
        rfl
    rintro σ H7 ⟨y7, rfl, s7, e7⟩
    have s57 : Same H5 H7 := s7.trans hid_same
    have s47 := s5.trans s57
    walk_at "rd"
    refine ⟨l6, allRows ls 4, rfl, SqL.of e7, fun ns' q6 perm srt nq => ?_⟩
    have s8 := same_upd (o := .lst (ns'.map V.int)) nq
    walk_at "rd"
    refine ⟨RgOk.of_le (by decide) (by omega) (by decide) (by omega), fun q7 nq7 => ?_⟩
    have s9 := same_upd (o := .lst (rgV 0 (ls.length : Int))) nq7
    have en : ns' = rgI ls.length := List.Perm.eq_of_pairwise (fun x y _ _ h1 h2 => Int.le_antisymm h1 h2) srt (rgI_sorted _) (perm.trans (allRows_perm hx))
    refine s_neD (Dp.ints (ns := ns') (SqL.of (s9 _ _ upd_same))) (Dp.ints (ns := rgI ls.length) (SqL.of (by rw [upd_same, rgV_rgI]))) (shaped_ints _) (shaped_ints _) ?_
    rw [eqv_ints, decide_eq_true en]
    walk_at "rd"
    refine iteF ?_
    walk_at "rd"
    have sX := s47.trans (s8.trans s9)
    have eX := sX _ _ e4
    have tX := sX _ _ et
    have dX := d4.same sX
    have xX : DpAll K (hid [p] (upd (upd H7 q6 (.lst (ns'.map V.int))) q7 (.lst (rgV 0 (ls.length : Int))))) xs ((pack ls).map dPair) := Dp.sameAll (Same.hid sX) _ _ dt4
    generalize upd (upd H7 q6 (.lst (ns'.map V.int))) q7 (.lst (rgV 0 (ls.length : Int))) = HX at sX eX tX dX xX ⊢
    refine s_lenL (SqL.of tX) ?_
    walk_at "rd"
    refine ⟨by omega, by omega, ?_⟩
    rw [Int.toNat_natCast]
    -- a pair more or less
    have uniq : ∀ t' : Tab, t'.length ≠ (pack ls).length → Good t' ls.length → decide (unpackL t' ls.length = ls) = false := fun t' hne g => decide_eq_false fun e => hne (by rw [table_unique g gd (e.trans ud.symm)])
    refine forB_range (n := xs.length) (fun i σ H' => ∃ y8, σ = [some (.ref b), some (.ref p), some (.ref r), y3, some (.ref t), some (.int ls.length), some (.ref l6), y7, y8, none, none] ∧ Same HX H') ⟨none, rfl, Same.refl _⟩ ?_ ?_
    · rintro i σ HA hi ⟨y8, rfl, sA⟩
      walk_at "rd"
      refine s_slL (SqL.of (sA _ _ tX)) fun l1 m1 => ?_
      rw [Int.zero_add, cutV_take]
      have u1 := same_upd (o := .lst (xs.take i)) m1
      walk_at "rd"
      refine s_slL (SqL.of (u1 _ _ (sA _ _ tX))) fun l2 m2 => ?_
      rw [show ((i : Nat) : Int) + 1 = ((i + 1 : Nat) : Int) by omega, cutV_drop]
      have u2 := same_upd (o := .lst (xs.drop (i + 1))) m2
      refine s_addL (u2 _ _ upd_same) upd_same (sz_of (by rw [List.length_take, List.length_drop]; omega)) fun l3 m3 => ?_
      have u3 := same_upd (o := .lst (xs.take i ++ xs.drop (i + 1))) m3
      have uu := sA.trans (u1.trans (u2.trans u3))
      walk_at "rd"
      have hD3 := Dp.sameAll (hid_same.trans uu) _ _ xX
      have hD4 := DpAll.app (DpAll.take i hD3) (DpAll.drop (i + 1) hD3)
      rw [← List.map_take, ← List.map_drop, ← List.map_append] at hD4
      refine ⟨(pack ls).take i ++ (pack ls).drop (i + 1), ls.length, rfl, .lst (SqL.of upd_same) hD4, by rw [List.length_append, List.length_take, List.length_drop]; omega, fun g HB u sB eu => ?_, fun ng HB sB => ?_⟩
      · walk_at "rd"
        refine s_eqD (Dp.ints (SqL.of eu)) (Dp.ints (SqL.of (sB _ _ (uu _ _ eX)))) (shaped_ints _) (shaped_ints _) ?_
        rw [eqv_ints, uniq _ (by rw [List.length_append, List.length_take, List.length_drop]; omega) g]
        walk_at "rd"
        refine iteF ?_
        walk_at "rd"
        exact ⟨_, rfl, uu.trans sB⟩
      · walk_at "rd"
        refine s_eqD .non (Dp.ints (SqL.of (sB _ _ (uu _ _ eX)))) rfl (shaped_ints _) ?_
        rw [eqv_none]
        walk_at "rd"
        refine iteF ?_
        walk_at "rd"
        exact ⟨_, rfl, uu.trans sB⟩
    rintro σ HA ⟨y8, rfl, sA⟩
    walk_at "rd"
    refine s_lenL (SqL.of (sA _ _ tX)) ?_
    walk_at "rd"
    have dA := dX.same sA
    refine ⟨p, a, (xs.length : Int) + 1, rfl, rfl, by omega, by omega, dA, fun HB at' kB dB a0 a1 => ?_⟩
    walk_at "rd"
    refine ⟨p, a, (ls.length : Int), rfl, rfl, by omega, by omega, dB, fun HC mr kC dC r0 r1 => ?_⟩
    walk_at "rd"
    refine ⟨p, a, 4, rfl, rfl, by decide, by decide, dC, fun HD ml kD dD z0 z1 => ?_⟩
    walk_at "rd"
    refine ⟨sz rfl, fun lm nm => ?_⟩
    have kAD := (kB.trans kC).trans kD
    have um := same_upd (o := .tup [.int mr, .int ml]) nm
    have tE := um _ _ (kAD _ _ tp (sA _ _ tX))
    have rE := um _ _ (kAD _ _ rp (sA _ _ eX))
    have xE := Dp.sameAll (hid_same.trans um) _ _ (Dp.sameAll (Keep.hid kAD (S := [p]) List.mem_cons_self) _ _ (Dp.sameAll (Same.hid sA) _ _ xX))
    have mE : Dp K (upd HD lm (.tup [.int mr, .int ml])) (.ref lm) (dPair (mr, ml)) := Dp.pair (SqT.of upd_same)
    generalize upd HD lm (.tup [.int mr, .int ml]) = HE at um tE rE xE mE ⊢
    obtain ⟨k, rfl⟩ : ∃ k : Nat, at' = (k : Int) := ⟨at'.toNat, by omega⟩
    walk_at "rd"
    refine s_slL (SqL.of tE) fun l1 m1 => ?_
    rw [cutV_take]
    have u1 := same_upd (o := .lst (xs.take k)) m1
    walk_at "rd"
    refine ⟨sz rfl, fun l2 m2 => ?_⟩
    have u2 := same_upd (o := .lst [.ref lm]) m2
    refine s_addL (u2 _ _ upd_same) upd_same (sz_of (by rw [List.length_take, List.length_singleton]; omega)) fun l3 m3 => ?_
    have u3 := same_upd (o := .lst (xs.take k ++ [.ref lm])) m3
    walk_at "rd"
    refine s_slL (SqL.of (u3 _ _ (u2 _ _ (u1 _ _ tE)))) fun l4 m4 => ?_
    rw [cutV_drop]
    have u4 := same_upd (o := .lst (xs.drop k)) m4
    refine s_addL (u4 _ _ upd_same) upd_same (sz_of (by rw [List.length_append, List.length_take, List.length_drop, List.length_singleton]; omega)) fun l5 m5 => ?_
    have u5 := same_upd (o := .lst (xs.take k ++ [.ref lm] ++ xs.drop k)) m5
    have uu := u1.trans (u2.trans (u3.trans (u4.trans u5)))
    walk_at "rd"
    have hD3 := Dp.sameAll uu _ _ xE
    have hD4 := DpAll.app (DpAll.app (DpAll.take k hD3) (DpAll.one (Dp.same uu _ _ mE))) (DpAll.drop k hD3)
    rw [← List.map_take, ← List.map_drop, show [dPair (mr, ml)] = [(mr, ml)].map dPair from rfl, ← List.map_append, ← List.map_append] at hD4
    refine ⟨(pack ls).take k ++ [(mr, ml)] ++ (pack ls).drop k, ls.length, rfl, .lst (SqL.of upd_same) hD4, by rw [List.length_append, List.length_append, List.length_take, List.length_drop, List.length_singleton]; omega, fun g HB u sB eu => ?_, fun ng HB sB => ?_⟩
    · walk_at "rd"
      refine s_neD (Dp.ints (SqL.of eu)) (Dp.ints (SqL.of (sB _ _ (uu _ _ rE)))) (shaped_ints _) (shaped_ints _) ?_
      rw [eqv_ints, uniq _ (by rw [List.length_append, List.length_append, List.length_take, List.length_drop, List.length_singleton]; omega) g]
      exact q _
    · walk_at "rd"
      refine s_neD .non (Dp.ints (SqL.of (sB _ _ (uu _ _ rE)))) rfl (shaped_ints _) ?_
      rw [eqv_none]
      exact q _
end
theorem all_mk {l : PySem.W.OpenLaw} {w : World} {K : PySem.W.Frag} {h : Heap} {mg : Str → Option Value} {fa f_packed f_need_table f_unpacked f_line_at f_rows_of f_law_begin f_law_take f_law_told f_law : Addr} (X : K.In h) (G : h.Ns mainGlobals mg) (hfa : mg "law" = some (.ref fa))
    {od_packed an_packed : Option Addr} {sl_packed : Array (Option Value)} {oc_packed kV_packed dc_packed pm_packed cd_packed ct_packed : Value}
    (a_packed : PySem.W.nsIn K mainGlobals "packed" = some (some (.ref f_packed))) (l_packed : K.lookup f_packed = some ⟨oc_packed, od_packed, .func (PySem.W.fnOf "packed" "packed" (defArgs s_packed) (defBody s_packed) (defScope s_packed) .none kV_packed dc_packed pm_packed an_packed cd_packed ct_packed), sl_packed⟩) (c_packed : PySem.W.codeIn K cd_packed "packed" = true) (k_packed : PySem.W.keepIn K (.ref f_packed) = true)
    {od_need_table an_need_table : Option Addr} {sl_need_table : Array (Option Value)} {oc_need_table kV_need_table dc_need_table pm_need_table cd_need_table ct_need_table : Value}
    (a_need_table : PySem.W.nsIn K mainGlobals "need_table" = some (some (.ref f_need_table))) (l_need_table : K.lookup f_need_table = some ⟨oc_need_table, od_need_table, .func (PySem.W.fnOf "need_table" "need_table" (defArgs s_need_table) (defBody s_need_table) (defScope s_need_table) .none kV_need_table dc_need_table pm_need_table an_need_table cd_need_table ct_need_table), sl_need_table⟩) (c_need_table : PySem.W.codeIn K cd_need_table "need_table" = true) (k_need_table : PySem.W.keepIn K (.ref f_need_table) = true)
    {od_unpacked an_unpacked : Option Addr} {sl_unpacked : Array (Option Value)} {oc_unpacked kV_unpacked dc_unpacked pm_unpacked cd_unpacked ct_unpacked : Value}
    (a_unpacked : PySem.W.nsIn K mainGlobals "unpacked" = some (some (.ref f_unpacked))) (l_unpacked : K.lookup f_unpacked = some ⟨oc_unpacked, od_unpacked, .func (PySem.W.fnOf "unpacked" "unpacked" (defArgs s_unpacked) (defBody s_unpacked) (defScope s_unpacked) .none kV_unpacked dc_unpacked pm_unpacked an_unpacked cd_unpacked ct_unpacked), sl_unpacked⟩) (c_unpacked : PySem.W.codeIn K cd_unpacked "unpacked" = true) (k_unpacked : PySem.W.keepIn K (.ref f_unpacked) = true)
    {od_line_at an_line_at : Option Addr} {sl_line_at : Array (Option Value)} {oc_line_at kV_line_at dc_line_at pm_line_at cd_line_at ct_line_at : Value}
    (a_line_at : PySem.W.nsIn K mainGlobals "line_at" = some (some (.ref f_line_at))) (l_line_at : K.lookup f_line_at = some ⟨oc_line_at, od_line_at, .func (PySem.W.fnOf "line_at" "line_at" (defArgs s_line_at) (defBody s_line_at) (defScope s_line_at) .none kV_line_at dc_line_at pm_line_at an_line_at cd_line_at ct_line_at), sl_line_at⟩) (c_line_at : PySem.W.codeIn K cd_line_at "line_at" = true) (k_line_at : PySem.W.keepIn K (.ref f_line_at) = true)
    {od_rows_of an_rows_of : Option Addr} {sl_rows_of : Array (Option Value)} {oc_rows_of kV_rows_of dc_rows_of pm_rows_of cd_rows_of ct_rows_of : Value}
    (a_rows_of : PySem.W.nsIn K mainGlobals "rows_of" = some (some (.ref f_rows_of))) (l_rows_of : K.lookup f_rows_of = some ⟨oc_rows_of, od_rows_of, .func (PySem.W.fnOf "rows_of" "rows_of" (defArgs s_rows_of) (defBody s_rows_of) (defScope s_rows_of) .none kV_rows_of dc_rows_of pm_rows_of an_rows_of cd_rows_of ct_rows_of), sl_rows_of⟩) (c_rows_of : PySem.W.codeIn K cd_rows_of "rows_of" = true) (k_rows_of : PySem.W.keepIn K (.ref f_rows_of) = true)
    {od_law_begin an_law_begin : Option Addr} {sl_law_begin : Array (Option Value)} {oc_law_begin kV_law_begin dc_law_begin pm_law_begin cd_law_begin ct_law_begin : Value}
    (a_law_begin : PySem.W.nsIn K mainGlobals "_law_begin" = some (some (.ref f_law_begin))) (l_law_begin : K.lookup f_law_begin = some ⟨oc_law_begin, od_law_begin, .func (PySem.W.fnOf "_law_begin" "_law_begin" (defArgs s_law_begin) (defBody s_law_begin) (defScope s_law_begin) .none kV_law_begin dc_law_begin pm_law_begin an_law_begin cd_law_begin ct_law_begin), sl_law_begin⟩) (c_law_begin : PySem.W.codeIn K cd_law_begin "_law_begin" = true) (k_law_begin : PySem.W.keepIn K (.ref f_law_begin) = true)
    {od_law_take an_law_take : Option Addr} {sl_law_take : Array (Option Value)} {oc_law_take kV_law_take dc_law_take pm_law_take cd_law_take ct_law_take : Value}
    (a_law_take : PySem.W.nsIn K mainGlobals "_law_take" = some (some (.ref f_law_take))) (l_law_take : K.lookup f_law_take = some ⟨oc_law_take, od_law_take, .func (PySem.W.fnOf "_law_take" "_law_take" (defArgs s_law_take) (defBody s_law_take) (defScope s_law_take) .none kV_law_take dc_law_take pm_law_take an_law_take cd_law_take ct_law_take), sl_law_take⟩) (c_law_take : PySem.W.codeIn K cd_law_take "_law_take" = true) (k_law_take : PySem.W.keepIn K (.ref f_law_take) = true)
    {od_law_told an_law_told : Option Addr} {sl_law_told : Array (Option Value)} {oc_law_told kV_law_told dc_law_told pm_law_told cd_law_told ct_law_told : Value}
    (a_law_told : PySem.W.nsIn K mainGlobals "_law_told" = some (some (.ref f_law_told))) (l_law_told : K.lookup f_law_told = some ⟨oc_law_told, od_law_told, .func (PySem.W.fnOf "_law_told" "_law_told" (defArgs s_law_told) (defBody s_law_told) (defScope s_law_told) .none kV_law_told dc_law_told pm_law_told an_law_told cd_law_told ct_law_told), sl_law_told⟩) (c_law_told : PySem.W.codeIn K cd_law_told "_law_told" = true) (k_law_told : PySem.W.keepIn K (.ref f_law_told) = true)
    {od_law an_law : Option Addr} {sl_law : Array (Option Value)} {oc_law kV_law dc_law pm_law cd_law ct_law : Value}
    (a_law : PySem.W.nsIn K mainGlobals "law" = some (some (.ref f_law))) (l_law : K.lookup f_law = some ⟨oc_law, od_law, .func (PySem.W.fnOf "law" "law" (defArgs s_law) (defBody s_law) (defScope s_law) .none kV_law dc_law pm_law an_law cd_law ct_law), sl_law⟩) (c_law : PySem.W.codeIn K cd_law "law" = true) (k_law : PySem.W.keepIn K (.ref f_law) = true)
    (z_abs : PySem.W.nsIn K mainGlobals "abs" = some none)
    (z_enumerate : PySem.W.nsIn K mainGlobals "enumerate" = some none)
    (z_len : PySem.W.nsIn K mainGlobals "len" = some none)
    (z_list : PySem.W.nsIn K mainGlobals "list" = some none)
    (z_range : PySem.W.nsIn K mainGlobals "range" = some none)
    (z_sorted : PySem.W.nsIn K mainGlobals "sorted" = some none)
    {c_BadTable : Addr} (g_BadTable : PySem.W.nsIn K mainGlobals "BadTable" = some (some (.ref c_BadTable))) (e_BadTable : PySem.W.excIn K c_BadTable [.type "ValueError", .type "Exception", .type "BaseException", .type "object"] "ValueError.__new__" = true) (q_BadTable : PySem.W.keepIn K (.ref c_BadTable) = true) (s_BadTable : PySem.W.subIn K (.ref c_BadTable) (.type "BaseException") = some true) (y_BadTable : PySem.W.typeIn K (.ref c_BadTable) = some (.type "type"))
    {c_BadPlace : Addr} (g_BadPlace : PySem.W.nsIn K mainGlobals "BadPlace" = some (some (.ref c_BadPlace))) (e_BadPlace : PySem.W.excIn K c_BadPlace [.type "ValueError", .type "Exception", .type "BaseException", .type "object"] "ValueError.__new__" = true) (q_BadPlace : PySem.W.keepIn K (.ref c_BadPlace) = true) (s_BadPlace : PySem.W.subIn K (.ref c_BadPlace) (.type "BaseException") = some true) (y_BadPlace : PySem.W.typeIn K (.ref c_BadPlace) = some (.type "type"))
    (m_BadTable_BadTable : PySem.W.subIn K (.ref c_BadTable) (.ref c_BadTable) = some true)
    (h_BadTable : PySem.W.hasDictIn K c_BadTable = true)
    {t_MOST : Tok} (n_MOST : PySem.W.nsIn K mainGlobals "MOST" = some (some (.int 400 t_MOST)))
    : ∃ fd : FuncData, (∀ (s : Shared) (v : Value), BindsTo s fd ⟨[v], []⟩ [("_law_script", v)]) ∧ ∀ base : Heap, K.In base → base.Ns mainGlobals mg → FnOk l.prog w K mg base CX0 4 fa fd ["_law_script"] (spLaw K) := by
  have e := hfa.symm.trans (PySem.W.mg_of X G a_law)
  cases e
  have F_packed := fun_mk (st := s_packed) l_packed c_packed k_packed
  have D_packed : DefAt K mg "packed" s_packed ["lines"] := ⟨_, _, F_packed, PySem.W.mg_of X G a_packed, F_packed.binds (ps := ["lines"]) fun _ _ _ _ _ _ us hl => match us, hl with | [_], _ => rfl⟩
  have F_need_table := fun_mk (st := s_need_table) l_need_table c_need_table k_need_table
  have D_need_table : DefAt K mg "need_table" s_need_table ["table", "many"] := ⟨_, _, F_need_table, PySem.W.mg_of X G a_need_table, F_need_table.binds (ps := ["table", "many"]) fun _ _ _ _ _ _ us hl => match us, hl with | [_, _], _ => rfl⟩
  have F_unpacked := fun_mk (st := s_unpacked) l_unpacked c_unpacked k_unpacked
  have D_unpacked : DefAt K mg "unpacked" s_unpacked ["table", "many"] := ⟨_, _, F_unpacked, PySem.W.mg_of X G a_unpacked, F_unpacked.binds (ps := ["table", "many"]) fun _ _ _ _ _ _ us hl => match us, hl with | [_, _], _ => rfl⟩
  have F_line_at := fun_mk (st := s_line_at) l_line_at c_line_at k_line_at
  have D_line_at : DefAt K mg "line_at" s_line_at ["table", "many", "row"] := ⟨_, _, F_line_at, PySem.W.mg_of X G a_line_at, F_line_at.binds (ps := ["table", "many", "row"]) fun _ _ _ _ _ _ us hl => match us, hl with | [_, _, _], _ => rfl⟩
  have F_rows_of := fun_mk (st := s_rows_of) l_rows_of c_rows_of k_rows_of
  have D_rows_of : DefAt K mg "rows_of" s_rows_of ["table", "many", "line"] := ⟨_, _, F_rows_of, PySem.W.mg_of X G a_rows_of, F_rows_of.binds (ps := ["table", "many", "line"]) fun _ _ _ _ _ _ us hl => match us, hl with | [_, _, _], _ => rfl⟩
  have F_law_begin := fun_mk (st := s_law_begin) l_law_begin c_law_begin k_law_begin
  have D_law_begin : DefAt K mg "_law_begin" s_law_begin ["_law_script"] := ⟨_, _, F_law_begin, PySem.W.mg_of X G a_law_begin, F_law_begin.binds (ps := ["_law_script"]) fun _ _ _ _ _ _ us hl => match us, hl with | [_], _ => rfl⟩
  have F_law_take := fun_mk (st := s_law_take) l_law_take c_law_take k_law_take
  have D_law_take : DefAt K mg "_law_take" s_law_take ["_law_draw", "_law_sides"] := ⟨_, _, F_law_take, PySem.W.mg_of X G a_law_take, F_law_take.binds (ps := ["_law_draw", "_law_sides"]) fun _ _ _ _ _ _ us hl => match us, hl with | [_, _], _ => rfl⟩
  have F_law_told := fun_mk (st := s_law_told) l_law_told c_law_told k_law_told
  have D_law_told : DefAt K mg "_law_told" s_law_told ["_law_table", "_law_many"] := ⟨_, _, F_law_told, PySem.W.mg_of X G a_law_told, F_law_told.binds (ps := ["_law_table", "_law_many"]) fun _ _ _ _ _ _ us hl => match us, hl with | [_, _], _ => rfl⟩
  have F_law := fun_mk (st := s_law) l_law c_law k_law
  have D_law : DefAt K mg "law" s_law ["_law_script"] := ⟨_, _, F_law, PySem.W.mg_of X G a_law, F_law.binds (ps := ["_law_script"]) fun _ _ _ _ _ _ us hl => match us, hl with | [_], _ => rfl⟩
  have B : Blt mg := ⟨PySem.W.mg_none_of X G z_abs, PySem.W.mg_none_of X G z_enumerate, PySem.W.mg_none_of X G z_len, PySem.W.mg_none_of X G z_list, PySem.W.mg_none_of X G z_range, PySem.W.mg_none_of X G z_sorted⟩
  have M_BadTable_BadTable : PySem.W.exmOne K (.ref c_BadTable) (.ref c_BadTable) = some true := PySem.W.exm_ref s_BadTable h_BadTable y_BadTable m_BadTable_BadTable
  have X_BadTable : ExcAt K mg "BadTable" c_BadTable := ⟨PySem.W.mg_of X G g_BadTable, ⟨_, _, _, _, PySem.F.excBase_ValueError, e_BadTable⟩, q_BadTable, s_BadTable, y_BadTable⟩
  have X_BadPlace : ExcAt K mg "BadPlace" c_BadPlace := ⟨PySem.W.mg_of X G g_BadPlace, ⟨_, _, _, _, PySem.F.excBase_ValueError, e_BadPlace⟩, q_BadPlace, s_BadPlace, y_BadPlace⟩
  refine ⟨PySem.W.fnOf "law" "law" (defArgs s_law) (defBody s_law) (defScope s_law) .none kV_law dc_law pm_law an_law cd_law ct_law, fun s v => .of_eq rfl, fun base _ _ => ?_⟩
  have T := ok_take (P := l.prog) (w := w) (base := base) D_law_take B
  have N := ok_need (P := l.prog) (w := w) (base := base) D_need_table B (PySem.W.mg_of X G n_MOST) X_BadTable
  have Un := ok_unpacked D_unpacked B N
  exact ok_law F_law B (ok_begin D_law_begin B) T (ok_packed D_packed B) (ok_told D_law_told B X_BadTable M_BadTable_BadTable Un) (ok_line_at D_line_at B X_BadPlace N) (ok_rows_of D_rows_of B Un)
end L2.U
open PySem PySem.W PyProof.Rows
set_option maxHeartbeats 0 in
theorem PySem.Challenge.cw_hindstep_k09_whole_tables_are_the_shorte_holds : PySem.Challenge.rw_hindstep_k09_whole_tables_are_the_shorte.Holds := by
  w_on; o_law; k_head; (case hw => w_witness2)
  k_fill
  refine L2.walk_of (l := PySem.Challenge.rw_hindstep_k09_whole_tables_are_the_shorte) (n := 63) (k := 4) (x := "_law_script") (CX := fun _ => L2.CX0) (sp := fun w => L2.U.spLaw _) rfl (by decide) rfl ⟨rfl, by decide, by decide⟩ (fun w h Y => PySem.W.kIn_of Y) ?F (fun _ _ a ns hl _ hS => ⟨_, rfl, a, ns, rfl, hS, hl, fun _ => rfl⟩) (fun _ _ _ _ _ h => h)
  case F =>
    intro w mg fa h KX G hmg
    refine' L2.U.all_mk KX G hmg ?a_packed ?l_packed ?c_packed ?k_packed ?a_need_table ?l_need_table ?c_need_table ?k_need_table ?a_unpacked ?l_unpacked ?c_unpacked ?k_unpacked ?a_line_at ?l_line_at ?c_line_at ?k_line_at ?a_rows_of ?l_rows_of ?c_rows_of ?k_rows_of ?a_law_begin ?l_law_begin ?c_law_begin ?k_law_begin ?a_law_take ?l_law_take ?c_law_take ?k_law_take ?a_law_told ?l_law_told ?c_law_told ?k_law_told ?a_law ?l_law ?c_law ?k_law ?z_abs ?z_enumerate ?z_len ?z_list ?z_range ?z_sorted ?g_BadTable ?e_BadTable ?q_BadTable ?s_BadTable ?y_BadTable ?g_BadPlace ?e_BadPlace ?q_BadPlace ?s_BadPlace ?y_BadPlace ?m_BadTable_BadTable ?h_BadTable ?n_MOST
    (case a_packed => k_is)
    (case l_packed => k_is)
    (case c_packed => k_is)
    (case k_packed => k_is)
    (case a_need_table => k_is)
    (case l_need_table => k_is)
    (case c_need_table => k_is)
    (case k_need_table => k_is)
    (case a_unpacked => k_is)
    (case l_unpacked => k_is)
    (case c_unpacked => k_is)
    (case k_unpacked => k_is)
    (case a_line_at => k_is)
    (case l_line_at => k_is)
    (case c_line_at => k_is)
    (case k_line_at => k_is)
    (case a_rows_of => k_is)
    (case l_rows_of => k_is)
    (case c_rows_of => k_is)
    (case k_rows_of => k_is)
    (case a_law_begin => k_is)
    (case l_law_begin => k_is)
    (case c_law_begin => k_is)
    (case k_law_begin => k_is)
    (case a_law_take => k_is)
    (case l_law_take => k_is)
    (case c_law_take => k_is)
    (case k_law_take => k_is)
    (case a_law_told => k_is)
    (case l_law_told => k_is)
    (case c_law_told => k_is)
    (case k_law_told => k_is)
    (case a_law => k_is)
    (case l_law => k_is)
    (case c_law => k_is)
    (case k_law => k_is)
    (case z_abs => k_is)
    (case z_enumerate => k_is)
    (case z_len => k_is)
    (case z_list => k_is)
    (case z_range => k_is)
    (case z_sorted => k_is)
    (case g_BadTable => k_is)
    (case e_BadTable => k_exc)
    (case q_BadTable => k_is)
    (case s_BadTable => k_is)
    (case y_BadTable => k_is)
    (case g_BadPlace => k_is)
    (case e_BadPlace => k_exc)
    (case q_BadPlace => k_is)
    (case s_BadPlace => k_is)
    (case y_BadPlace => k_is)
    (case m_BadTable_BadTable => k_is)
    (case h_BadTable => k_is)
    (case n_MOST => k_is)
#print axioms PySem.Challenge.cw_hindstep_k09_whole_tables_are_the_shorte_holds
