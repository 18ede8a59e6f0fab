import PyProof.Rows.All
import Wide.All
import OpenK.AllK
import Wide.FinOn
import HandS.ForMost
import HandS.ForExc
import HandS.IsInst
import HandS.Zip
import HandS.More
import KE.RegKIsAll
import HandS.Style
import HandS.TryMany
import HandS.Conv
import HandS.SortInts
import HandS.ExcIs
import HandS.Defaults
import HandS.RaiseMore
import KE.KUnpackStar
import HandS.Text
import HandS.Strs
import KE.IntTextText
import PySem.Challenge.RW_hindstep_k02_reckonings_read
set_option Elab.async false
set_option linter.all false
set_option maxRecDepth 100000
set_option maxHeartbeats 4000000
/-! U: rules that ask no kind of their parts (the union of the layer's), and steps that read them. Own text. -/
namespace L2.U
open PySem PySem.Spec PyProof.Rows
/-! ### unions -/
section
variable {X : Cx}
def rAddU (K : PySem.W.Frag) : R2 := fun x y H Q => rI0 (fun i j => .int (i + j)) x y H Q ∨ (∃ i j, x = .str i ∧ y = .str j ∧ i.length + j.length ≤ sizeLine ∧ Q (.str (i ++ j)) H) ∨ rCat x y H Q ∨ rCatT K x y H Q
theorem o_add {K : PySem.W.Frag} (h : X.K = K := by rfl) : OpR X (binaryOp .Add) (rAddU K) := h ▸ op_add.or (op_add_str.or (op_cat.or op_catT))
def rMulU : R2 := fun x y H Q => rI CMul (fun i j => .int (i * j)) x y H Q ∨ rRep x y H Q
theorem o_mul : OpR X (binaryOp .Mult) rMulU := op_mul.or op_rep
def rSubU : R2 := rI0 (fun i j => .int (i - j))
theorem o_sub : OpR X (binaryOp .Sub) rSubU := op_sub
def rDivU : R2 := rI CDivN fun i j => .int (i.fdiv j)
theorem o_div : OpR X (binaryOp .FloorDiv) rDivU := op_fdivN
def rModU : R2 := rI (fun _ j => j ≠ 0) fun i j => .int (i.fmod j)
theorem o_mod : OpR X (binaryOp .Mod) rModU := op_modN
def rPowU : R2 := rI CPow fun i j => .int (i ^ j.toNat)
theorem o_pow : OpR X (binaryOp .Pow) rPowU := op_pow
def rEqU (K : PySem.W.Frag) : R2 := fun x y H Q => rEq x y H Q ∨ rEqD K x y H Q
theorem o_eq {K : PySem.W.Frag} (hu : X.A.units + 64 < cLine) (h : X.K = K := by rfl) : OpR X (compareOp .Eq) (rEqU K) := h ▸ op_eq.or (op_eqD hu)
def rNeU (K : PySem.W.Frag) : R2 := fun x y H Q => rNe x y H Q ∨ rNeD K x y H Q
theorem o_ne {K : PySem.W.Frag} (hu : X.A.units + 64 < cLine) (h : X.K = K := by rfl) : OpR X (compareOp .NotEq) (rNeU K) := h ▸ op_ne.or (op_neD hu)
def rLtU : R2 := rI0 fun i j => .bl (decide (i < j))
theorem o_lt : OpR X (compareOp .Lt) rLtU := op_lt
def rLeU : R2 := rI0 fun i j => .bl (decide (i ≤ j))
theorem o_le : OpR X (compareOp .LtE) rLeU := op_le
def rGtU : R2 := rI0 fun i j => .bl (decide (j < i))
theorem o_gt : OpR X (compareOp .Gt) rGtU := op_gt
def rGeU : R2 := rI0 fun i j => .bl (decide (j ≤ i))
theorem o_ge : OpR X (compareOp .GtE) rGeU := op_ge
def rSgn (neg : Bool) : R2 := fun x y H Q => ∃ (c : Nat) (z : Str), x = .str ⟨#[c]⟩ ∧ y = .str z ∧ Q (.bl (if neg then !decide (c ∈ z.cps.toList) else decide (c ∈ z.cps.toList))) H
def rSub (neg : Bool) : R2 := fun x y H Q => ∃ i j, x = .str i ∧ y = .str j ∧ Q (.bl (if neg then !(!(Builtin.Str.occurrences j i 0 j.length 1).isEmpty) else !(Builtin.Str.occurrences j i 0 j.length 1).isEmpty)) H
def rInU (K : PySem.W.Frag) (neg : Bool) : R2 := fun x y H Q => rSgn neg x y H Q ∨ rIn K neg x y H Q ∨ rSub neg x y H Q
theorem o_in {K : PySem.W.Frag} (h : X.K = K := by rfl) : OpR X (compareOp .In) (rInU K false) := h ▸ OpR.or (r := rSgn false) op_in_sign (OpR.or op_in_seq (r' := rSub false) op_in_str)
theorem o_notIn {K : PySem.W.Frag} (h : X.K = K := by rfl) : OpR X (compareOp .NotIn) (rInU K true) := h ▸ OpR.or (r := rSgn true) op_notIn_sign (OpR.or op_notIn_seq (r' := rSub true) op_notin_str)
def rIsU (neg : Bool) : R2 := fun x y H Q => y = .non ∧ Q (.bl (if neg then !decide (x = .non) else decide (x = .non))) H
theorem o_is : OpR X (compareOp .Is) (rIsU false) := op_isN
theorem o_isNot : OpR X (compareOp .IsNot) (rIsU true) := op_notN
def rSlU (K : PySem.W.Frag) : V → Option Int → Option Int → Hp → VK → Prop := fun x lo hi H Q => rSlL K x lo hi H Q ∨ rSlT K x lo hi H Q ∨ rSlS x lo hi H Q
theorem sl_u {K : PySem.W.Frag} (h : X.K = K := by rfl) : SlR X (rSlU K) := h ▸ sl_list.or (sl_tup.or sl_str)
theorem u_ix {K : PySem.W.Frag} (h : X.K = K := by rfl) : IxR X (rIx K) := h ▸ ix_seq
theorem u_len {K : PySem.W.Frag} (h : X.K = K := by rfl) : CallR X (.builtin "len") (fun xs H Q => ∃ x n, xs = [x] ∧ LenV K x H n ∧ Q (.int n) H) := h ▸ call_len
theorem u_all {K : PySem.W.Frag} (hc : X.calm = true) (h : X.K = K := by rfl) : CallR X (.builtin "all") (rAll K) := h ▸ cr_all hc
theorem u_any {K : PySem.W.Frag} (hc : X.calm = true) (h : X.K = K := by rfl) : CallR X (.builtin "any") (rAny K) := h ▸ cr_any hc
theorem u_sum {K : PySem.W.Frag} (hc : X.calm = true) (h : X.K = K := by rfl) : CallR X (.builtin "sum") (rSum K) := h ▸ cr_sum hc
theorem u_sortedI {K : PySem.W.Frag} (h : X.K = K := by rfl) : CallR X (.builtin "sorted") (rSortedI K) := h ▸ cr_sortedI
theorem u_isi {K : PySem.W.Frag} (h : X.K = K := by rfl) : CallR X (.builtin "isinstance") (rIsi K) := h ▸ call_isi
theorem u_isiT {K : PySem.W.Frag} (h : X.K = K := by rfl) : CallR X (.builtin "isinstance") (rIsiT K) := h ▸ call_isiT
theorem u_join {K : PySem.W.Frag} {o e : Expr} {to te : TE} {apos pos : Pos} (ho : PE X o to) (he : PE X e te) (h : X.K = K := by rfl) (hs : starEach [e] X.env = [(false, eval e X.env)] := by rfl) (hbase : attributeBase o "join" X.env (eval o X.env) = eval o X.env := by rfl) (hline : (apos.endLine == pos.line) = true := by rfl) :
    PE X (.Call (.Attribute o "join" apos) [e] [] pos) (tM1 (fun x xs H Q => ∃ a p, ∃ ys : List Str, x = .str a ∧ xs = [.ref p] ∧ (SqL K H p (ys.map V.str) ∨ SqT K H p (ys.map V.str)) ∧
      (ys.map (·.length)).sum + ys.length * a.length ≤ 16777216 ∧ Q (.str (Txt.join a ys)) H) to te) := h ▸ pe_join ho he hs hbase hline
theorem u_bm {K : PySem.W.Frag} {T : String} {id : String} {name : Str} {r : V → List V → Hp → VK → Prop} {o e : Expr} {es : List Expr} {to : TE} {t : TA} {apos cpos : Pos} (pa : PlainAttrs T) (slot : Slot T name id) (hty : typeOf (.builtin id) = pure (.type "method_descriptor")) (hm : MtR X id r) (ho : PE X o to) (ha : PA X (e :: es) t) (h : X.K = K := by rfl)
    (hbase : attributeBase o name X.env (eval o X.env) = eval o X.env := by rfl)
    (hfew : ((backTo cpos (starEach (e :: es) X.env)).all (fun x => !x.1) && (backToKw cpos (keywordEach [] X.env)).all (fun x => x.1.isSome)
      && decide ((e :: es).length + ([] : List Keyword).length + (if ([] : List Keyword).isEmpty then 0 else 1) < 30)) = true := by rfl)
    (hline : (apos.endLine == cpos.line) = true := by rfl) (hs : starEach (e :: es) X.env = (false, eval e X.env) :: starEach es X.env := by rfl) (hplain : (backTo cpos (starEach es X.env)).any (·.1) = false := by rfl) :
    PE X (.Call (.Attribute o name apos) (e :: es) [] cpos) (tBM K T r to t) := h ▸ pe_bm pa slot hty hm ho ha hbase hfew hline hs hplain
theorem u_bm0 {K : PySem.W.Frag} {T : String} {id : String} {name : Str} {r : V → List V → Hp → VK → Prop} {o : Expr} {to : TE} {apos cpos : Pos} (pa : PlainAttrs T) (slot : Slot T name id) (hty : typeOf (.builtin id) = pure (.type "method_descriptor")) (hm : MtR X id r) (ho : PE X o to) (h : X.K = K := by rfl)
    (hbase : attributeBase o name X.env (eval o X.env) = eval o X.env := by rfl) (hline : (apos.endLine == cpos.line) = true := by rfl) : PE X (.Call (.Attribute o name apos) [] [] cpos) (tBM0 K T r to) := h ▸ pe_bm0 pa slot hty hm ho hbase hline
theorem u_tup {K : PySem.W.Frag} {es : List Expr} {k : Nat} {pos : Pos} {t : TGs} {n : Nat} (hc : X.calm = true) (h : PGs X es t) (hK : X.K = K := by rfl)
    (hn : (assignEach es X.env).length = n := by rfl) (hst : (assignEach es X.env).findIdx? (·.1) = none := by rfl) : PG X (.Tuple es k pos) (gTup K n t) := hK ▸ pg_tup hc h hn hst
theorem u_iList {K : PySem.W.Frag} {tg l : Expr} {tl : TE} (hl : PE X l tl) (h : X.K = K := by rfl) : PI X tg l (iList K tl) := h ▸ pi_list hl
theorem u_iTup {K : PySem.W.Frag} {tg l : Expr} {tl : TE} (hl : PE X l tl) (h : X.K = K := by rfl) : PI X tg l (iTup K tl) := h ▸ pi_tup hl
end
theorem vals_of_get : ∀ {xs : List V} {us : List Value}, xs.length = us.length → (∀ (i : Nat) x u, xs[i]? = some x → us[i]? = some u → RelV x u) → Vals xs us
  | [], [], _, _ => .nil
  | [], _ :: _, h, _ => by simp at h
  | _ :: _, [], h, _ => by simp at h
  | x :: xs, u :: us, h, k => .cons (k 0 x u rfl rfl) (vals_of_get (by simpa using h) fun i y w a b => k (i + 1) y w (by simpa using a) (by simpa using b))
section
variable {X : Cx}
/-- list(text): its signs -/
def signsV (x : Str) : List V := x.cps.toList.map fun c => .str ⟨#[c]⟩
theorem call_listS (hc : X.calm = true) : CallR X (.type "list") (fun xs H Q => ∃ x, xs = [.str x] ∧ x.length ≤ sizeLine ∧ ∀ l, H l = none → Q (.ref l) (upd H l (.lst (signsV x)))) := by
  intro pins s σ H xs us Q I r h
  obtain ⟨x, rfl, hx, q⟩ := h
  obtain ⟨u, rfl, t, rfl⟩ := vals1 r
  refine call_list_str (I.ok.hd hc) x t (fun h' tk acc' c' hk hS hacc => ?_) hx
  have hv : Vals (signsV x) acc'.toList := vals_of_get (by unfold signsV; rw [List.length_map, Array.length_toList, Array.length_toList, hacc.1]) fun i y w a b => by
    unfold signsV at a
    rw [List.getElem?_map] at a
    obtain ⟨c, hc1, e⟩ := Option.map_eq_some_iff.mp a
    obtain ⟨c', u', hc2, rfl⟩ := hacc.2 i w (by rw [← Array.getElem?_toList]; exact b)
    rw [← Array.getElem?_toList, hc1] at hc2
    cases hc2
    rw [← e]
    exact ⟨u', rfl⟩
  exact ⟨.ref s.heap.objs.size, _, I.laid (t' := tk) hk (Nat.le_refl _) (show ObjOk X.prog X.w _ h' _ (.lst (signsV x)) from ⟨by unfold signsV; rw [List.length_map, Array.length_toList]; exact hx, acc'.toList, c', hv, hS⟩), rfl, q _ (I.hok.fresh (Nat.le_refl _))⟩
def rListU (K : PySem.W.Frag) : List V → Hp → VK → Prop := fun xs H Q => (∃ p ys, xs = [.ref p] ∧ (SqL K H p ys ∨ SqT K H p ys) ∧ ∀ l, H l = none → Q (.ref l) (upd H l (.lst ys))) ∨ (∃ x, xs = [.str x] ∧ x.length ≤ sizeLine ∧ ∀ l, H l = none → Q (.ref l) (upd H l (.lst (signsV x))))
theorem call_listU {K : PySem.W.Frag} (hc : X.calm = true) (h : X.K = K := by rfl) : CallR X (.type "list") (rListU K) := h ▸ CallR.or call_list_of (call_listS hc)
end
/-! ### defs -/
structure OkF (P : Program) (w : World) (K : PySem.W.Frag) (mg : Str → Option Value) (base : Heap) (CX : CXT) (k : Nat) (x : Str) (ps : List Str) (sp : Sp) : Prop where
  ex : ∃ (f : Addr) (fd : FuncData), mg x = some (.ref f) ∧ PySem.W.keepIn K (.ref f) = true ∧ Binds K fd ps [] ∧ FnOk P w K mg base CX k f fd ps sp
structure DefAt (K : PySem.W.Frag) (mg : Str → Option Value) (x : Str) (st : Stmt) (ps : List Str) : Prop where
  ex : ∃ (f : Addr) (fd : FuncData), Fun K x x st f fd ∧ mg x = some (.ref f) ∧ Binds K fd ps []
section
variable {P : Program} {w : World} {K : PySem.W.Frag} {mg : Str → Option Value} {base : Heap} {x : Str} {st : Stmt} {N ps : List Str} {k : Nat} {sp : Sp}
theorem DefAt.ok (D : DefAt K mg x st ps) (S : FnScope N ps (defScope st)) (len : ∀ vs H Q E, sp vs H Q E → vs.length = ps.length)
    (hbody : ∀ (f : Addr) (cdv : Value) (A : Around) (outer : List Env) (s : Shared) (H : Hp) (vs : List V) (Q : VK) (E : XK), Room k (A.deeper (envOfC x (defScope st) s.heap.objs.size f cdv)) → sp vs H Q E →
      ∃ t, PSs (cxOf CX0 P w K mg base N x (defScope st) f cdv A outer s H E).nox (defBody st) t ∧ t { nx := fun _ H' => Q .non H', rt := Q } (start N vs) H) : OkF P w K mg base CX0 (k + 1) x ps sp := by
  obtain ⟨f, fd, F, g, b⟩ := D.ex
  exact ⟨f, fd, g, F.kp, b, F.ok S len fun cdv A outer s H vs Q E hr h => hbody f cdv A outer s H vs Q E hr h⟩
theorem DefAt.okX (D : DefAt K mg x st ps) (S : FnScope N ps (defScope st)) (len : ∀ vs H Q E, sp vs H Q E → vs.length = ps.length)
    (hbody : ∀ (f : Addr) (cdv : Value) (A : Around) (outer : List Env) (s : Shared) (H : Hp) (vs : List V) (Q : VK) (E : XK), Room k (A.deeper (envOfC x (defScope st) s.heap.objs.size f cdv)) → sp vs H Q E →
      ∃ t, PSs (cxOf (L2.CX P w) P w K mg base N x (defScope st) f cdv A outer s H E) (defBody st) t ∧ t { nx := fun _ H' => Q .non H', rt := Q } (start N vs) H) : OkF P w K mg base (L2.CX P w) (k + 1) x ps sp := by
  obtain ⟨f, fd, F, g, b⟩ := D.ex
  exact ⟨f, fd, g, F.kp, b, F.okX S len fun cdv A outer s H vs Q E hr h => hbody f cdv A outer s H vs Q E hr h⟩
theorem DefAt.okNo {CX : CXT} (D : DefAt K mg x st ps) (h : ∀ vs H Q E, ¬ sp vs H Q E) : OkF P w K mg base CX k x ps sp := by
  obtain ⟨f, fd, F, g, b⟩ := D.ex
  exact ⟨f, fd, g, F.kp, b, fun vs H Q E z => (h _ _ _ _ z).elim, fun A outer s H args us vs Q E _ _ _ _ z => (h _ _ _ _ z).elim⟩
theorem OkF.mono {CX : CXT} {j : Nat} (O : OkF P w K mg base CX j x ps sp) (h : j ≤ k) : OkF P w K mg base CX k x ps sp := by
  obtain ⟨f, fd, a, b, c, d⟩ := O.ex
  exact ⟨f, fd, a, b, c, d.mono h⟩
end
section
variable {X : Cx} {CX : CXT} {k : Nat} {x : Str} {ps : List Str} {sp : Sp} {E : XK} {p pos : Pos} {e : Expr} {es : List Expr} {t : TA}
theorem u_call (O : OkF X.prog X.w X.K X.mg X.base CX k x ps sp) (hr : Room k X.A) (hx : Passes CX X E) (ha : PA X (e :: es) t) (hg : Gl X x := by rfl) (hdb : (x == ("__debug__" : Str)) = false := by decide)
    (he : starEach (e :: es) X.env = (false, eval e X.env) :: starEach es X.env := by rfl) (hpl : (backTo pos (starEach es X.env)).any (·.1) = false := by rfl) :
    PE X (.Call (.Name x p) (e :: es) [] pos) (tCall sp [] E t) := by
  obtain ⟨f, fd, hm, hk, hb, F⟩ := O.ex
  exact pe_call F hr hg hm hk hb .nil hx ha hdb he hpl
theorem u_call0 (O : OkF X.prog X.w X.K X.mg X.base CX k x ps sp) (hr : Room k X.A) (hx : Passes CX X E) (hg : Gl X x := by rfl) (hdb : (x == ("__debug__" : Str)) = false := by decide) :
    PE X (.Call (.Name x p) [] [] pos) (tCall sp [] E tNil) := by
  obtain ⟨f, fd, hm, hk, hb, F⟩ := O.ex
  exact pe_call0 F hr hg hm hk hb .nil hx hdb
end
/-! ### own exceptions without __init__ -/
structure ExcAt (K : PySem.W.Frag) (mg : Str → Option Value) (x : Str) (C : Addr) : Prop where
  g : mg x = some (.ref C)
  ex : ∃ (bmB : List Value) (B newId initId : String), ExcBaseFacts B newId initId bmB ∧ PySem.W.excIn K C bmB newId = true
  kp : PySem.W.keepIn K (.ref C) = true
  sb : PySem.W.subIn K (.ref C) (.type "BaseException") = some true
  ty : PySem.W.typeIn K (.ref C) = some (.type "type")
section
variable {X : Cx} {x : Str} {C : Addr} {p pos : Pos}
/-- X() -/
theorem u_exc (T : ExcAt X.K X.mg x C) (hg : Gl X x := by rfl) (hdb : (x == ("__debug__" : Str)) = false := by decide) : PMk X (.Call (.Name x p) [] [] pos) (fun _ H Q => Q (.ref C) none H) := by
  intro pins s σ H Q I h
  refine wpAny_Call_Name_kw (ld_glob I hg T.g ?_ hdb)
  obtain ⟨bmB, B, newId, initId, F, q⟩ := T.ex
  refine PySem.W.callWith_K0 I.kIn T.kp ?_
  obtain ⟨bm, N, nm, qn, bs, hdct, sn, sub, ab, col, dd, k0, k1, k2, k3, k5, mN, hC, hN, hni, TT⟩ := exc_obj I.kIn q
  refine wpAny_call_exc_subT F TT hC hN hni (fun h' e hm => ?_) (Nat.zero_le _)
  exact mk_of I hm (raises_own T.sb T.ty) h (I.hok.gone hm.new)
theorem names_own (T : ExcAt X.K X.mg x C) (hg : Gl X x := by rfl) (hdb : (x == ("__debug__" : Str)) = false := by decide) : Names X x (.ref C) := ⟨hg, hdb, .inl T.g⟩
end
section
variable {X : Cx} {CX : CXT} {k : Nat} {x : Str} {ps : List Str} {sp : Sp} {p pos : Pos} {e : Expr} {es : List Expr} {t : TA}
/-- a call within a try's body: what it lets out is wished for at the slots -/
theorem u_callS {W : WX} (O : OkF X.prog X.w X.K X.mg X.base (L2.CX X.prog X.w) k x ps sp) (hr : Room k X.A) (tk : Takes X W) (ha : PA X (e :: es) t) (hg : Gl X x := by rfl) (hdb : (x == ("__debug__" : Str)) = false := by decide)
    (he : starEach (e :: es) X.env = (false, eval e X.env) :: starEach es X.env := by rfl) (hpl : (backTo pos (starEach es X.env)).any (·.1) = false := by rfl) :
    PE X (.Call (.Name x p) (e :: es) [] pos) (tCallS sp (WE W) t) := by
  obtain ⟨f, fd, hm, hk, hb, F⟩ := O.ex
  exact pe_callS F hr hg hm hk hb (fun σ => passAt tk σ) ha hdb he hpl
end
/-- try .. except: the wish at the body's exceptions depends on the ends -/
def tTry (tb : WX → TS) (W : Ends → WX) : TS := fun D σ H => tb (W D) D σ H
section
variable {X : Cx} {x n : Str} {c : Value} {i : Nat} {body suite : List Stmt} {b₀ : Stmt} {np pos pos' : Pos} {tb : WX → TS} {ts : Addr → Value → Option Addr → TS} {Wout : WX}
theorem u_try_only {K : PySem.W.Frag} (hs : X.stack = X.env :: X.outer) (hf : X.env.frame = some X.env.locals) (hc : Names X x c) (tk : Takes X Wout)
    (hb : ∀ (W : WX) (pn : List (Addr × Obj)) (xe : Value → Shared → Prop), Takes (X.tr pn xe) W → PassesOwn (model X.prog X.w) X.A X.env xe → PSs (X.tr pn xe) body (tb W))
    (hsu : ∀ (a : Addr) (oe : Obj) (cls : Value) (d : Option Addr) (pn : List (Addr × Obj)), Zc cls d oe → (∃ vs, oe.data = .fields vs) → PSs (X.suite a ((a, oe) :: pn)) (b₀ :: suite) (ts a cls d)) (h : X.K = K := by rfl) :
    PS X (.Try body [.ExceptHandler (some (.Name x np)) none (b₀ :: suite) pos'] [] [] pos) (tTry tb (wOnly K c ts Wout)) := h ▸ ps_try_only hs hf hc tk hb hsu
theorem u_try_many {K : PySem.W.Frag} {h₀ : ExceptHandler} {hds : List ExceptHandler} {l : List (Value × (Addr → Value → Option Addr → TS))} (hs : X.stack = X.env :: X.outer) (hf : X.env.frame = some X.env.locals) (tk : Takes X Wout)
    (hb : ∀ (W : WX) (pn : List (Addr × Obj)) (xe : Value → Shared → Prop), Takes (X.tr pn xe) W → PassesOwn (model X.prog X.w) X.A X.env xe → PSs (X.tr pn xe) body (tb W))
    (hh : HdsOk X (h₀ :: hds) l) (h : X.K = K := by rfl) : PS X (.Try body (h₀ :: hds) [] [] pos) (tTry tb fun D => wMany K Wout D l) := h ▸ ps_try_many hs hf tk hb hh
end
def rEnumU (K : PySem.W.Frag) (ta : TA) : TI := fun σ H R => ta σ H fun vs H1 => ∃ a xs, vs = [.ref a] ∧ SqL K H1 a xs ∧ R (Ite K a) H1
theorem u_enum {X : Cx} {K : PySem.W.Frag} {e : Expr} {ta : TA} {p pos tpos : Pos} {elts : List Expr} {kk : Nat} (hm : X.mg "enumerate" = none) (ha : PA X [e] ta) (hg : Gl X "enumerate" := by rfl) (h : X.K = K := by rfl) (hs : starEach [e] X.env = [(false, eval e X.env)] := by rfl) :
    PI X (.Tuple elts kk tpos) (.Call (.Name "enumerate" p) [e] [] pos) (rEnumU K ta) := h ▸ pi_enum hg hm ha hs
def ipU : TIp := fun x y H Q => rI0 (fun i j => .int (i + j)) x y H Q ∨ rExt2 x y H Q
theorem ip_addU {X : Cx} : PIp X .Add ipU := by
  intro pins s σ H x y v u Q I rx ry h
  rcases h with h | h
  · obtain ⟨i, j, rfl, rfl, q⟩ := h
    exact ip_add pins s σ H _ _ v u Q I rx ry ⟨i, j, rfl, rfl, q⟩
  · exact iop_ext pins s σ H x y v u Q I rx ry h
/-! ### promises by the number of arguments -/
def sp1 (p : V → Hp → VK → XK → Prop) : Sp := fun vs H Q E => ∃ a, vs = [a] ∧ p a H Q E
def sp2 (p : V → V → Hp → VK → XK → Prop) : Sp := fun vs H Q E => ∃ a b, vs = [a, b] ∧ p a b H Q E
def sp3 (p : V → V → V → Hp → VK → XK → Prop) : Sp := fun vs H Q E => ∃ a b c, vs = [a, b, c] ∧ p a b c H Q E
def sp4 (p : V → V → V → V → Hp → VK → XK → Prop) : Sp := fun vs H Q E => ∃ a b c d, vs = [a, b, c, d] ∧ p a b c d H Q E
theorem len4 {p} : ∀ vs H Q E, sp4 p vs H Q E → vs.length = 4 := by
  rintro _ _ _ _ ⟨_, _, _, _, rfl, _⟩
  rfl
theorem len1 {p} : ∀ vs H Q E, sp1 p vs H Q E → vs.length = 1 := by
  rintro _ _ _ _ ⟨_, rfl, _⟩
  rfl
theorem len2 {p} : ∀ vs H Q E, sp2 p vs H Q E → vs.length = 2 := by
  rintro _ _ _ _ ⟨_, _, rfl, _⟩
  rfl
theorem len3 {p} : ∀ vs H Q E, sp3 p vs H Q E → vs.length = 3 := by
  rintro _ _ _ _ ⟨_, _, _, rfl, _⟩
  rfl
/-! ### truth -/
def tTr (K : PySem.W.Frag) (ta : TE) : TT := fun σ H Q => ta σ H fun x H' => ∃ k, TruV K x H' k ∧ Q k H'
theorem u_truth {X : Cx} {a : Expr} {ta : TE} (ha : PE X a ta) {K : PySem.W.Frag} (he : ∀ whole, isTrue a X.env whole = (do let v ← whole; standAt a.pos; holding [v] (truthy v)) := by intro _; rfl) (h : X.K = K := by rfl) : PT X a (tTr K ta) := h ▸ pt_truth ha he
theorem sz {n : Nat} (h : Nat.ble n 16777216 = true) : n ≤ sizeLine := by
  rw [show sizeLine = 16777216 from sizeLine_eq]
  exact Nat.le_of_ble_eq_true h
theorem sz_of {n : Nat} (h : n ≤ 1000) : n ≤ sizeLine := Nat.le_of_lt (small1000 h)
/-! ### steps of a reading -/
section
variable {σ : St} {H : Hp} {Q : VK} {QB : Bool → Hp → Prop} {QA : List V → Hp → Prop} {v x y : V} {i j : Int} {n m : Nat} {a b : Str} {p q : Addr} {xs ys : List V} {ta tb tc : TE} {tt uu : TT} {tr : TA} {K : PySem.W.Frag} {D : Ends} {ts us : TS} {o : HO} {E : XK} {k : Bool}
theorem s_var (h : σ[n]? = some (some v)) (z : Q v H) : tVar n σ H Q := ⟨v, h, z⟩
theorem s_c (z : Q v H) : tC v σ H Q := z
theorem s_op {r : R2} (z : ta σ H fun x H1 => tb σ H1 fun y H2 => r x y H2 Q) : tOp r ta tb σ H Q := z
theorem s_un {r : V → Hp → VK → Prop} (z : ta σ H fun x H1 => r x H1 Q) : tUn r ta σ H Q := z
theorem s_neg (z : Q (.int (-i)) H) : rU (fun i => .int (-i)) (.int i) H Q := ⟨i, rfl, z⟩
theorem s_test (z : ta σ H fun x H' => ∃ k, x = .bl k ∧ QB k H') : tTest ta σ H QB := z
theorem s_tB (z : ta σ H fun x H' => ∃ k, x = .bl k ∧ QB k H') : tB ta σ H QB := z
theorem s_bl {R : Bool → Prop} (z : R k) : ∃ k', V.bl k = .bl k' ∧ R k' := ⟨k, rfl, z⟩
theorem s_add (z : Q (.int (i + j)) H) : rAddU K (.int i) (.int j) H Q := .inl ⟨i, j, rfl, rfl, z⟩
theorem s_addS (h : a.length + b.length ≤ sizeLine) (z : Q (.str (a ++ b)) H) : rAddU K (.str a) (.str b) H Q := .inr (.inl ⟨a, b, rfl, rfl, h, z⟩)
theorem s_addL (h1 : H p = some (.lst xs)) (h2 : H q = some (.lst ys)) (h : xs.length + ys.length ≤ sizeLine) (z : ∀ l, H l = none → Q (.ref l) (upd H l (.lst (xs ++ ys)))) : rAddU K (.ref p) (.ref q) H Q :=
  .inr (.inr (.inl ⟨p, q, xs, ys, rfl, rfl, h1, h2, h, z⟩))
theorem s_mul (h : CMul i j) (z : Q (.int (i * j)) H) : rMulU (.int i) (.int j) H Q := .inl ⟨i, j, rfl, rfl, h, z⟩
theorem s_rep (h : H p = some (.lst xs)) (h1 : -(2 ^ 63) ≤ j) (h2 : j < 2 ^ 63) (h3 : xs.length * j.toNat ≤ sizeLine) (z : ∀ l, H l = none → Q (.ref l) (upd H l (.lst (List.replicate j.toNat xs).flatten))) : rMulU (.ref p) (.int j) H Q :=
  .inr ⟨p, j, xs, rfl, rfl, h, h1, h2, h3, z⟩
theorem s_sub (z : Q (.int (i - j)) H) : rSubU (.int i) (.int j) H Q := ⟨i, j, rfl, rfl, z⟩
theorem s_div (h : CDivN i j) (z : Q (.int (i.fdiv j)) H) : rDivU (.int i) (.int j) H Q := ⟨i, j, rfl, rfl, h, z⟩
theorem s_mod (h : j ≠ 0) (z : Q (.int (i.fmod j)) H) : rModU (.int i) (.int j) H Q := ⟨i, j, rfl, rfl, h, z⟩
theorem s_pow (h : CPow i j) (z : Q (.int (i ^ j.toNat)) H) : rPowU (.int i) (.int j) H Q := ⟨i, j, rfl, rfl, h, z⟩
theorem s_lt (z : Q (.bl (decide (i < j))) H) : rLtU (.int i) (.int j) H Q := ⟨i, j, rfl, rfl, z⟩
theorem s_le (z : Q (.bl (decide (i ≤ j))) H) : rLeU (.int i) (.int j) H Q := ⟨i, j, rfl, rfl, z⟩
theorem s_gt (z : Q (.bl (decide (j < i))) H) : rGtU (.int i) (.int j) H Q := ⟨i, j, rfl, rfl, z⟩
theorem s_ge (z : Q (.bl (decide (j ≤ i))) H) : rGeU (.int i) (.int j) H Q := ⟨i, j, rfl, rfl, z⟩
theorem s_eq (h : scal x y = true) (z : Q (.bl (decide (x = y))) H) : rEqU K x y H Q := .inl ⟨h, z⟩
theorem s_ne (h : scal x y = true) (z : Q (.bl (!decide (x = y))) H) : rNeU K x y H Q := .inl ⟨h, z⟩
theorem s_eqD {d e : PyData} (hx : Dp K H x d) (hy : Dp K H y e) (sd : SeqAt.shaped d = true) (se : SeqAt.shaped e = true) (z : Q (.bl (PyData.eqv d e)) H) : rEqU K x y H Q := .inr ⟨d, e, hx, hy, sd, se, z⟩
theorem s_neD {d e : PyData} (hx : Dp K H x d) (hy : Dp K H y e) (sd : SeqAt.shaped d = true) (se : SeqAt.shaped e = true) (z : Q (.bl (!PyData.eqv d e)) H) : rNeU K x y H Q := .inr ⟨d, e, hx, hy, sd, se, z⟩
theorem s_isN (z : Q (.bl (decide (x = .non))) H) : rIsU false x .non H Q := ⟨rfl, z⟩
theorem s_notN (z : Q (.bl (!decide (x = .non))) H) : rIsU true x .non H Q := ⟨rfl, z⟩
theorem s_inS {c : Nat} (z : Q (.bl (decide (c ∈ a.cps.toList))) H) : rInU K false (.str ⟨#[c]⟩) (.str a) H Q := .inl ⟨c, a, rfl, rfl, z⟩
theorem s_notInS {c : Nat} (z : Q (.bl (!decide (c ∈ a.cps.toList))) H) : rInU K true (.str ⟨#[c]⟩) (.str a) H Q := .inl ⟨c, a, rfl, rfl, z⟩
theorem s_inL (h : SqL K H p xs ∨ SqT K H p xs) (h1 : flatV x = true) (h2 : xs.all flatV = true) (z : Q (.bl (inV x xs)) H) : rInU K false x (.ref p) H Q := .inr (.inl ⟨p, xs, rfl, h, h1, h2, z⟩)
theorem s_notInL (h : SqL K H p xs ∨ SqT K H p xs) (h1 : flatV x = true) (h2 : xs.all flatV = true) (z : Q (.bl (!inV x xs)) H) : rInU K true x (.ref p) H Q := .inr (.inl ⟨p, xs, rfl, h, h1, h2, z⟩)
theorem s_ixL (h : SqL K H p xs) (h1 : atI xs i = some v) (z : Q v H) : rIx K (.ref p) (.int i) H Q := .inl ⟨p, xs, i, v, rfl, rfl, h, h1, z⟩
theorem s_ixT (h : SqT K H p xs) (h1 : atI xs i = some v) (z : Q v H) : rIx K (.ref p) (.int i) H Q := .inr (.inl ⟨p, xs, i, v, rfl, rfl, h, h1, z⟩)
theorem s_ixS {c : Nat} (h : a.length ≤ sizeLine) (h1 : atI a.cps.toList i = some c) (z : Q (.str ⟨#[c]⟩) H) : rIx K (.str a) (.int i) H Q := .inr (.inr ⟨a, i, c, rfl, rfl, h, h1, z⟩)
theorem s_sl {r : V → Option Int → Option Int → Hp → VK → Prop} {tl th : TO} (z : ta σ H fun x H1 => tl σ H1 fun l H2 => th σ H2 fun u H3 => r x l u H3 Q) : tSl r ta tl th σ H Q := z
theorem s_noPart {QO : Option Int → Hp → Prop} (z : QO none H) : tNoPart σ H QO := z
theorem s_part {QO : Option Int → Hp → Prop} (z : ta σ H fun x H1 => ∃ i, x = .int i ∧ QO (some i) H1) : tPart ta σ H QO := z
theorem s_partI {R : Int → Prop} (z : R i) : ∃ i', V.int i = .int i' ∧ R i' := ⟨i, rfl, z⟩
theorem s_slS {lo hi : Option Int} (h : a.length ≤ sizeLine) (z : Q (.str (cutS a lo hi)) H) : rSlU K (.str a) lo hi H Q := .inr (.inr ⟨a, rfl, h, z⟩)
theorem s_slL {lo hi : Option Int} (h : SqL K H p xs) (z : ∀ l, H l = none → Q (.ref l) (upd H l (.lst (cutV xs lo hi)))) : rSlU K (.ref p) lo hi H Q := .inl ⟨p, xs, rfl, h, z⟩
theorem s_nil (z : QA [] H) : tNil σ H QA := z
theorem s_cons (z : ta σ H fun x H1 => tr σ H1 fun xs H2 => QA (x :: xs) H2) : tCons ta tr σ H QA := z
theorem s_tup (z : tr σ H fun xs H1 => xs.length ≤ sizeLine ∧ ∀ p, H1 p = none → Q (.ref p) (upd H1 p (.tup xs))) : tTup tr σ H Q := z
theorem s_lst (z : tr σ H fun xs H1 => xs.length ≤ sizeLine ∧ ∀ p, H1 p = none → Q (.ref p) (upd H1 p (.lst xs))) : tLst tr σ H Q := z
theorem s_new {C : Prop} (h : n ≤ 1000) (z : C) : n ≤ sizeLine ∧ C := ⟨Nat.le_of_lt (small1000 h), z⟩
theorem s_call {sp : Sp} (z : tr σ H fun vs H1 => sp (vs ++ []) H1 Q E) : tCall sp [] E tr σ H Q := z
theorem s_sp1 {P : V → Hp → VK → XK → Prop} (z : P x H Q E) : sp1 P ([x] ++ []) H Q E := ⟨x, rfl, z⟩
theorem s_sp2 {P : V → V → Hp → VK → XK → Prop} (z : P x y H Q E) : sp2 P ([x, y] ++ []) H Q E := ⟨x, y, rfl, z⟩
theorem s_sp3 {P : V → V → V → Hp → VK → XK → Prop} (z : P x y v H Q E) : sp3 P ([x, y, v] ++ []) H Q E := ⟨x, y, v, rfl, z⟩
theorem s_sp4 {w : V} {P : V → V → V → V → Hp → VK → XK → Prop} (z : P x y v w H Q E) : sp4 P ([x, y, v, w] ++ []) H Q E := ⟨x, y, v, w, rfl, z⟩
theorem s_sq4 {w : V} {P : V → V → V → V → Hp → VK → XK → Prop} (z : P x y v w H Q E) : sp4 P [x, y, v, w] H Q E := ⟨x, y, v, w, rfl, z⟩
theorem s_cb {r : List V → Hp → VK → Prop} (z : tr σ H fun vs H1 => r vs H1 Q) : tCB r tr σ H Q := z
theorem s_len {R : Nat → Prop} (h : LenV K x H n) (z : R n) : ∃ x' n', [x] = [x'] ∧ LenV K x' H n' ∧ R n' := ⟨x, n, rfl, h, z⟩
theorem s_and (z : tt σ H fun c H1 => if c = true then uu σ H1 QB else QB false H1) : tAnd tt uu σ H QB := z
theorem s_or (z : tt σ H fun c H1 => if c = true then QB true H1 else uu σ H1 QB) : tOr tt uu σ H QB := z
theorem s_not (z : tt σ H fun c H1 => QB (!c) H1) : tNot tt σ H QB := z
theorem s_andV (z : ta σ H fun x H1 => ∃ c, x = .bl c ∧ if c = true then tb σ H1 Q else Q (.bl false) H1) : tAndV ta tb σ H Q := z
theorem s_orV (z : ta σ H fun x H1 => ∃ c, x = .bl c ∧ if c = true then Q (.bl true) H1 else tb σ H1 Q) : tOrV ta tb σ H Q := z
theorem s_notV (z : ta σ H fun x H1 => ∃ c, x = .bl c ∧ Q (.bl (!c)) H1) : tNotV ta σ H Q := z
theorem s_bln {R : Bool → Prop} (e : k = true) (z : R true) : ∃ k', V.bl k = .bl k' ∧ R k' := ⟨true, by rw [e], z⟩
theorem s_if (z : tt σ H fun c H1 => if c = true then ta σ H1 Q else tb σ H1 Q) : tIf tt ta tb σ H Q := z
theorem s_chain {r r' : R2} (z : ta σ H fun x H1 => tb σ H1 fun y H2 => r x y H2 fun z H3 => ∃ k, z = .bl k ∧ (if k = true then tc σ H3 fun w' H4 => r' y w' H4 Q else Q (.bl false) H3)) : tChain r r' ta tb tc σ H Q := z
theorem s_tr (z : ta σ H fun x H' => ∃ k, TruV K x H' k ∧ QB k H') : tTr K ta σ H QB := z
theorem s_truB {R : Bool → Prop} (z : R k) : ∃ k', TruV K (.bl k) H k' ∧ R k' := ⟨k, rfl, z⟩
theorem s_truL {R : Bool → Prop} (h : SqL K H p xs) (z : R (!xs.isEmpty)) : ∃ k', TruV K (.ref p) H k' ∧ R k' := ⟨_, .inl ⟨xs, h, rfl⟩, z⟩
theorem s_listL (h : SqL K H p xs ∨ SqT K H p xs) (z : ∀ l, H l = none → Q (.ref l) (upd H l (.lst xs))) : rListU K [.ref p] H Q := .inl ⟨p, xs, rfl, h, z⟩
theorem s_listS (h : a.length ≤ sizeLine) (z : ∀ l, H l = none → Q (.ref l) (upd H l (.lst (signsV a)))) : rListU K [.str a] H Q := .inr ⟨a, rfl, h, z⟩
theorem s_m1 {r : V → List V → Hp → VK → Prop} (z : ta σ H fun x H1 => (∃ a, x = .str a) ∧ tb σ H1 fun y H2 => r x [y] H2 Q) : tM1 r ta tb σ H Q := z
theorem s_m0 {r : V → List V → Hp → VK → Prop} (z : ta σ H fun x H1 => (∃ a, x = .str a) ∧ r x [] H1 Q) : tM0 r ta σ H Q := z
theorem s_isStr {C : Prop} (z : C) : (∃ b, V.str a = .str b) ∧ C := ⟨⟨a, rfl⟩, z⟩
theorem s_enum {R : It → Hp → Prop} (z : tr σ H fun vs H1 => ∃ a xs, vs = [.ref a] ∧ SqL K H1 a xs ∧ R (Ite K a) H1) : rEnumU K tr σ H R := z
theorem s_enumL {R : Addr → Prop} (h : SqL K H p xs) (z : R p) : ∃ a xs, [V.ref p] = [.ref a] ∧ SqL K H a xs ∧ R a := ⟨p, xs, rfl, h, z⟩
theorem s_callS {sp : Sp} {EE : St → XK} (z : tr σ H fun vs H1 => sp vs H1 Q (EE σ)) : tCallS sp EE tr σ H Q := z
theorem s_sq1 {P : V → Hp → VK → XK → Prop} (z : P x H Q E) : sp1 P [x] H Q E := ⟨x, rfl, z⟩
theorem s_sq2 {P : V → V → Hp → VK → XK → Prop} (z : P x y H Q E) : sp2 P [x, y] H Q E := ⟨x, y, rfl, z⟩
theorem s_sq3 {P : V → V → V → Hp → VK → XK → Prop} (z : P x y v H Q E) : sp3 P [x, y, v] H Q E := ⟨x, y, v, rfl, z⟩
theorem s_aug {ti : TIp} (h : σ[n]? = some (some x)) (z : ta σ H fun y H1 => ti x y H1 fun z H2 => D.nx (σ.set n (some z)) H2) : tAug n ta ti D σ H := ⟨x, h, z⟩
theorem s_ipI (z : Q (.int (i + j)) H) : ipU (.int i) (.int j) H Q := .inl ⟨i, j, rfl, rfl, z⟩
theorem s_ipL (h1 : H p = some (.lst xs)) (h2 : H q = some (.lst ys)) (h : xs.length + ys.length ≤ sizeLine) (z : Q (.ref p) (upd H p (.lst (xs ++ ys)))) : ipU (.ref p) (.ref q) H Q := .inr ⟨p, q, xs, ys, rfl, rfl, h1, h2, h, z⟩
theorem s_bm {T : String} {r : V → List V → Hp → VK → Prop} (z : ta σ H fun x H1 => tyV K T x H1 ∧ tr σ H1 fun xs H2 => r x xs H2 Q) : tBM K T r ta tr σ H Q := z
theorem s_bm0 {T : String} {r : V → List V → Hp → VK → Prop} (z : ta σ H fun x H1 => tyV K T x H1 ∧ r x [] H1 Q) : tBM0 K T r ta σ H Q := z
theorem s_tyL {C : Prop} (h : SqL K H p xs) (z : C) : tyV K "list" (.ref p) H ∧ C := ⟨.inl ⟨rfl, _, h⟩, z⟩
theorem s_append (h : H p = some (.lst xs)) (hl : xs.length < sizeLine) (z : Q .non (upd H p (.lst (xs ++ [x])))) : rAppend (.ref p) [x] H Q := ⟨p, xs, x, rfl, rfl, h, hl, z⟩
theorem s_extend (h : H p = some (.lst xs)) (h2 : H q = some (.lst ys)) (hl : xs.length + ys.length ≤ sizeLine) (z : Q .non (upd H p (.lst (xs ++ ys)))) : rExtend (.ref p) [.ref q] H Q := ⟨p, q, xs, ys, rfl, rfl, h, h2, hl, z⟩
theorem s_lstRg {te : St → Hp → (Int → Int → Hp → Prop) → Prop} (z : te σ H fun a b H1 => RgOk a b ∧ ∀ q, H1 q = none → Q (.ref q) (upd H1 q (.lst (rgV a b)))) : tLstRg te σ H Q := z
theorem s_prg1 {R : Int → Int → Hp → Prop} (z : ta σ H fun x H1 => ∃ b, x = .int b ∧ R 0 b H1) : tRg1 ta σ H R := z
theorem s_try {tb : WX → TS} {W : Ends → WX} (z : tb (W D) D σ H) : tTry tb W D σ H := z
theorem s_only {c cls : Value} {d : Option Addr} {t : Addr → Value → Option Addr → TS} {Wout : WX} (h : PySem.W.exmOne K cls c = some true) (z : ∀ a, H a = none → t a cls d D σ H) : WE (wOnly K c t Wout D) σ cls d H := ⟨true, h, fun _ => z, fun (e : true = false) => absurd e.symm Bool.false_ne_true⟩
theorem s_many1 {c cls : Value} {d : Option Addr} {t : Addr → Value → Option Addr → TS} {Wout : WX} {l : List (Value × (Addr → Value → Option Addr → TS))} (h : PySem.W.exmOne K cls c = some true) (z : ∀ a, H a = none → t a cls d D σ H) : WE (wMany K Wout D ((c, t) :: l)) σ cls d H := ⟨true, h, fun _ => z, fun (e : true = false) => absurd e.symm Bool.false_ne_true⟩
theorem s_many0 {c cls : Value} {d : Option Addr} {t : Addr → Value → Option Addr → TS} {Wout : WX} {l : List (Value × (Addr → Value → Option Addr → TS))} (h : PySem.W.exmOne K cls c = some false) (z : WE (wMany K Wout D l) σ cls d H) : WE (wMany K Wout D ((c, t) :: l)) σ cls d H := ⟨false, h, fun (e : false = true) => absurd e Bool.false_ne_true, fun _ => z⟩
/-! statements -/
theorem s_start {σ' : St} (e : σ = σ') (z : ts D σ' H) : ts D σ H := e ▸ z
theorem s_seq {nx : St → Hp → Prop} {rt : VK} {bk ct : St → Hp → Prop} (z : ts ⟨us ⟨nx, rt, bk, ct⟩, rt, bk, ct⟩ σ H) : tSeq ts us ⟨nx, rt, bk, ct⟩ σ H := z
theorem s_next (z : D.nx σ H) : tNext D σ H := z
theorem s_brk (z : D.bk σ H) : tBreak D σ H := z
theorem s_cont (z : D.ct σ H) : tCont D σ H := z
theorem s_drop (z : ta σ H fun _ H1 => D.nx σ H1) : tDrop ta D σ H := z
theorem s_ret (z : ta σ H D.rt) : tRet ta D σ H := z
theorem s_ifS (z : tt σ H fun b H1 => if b = true then ts D σ H1 else us D σ H1) : tIfS tt ts us D σ H := z
theorem s_asg {g : TG} (z : ta σ H fun x H1 => g x σ H1 D.nx) : tAsg ta g D σ H := z
theorem s_gName {R : St → Hp → Prop} (z : R (σ.set n (some v)) H) : gName n v σ H R := z
theorem s_gSub {R : St → Hp → Prop} {to ti : TE} {t : TSet} (z : to σ H fun o H1 => ti σ H1 fun i H2 => t o i v H2 fun H3 => R σ H3) : gSub to ti t v σ H R := z
theorem s_setL {R : Hp → Prop} (h : H p = some (.lst xs)) (h1 : ixN xs.length i = some n) (z : R (upd H p (.lst (xs.set n v)))) : rSetL (.ref p) (.int i) v H R := ⟨p, xs, i, n, rfl, rfl, h, h1, z⟩
theorem s_gTup {R : St → Hp → Prop} {t : TGs} (h : SqT K H p xs) (h1 : xs.length = n) (z : t xs σ H R) : gTup K n t (.ref p) σ H R := ⟨p, xs, rfl, h, h1, z⟩
theorem s_gCons {R : St → Hp → Prop} {t : TG} {u : TGs} (z : t x σ H fun σ' H' => u xs σ' H' R) : gCons t u (x :: xs) σ H R := ⟨x, xs, rfl, z⟩
theorem s_gNil {R : St → Hp → Prop} (z : R σ H) : gNil [] σ H R := ⟨rfl, z⟩
theorem s_nx {nx : St → Hp → Prop} {rt : VK} {bk ct : St → Hp → Prop} (z : nx σ H) : Ends.nx ⟨nx, rt, bk, ct⟩ σ H := z
theorem s_rt {nx : St → Hp → Prop} {rt : VK} {bk ct : St → Hp → Prop} (z : rt v H) : Ends.rt ⟨nx, rt, bk, ct⟩ v H := z
theorem s_bk {nx : St → Hp → Prop} {rt : VK} {bk ct : St → Hp → Prop} (z : bk σ H) : Ends.bk ⟨nx, rt, bk, ct⟩ σ H := z
theorem s_ct {nx : St → Hp → Prop} {rt : VK} {bk ct : St → Hp → Prop} (z : ct σ H) : Ends.ct ⟨nx, rt, bk, ct⟩ σ H := z
theorem s_seqJ {nx0 : St → Hp → Prop} {rt : VK} {bk ct : St → Hp → Prop} (J : St → Hp → Prop) (h2 : ∀ σ' H', J σ' H' → us ⟨nx0, rt, bk, ct⟩ σ' H') (h1 : ∀ nx : St → Hp → Prop, (∀ σ' H', J σ' H' → nx σ' H') → ts ⟨nx, rt, bk, ct⟩ σ H) : tSeq ts us ⟨nx0, rt, bk, ct⟩ σ H := h1 _ h2
theorem s_abs {R : Int → Prop} (z : R i) : ∃ i', [V.int i] = [.int i'] ∧ R i' := ⟨i, rfl, z⟩
theorem s_lenL {R : Nat → Prop} (h : SqL K H p xs) (z : R xs.length) : ∃ x' n', [V.ref p] = [x'] ∧ LenV K x' H n' ∧ R n' := ⟨_, _, rfl, .inl ⟨_, h, rfl⟩, z⟩
theorem s_lenT {R : Nat → Prop} (h : SqT K H p xs) (z : R xs.length) : ∃ x' n', [V.ref p] = [x'] ∧ LenV K x' H n' ∧ R n' := ⟨_, _, rfl, .inr ⟨_, h, rfl⟩, z⟩
theorem s_lenS {R : Nat → Prop} (h : a.length ≤ sizeLine) (z : R a.length) : ∃ x' n', [V.str a] = [x'] ∧ LenV K x' H n' ∧ R n' := ⟨_, _, rfl, ⟨h, rfl⟩, z⟩
/-- a branch -/
theorem br {c : Prop} [Decidable c] {A B : Prop} (h1 : c → A) (h2 : ¬ c → B) : if decide c = true then A else B := by
  by_cases h : c
  · rw [if_pos (decide_eq_true h)]
    exact h1 h
  · rw [if_neg (by rw [decide_eq_false h]; exact Bool.false_ne_true)]
    exact h2 h
theorem brN {c : Prop} [Decidable c] {A B : Prop} (h1 : ¬ c → A) (h2 : c → B) : if (!decide c) = true then A else B := by
  by_cases h : c
  · rw [if_neg (by rw [decide_eq_true h]; exact Bool.false_ne_true)]
    exact h2 h
  · rw [if_pos (by rw [decide_eq_false h]; rfl)]
    exact h1 h
theorem brB {c : Bool} {A B : Prop} (h1 : c = true → A) (h2 : c = false → B) : if c = true then A else B := by
  cases c
  · exact iteF (h2 rfl)
  · exact iteT (h1 rfl)
theorem same_upd {H : Hp} {p : Addr} {o : HO} (h : H p = none) : Same H (upd H p o) := fun b x e => by
  rw [upd_ne (ne_of_none e h)]
  exact e
theorem Same.sqT {K : PySem.W.Frag} {H H' : Hp} {a : Addr} {xs : List V} (e : Same H H') (h : SqT K H a xs) : SqT K H' a xs := by
  rcases h with (h | ⟨o, h⟩) | h
  · exact .inl (.inl (e _ _ h))
  · exact .inl (.inr ⟨o, e _ _ h⟩)
  · exact .inr h
end
end L2.U
/-! D: what the laws' own helpers promise (a draw, a list begun, one of a row, sameness), comprehensions by a word. Own text. -/
namespace L2.U
open PySem PySem.Spec PyProof.Rows RZ
/-! ### the heap but for one object -/
def Keep (p : Addr) (H H' : Hp) : Prop := ∀ b o, b ≠ p → H b = some o → H' b = some o
theorem Keep.refl (p : Addr) (H : Hp) : Keep p H H := fun _ _ _ h => h
theorem Keep.trans {p : Addr} {H H' H'' : Hp} (a : Keep p H H') (b : Keep p H' H'') : Keep p H H'' := fun c o n h => b c o n (a c o n h)
theorem Keep.upd {p : Addr} {H : Hp} {o : HO} : Keep p H (upd H p o) := fun c u n h => by rw [upd_ne n]; exact h
theorem Same.keep {p : Addr} {H H' : Hp} (s : Same H H') : Keep p H H' := fun b o _ h => s b o h
theorem Keep.sqL {K : PySem.W.Frag} {p a : Addr} {H H' : Hp} {xs : List V} (k : Keep p H H') (n : a ≠ p) (h : SqL K H a xs) : SqL K H' a xs := by
  rcases h with (h | ⟨o, h⟩) | h
  · exact .inl (.inl (k _ _ n h))
  · exact .inl (.inr ⟨o, k _ _ n h⟩)
  · exact .inr h
theorem Keep.free {p a : Addr} {H H' : Hp} (k : Keep p H H') (n : a ≠ p) (h : H' a = none) : H a = none := by
  cases q : H a with
  | none => rfl
  | some o =>
    rw [k a o n q] at h
    cases h
structure Draw (H : Hp) (p a : Addr) : Prop where
  ex : ∃ (ns : List Int) (c h s : Int), H p = some (.lst [.ref a, .int c, .int h, .int s]) ∧ H a = some (.lst (ns.map V.int)) ∧ a ≠ p ∧ ns.length ≤ 1000 ∧ 0 ≤ c ∧ 0 ≤ h ∧ 0 ≤ s ∧ s < 2147483647
theorem Draw.same {H H' : Hp} {p a : Addr} (d : Draw H p a) (s : Same H H') : Draw H' p a := by
  obtain ⟨ns, c, h, t, e, hS, r⟩ := d.ex
  exact ⟨ns, c, h, t, s _ _ e, s _ _ hS, r⟩
theorem Draw.ne {H : Hp} {p a q : Addr} (d : Draw H p a) (h : H q = none) : q ≠ p := fun e => by
  obtain ⟨ns, c, g, t, e2, hS, r⟩ := d.ex
  rw [e, e2] at h
  cases h
theorem Draw.ne2 {H : Hp} {p a q : Addr} (d : Draw H p a) (h : H q = none) : q ≠ a := fun e => by
  obtain ⟨ns, c, g, t, e2, hS, r⟩ := d.ex
  rw [e, hS] at h
  cases h
theorem Draw.updN {H : Hp} {p a q : Addr} {o : HO} (d : Draw H p a) (n : q ≠ p) (m : q ≠ a) : Draw (upd H q o) p a := by
  obtain ⟨ns, c, h, t, e, hS, r⟩ := d.ex
  exact ⟨ns, c, h, t, by rw [upd_ne n.symm]; exact e, by rw [upd_ne m.symm]; exact hS, r⟩
/-! ### promises -/
abbrev spTake : Sp := sp2 fun d n H Q _ => ∃ (p a : Addr) (k : Int), d = .ref p ∧ n = .int k ∧ 0 < k ∧ k < 1073741824 ∧ Draw H p a ∧ ∀ H' r, Keep p H H' → Draw H' p a → 0 ≤ r → r < k → Q (.int r) H'
abbrev spBegin (K : PySem.W.Frag) : Sp := sp1 fun v H Q _ => ∃ (b : Addr) (ns : List Int), v = .ref b ∧ SqL K H b (ns.map V.int) ∧ ns.length ≤ 63 ∧ ∀ H' p a, Same H H' → H p = none → Draw H' p a → Q (.ref p) H'
abbrev spOne (K : PySem.W.Frag) : Sp := sp2 fun d r H Q _ => ∃ (p a b : Addr) (xs : List V), d = .ref p ∧ r = .ref b ∧ b ≠ p ∧ SqL K H b xs ∧ 0 < xs.length ∧ xs.length < 1000000 ∧ Draw H p a ∧ ∀ H' v, Keep p H H' → Draw H' p a → v ∈ xs → Q v H'
def OkD : Nat → PyData → Prop
  | 0, _ => False
  | n + 1, .list ds => ds.length ≤ 1000000 ∧ ∀ d ∈ ds, OkD n d
  | n + 1, .tuple ds => ds.length ≤ 1000000 ∧ ∀ d ∈ ds, OkD n d
  | _ + 1, .dict _ => False
  | _ + 1, _ => True
abbrev spSame (K : PySem.W.Frag) (n : Nat) : Sp := sp2 fun x y H Q _ => ∃ d : PyData, Dp K H x d ∧ Dp K H y d ∧ OkD n d ∧ ∀ H', Same H H' → Q (.bl true) H'
/-! ### the heap but for some objects -/
def hid (S : List Addr) (H : Hp) : Hp := fun b => if b ∈ S then none else H b
section
variable {S S' : List Addr} {H H' : Hp} {q b : Addr} {o : HO}
theorem hid_get (n : b ∉ S) : hid S H b = H b := if_neg n
theorem hid_none (n : b ∈ S) : hid S H b = none := if_pos n
theorem hid_same : Same (hid S H) H := fun b o e => by
  unfold hid at e
  split at e
  · cases e
  · exact e
theorem hid_up (m : q ∈ S) : hid S (upd H q o) = hid S H := by
  funext b
  unfold hid
  by_cases hb : b ∈ S
  · rw [if_pos hb, if_pos hb]
  · rw [if_neg hb, if_neg hb, upd_ne fun e => hb (by rw [e]; exact m)]
theorem Same.hid (s : Same H H') : Same (hid S H) (hid S H') := fun b o e => by
  unfold U.hid at e ⊢
  split at e
  · cases e
  · rename_i hb
    rw [if_neg hb]
    exact s _ _ e
theorem Keep.hid {p : Addr} (k : Keep p H H') (m : p ∈ S) : Same (hid S H) (hid S H') := fun b o e => by
  unfold U.hid at e ⊢
  split at e
  · cases e
  · rename_i hb
    rw [if_neg hb]
    exact k b o (fun z => hb (by rw [z]; exact m)) e
theorem hid_free (h : H q = none) : hid S H q = none := by
  unfold hid
  split
  · rfl
  · exact h
theorem hid_new (h : H q = none) : hid (q :: S) H = hid S H := by
  funext b
  unfold hid
  by_cases hb : b = q
  · rw [if_pos (by rw [hb]; exact List.mem_cons_self), hb, h]
    split <;> rfl
  · by_cases hS : b ∈ S
    · rw [if_pos (List.mem_cons_of_mem _ hS), if_pos hS]
    · rw [if_neg (by simp [hb, hS]), if_neg hS]
theorem hid_less (h : ∀ x ∈ S, x ∈ S') : Same (hid S' H) (hid S H) := fun b o e => by
  unfold hid at e ⊢
  split at e
  · cases e
  · rename_i hb
    rw [if_neg fun m => hb (h b m)]
    exact e
theorem hid_hid : hid S (hid S' H) = hid (S ++ S') H := by
  funext b
  unfold hid
  by_cases h1 : b ∈ S
  · rw [if_pos h1, if_pos (List.mem_append_left _ h1)]
  · by_cases h2 : b ∈ S'
    · rw [if_neg h1, if_pos h2, if_pos (List.mem_append_right _ h2)]
    · rw [if_neg h1, if_neg h2, if_neg (by simp [h1, h2])]
theorem hid_nil : hid [] H = H := by
  funext b
  exact if_neg (fun m => nomatch m)
end
/-! ### data -/
section
variable {K : PySem.W.Frag} {H H' : Hp}
mutual
theorem Dp.same (s : Same H H') : ∀ (d : PyData) (v : V), Dp K H v d → Dp K H' v d
  | .none, _, h => by cases h; exact .non
  | .bool b, _, h => by cases h; exact .bl b
  | .int i, _, h => by cases h; exact .int i
  | .str x, _, h => by cases h; exact .str x
  | .list ds, _, h => by
    cases h with
    | lst hs ha => exact .lst (s.seq hs) (Dp.sameAll s ds _ ha)
  | .tuple ds, _, h => by
    cases h with
    | tup hs ha => exact .tup (Same.sqT s hs) (Dp.sameAll s ds _ ha)
  | .dict _, _, h => by cases h
theorem Dp.sameAll (s : Same H H') : ∀ (ds : List PyData) (vs : List V), DpAll K H vs ds → DpAll K H' vs ds
  | [], _, h => by cases h; exact .nil
  | d :: ds, _, h => by
    cases h with
    | cons h1 h2 => exact .cons (Dp.same s d _ h1) (Dp.sameAll s ds _ h2)
end
theorem DpAll.length : ∀ {vs : List V} {ds : List PyData}, DpAll K H vs ds → vs.length = ds.length
  | _, _, .nil => rfl
  | _, _, .cons _ h => by rw [List.length_cons, List.length_cons, DpAll.length h]
theorem DpAll.get : ∀ {vs : List V} {ds : List PyData} {i : Nat} {v : V}, DpAll K H vs ds → vs[i]? = some v → ∃ d, ds[i]? = some d ∧ Dp K H v d
  | _, _, _, _, .nil, e => by simp at e
  | _, _, 0, _, .cons h _, e => by
    cases e
    exact ⟨_, rfl, h⟩
  | _, _, i + 1, v, .cons _ h, e => DpAll.get (i := i) (v := v) h e
end
/-! ### data without lists: no list's place is among its own -/
mutual
def noL : PyData → Bool
  | .list _ => false
  | .dict _ => false
  | .tuple ds => noLAll ds
  | .none => true | .bool _ => true | .int _ => true | .str _ => true
def noLAll : List PyData → Bool
  | [] => true
  | d :: ds => noL d && noLAll ds
end
section
variable {K : PySem.W.Frag} {H : Hp} {p : Addr}
theorem SqT.avoid {a : Addr} {xs ys : List V} (hp : H p = some (.lst ys)) (h : SqT K H a xs) : SqT K (hid [p] H) a xs := by
  have ne : ∀ o, H a = some o → o ≠ .lst ys → hid [p] H a = some o := fun o e n => by
    rw [hid_get, e]
    intro m
    rw [List.mem_singleton.mp m, hp] at e
    exact n (Option.some.inj e).symm
  rcases h with (h | ⟨o, h⟩) | h
  · exact .inl (.inl (ne _ h (fun z => by cases z)))
  · exact .inl (.inr ⟨o, ne _ h (fun z => by cases z)⟩)
  · exact .inr h
mutual
theorem Dp.avoid {ys : List V} (hp : H p = some (.lst ys)) : ∀ (d : PyData) (v : V), noL d = true → Dp K H v d → Dp K (hid [p] H) v d
  | .none, _, _, h => by cases h; exact .non
  | .bool b, _, _, h => by cases h; exact .bl b
  | .int i, _, _, h => by cases h; exact .int i
  | .str x, _, _, h => by cases h; exact .str x
  | .list ds, _, n, _ => by simp [noL] at n
  | .tuple ds, _, n, h => by
    cases h with
    | tup hs ha => exact .tup (SqT.avoid hp hs) (Dp.avoidAll hp ds _ (by simpa [noL] using n) ha)
  | .dict _, _, n, _ => by simp [noL] at n
theorem Dp.avoidAll {ys : List V} (hp : H p = some (.lst ys)) : ∀ (ds : List PyData) (vs : List V), noLAll ds = true → DpAll K H vs ds → DpAll K (hid [p] H) vs ds
  | [], _, _, h => by cases h; exact .nil
  | d :: ds, _, n, h => by
    have n' : noL d = true ∧ noLAll ds = true := by simpa [noLAll] using n
    cases h with
    | cons h1 h2 => exact .cons (Dp.avoid hp d _ n'.1 h1) (Dp.avoidAll hp ds _ n'.2 h2)
end
theorem DpAll.take : ∀ {vs : List V} {ds : List PyData} (n : Nat), DpAll K H vs ds → DpAll K H (vs.take n) (ds.take n)
  | _, _, 0, _ => .nil
  | _, _, _ + 1, .nil => .nil
  | _, _, n + 1, .cons h1 h2 => .cons h1 (DpAll.take n h2)
theorem DpAll.drop : ∀ {vs : List V} {ds : List PyData} (n : Nat), DpAll K H vs ds → DpAll K H (vs.drop n) (ds.drop n)
  | _, _, 0, h => h
  | _, _, _ + 1, .nil => .nil
  | _, _, n + 1, .cons _ h2 => DpAll.drop n h2
end
theorem DpAll.set {K : PySem.W.Frag} {H : Hp} {v : V} {d : PyData} (h : Dp K H v d) : ∀ {vs : List V} {ds : List PyData} (i : Nat), DpAll K H vs ds → DpAll K H (vs.set i v) (ds.set i d)
  | _, _, _, .nil => .nil
  | _, _, 0, .cons _ h2 => .cons h h2
  | _, _, i + 1, .cons h1 h2 => .cons h1 (DpAll.set h i h2)
theorem atI_m1 {xs : List V} {x : V} (h : xs[xs.length - 1]? = some x) : atI xs (-1) = some x := by
  have h0 : 0 < xs.length := by
    rcases Nat.eq_zero_or_pos xs.length with z | z
    · rw [List.getElem?_eq_none (by omega)] at h
      cases h
    · exact z
  unfold atI ixN
  rw [if_neg (by omega), if_pos (by omega)]
  show xs[((-1 : Int) + xs.length).toNat]? = some x
  rw [show ((-1 : Int) + xs.length).toNat = xs.length - 1 by omega]
  exact h
theorem Draw.lst {H : Hp} {p a : Addr} (d : Draw H p a) : ∃ ys, H p = some (.lst ys) := by
  obtain ⟨ns, c, h, t, e, _⟩ := d.ex
  exact ⟨_, e⟩
theorem cutV_take (xs : List V) (i : Nat) : cutV xs none (some (i : Int)) = xs.take i := by
  unfold cutV
  rw [HT.sIx_none, HT.sIx_nat, List.drop_zero, Nat.sub_zero]
  rcases Nat.lt_or_ge i xs.length with h | h
  · rw [Nat.min_eq_left (Nat.le_of_lt h)]
  · rw [Nat.min_eq_right h, List.take_length, List.take_of_length_le h]
theorem cutV_drop (xs : List V) (i : Nat) : cutV xs (some (i : Int)) none = xs.drop i := by
  unfold cutV
  rw [HT.sIx_none, HT.sIx_nat]
  rcases Nat.lt_or_ge i xs.length with h | h
  · rw [Nat.min_eq_left (Nat.le_of_lt h)]
    exact List.take_of_length_le (by rw [List.length_drop]; exact Nat.le_refl _)
  · rw [Nat.min_eq_right h, List.drop_length, List.drop_eq_nil_of_le h]
    exact List.take_nil
/-! ### kinds -/
def tyD : PyData → String
  | .none => "NoneType" | .bool _ => "bool" | .int _ => "int" | .str _ => "str" | .list _ => "list" | .tuple _ => "tuple" | .dict _ => "dict"
def isList : PyData → Bool
  | .list _ => true | _ => false
def isSeq : PyData → Bool
  | .list _ => true | .tuple _ => true | _ => false
def isBool : PyData → Bool
  | .bool _ => true | _ => false
def isStr : PyData → Bool
  | .str _ => true | _ => false
section
variable {K : PySem.W.Frag} {H : Hp} {Q : VK} {x : V} {d : PyData}
theorem Dp.ty (h : Dp K H x d) : TyX K H x (.type (tyD d)) := by
  cases h with
  | non => exact .base .non
  | bl b => exact .base (.bl b)
  | int i => exact .base (.int i)
  | str z => exact .base (.str z)
  | lst hs _ =>
    rcases hs with (h | ⟨o, h⟩) | ⟨o, its, n, e, c, _⟩
    · exact .base (.lst h)
    · exact .base (.frz h)
    · exact .kList e c
  | tup hs _ =>
    rcases hs with (h | ⟨o, h⟩) | ⟨o, its, n, e, c, _⟩
    · exact .base (.tup h)
    · exact .fTuple h
    · exact .kTuple e c
theorem s_isiLT {tp : Addr} (hd : Dp K H x d) (h : H tp = some (.tup [.ty "list", .ty "tuple"])) (z : Q (.bl (isSeq d)) H) : rIsiT K [x, .ref tp] H Q :=
  ⟨x, tp, _, _, [.type "list", .type "tuple"], isSeq d, rfl, h, .cons (.ty _) (.cons (.ty _) .nil), Dp.ty hd, by clear hd z; cases d <;> rfl, z⟩
theorem s_isiL (hd : Dp K H x d) (z : Q (.bl (isList d)) H) : rIsi K [x, .ty "list"] H Q := ⟨x, _, _, _, isList d, rfl, .ty _, Dp.ty hd, by clear hd z; cases d <;> rfl, z⟩
theorem s_isiB (hd : Dp K H x d) (z : Q (.bl (isBool d)) H) : rIsi K [x, .ty "bool"] H Q := ⟨x, _, _, _, isBool d, rfl, .ty _, Dp.ty hd, by clear hd z; cases d <;> rfl, z⟩
theorem s_isiS (hd : Dp K H x d) (z : Q (.bl (isStr d)) H) : rIsi K [x, .ty "str"] H Q := ⟨x, _, _, _, isStr d, rfl, .ty _, Dp.ty hd, by clear hd z; cases d <;> rfl, z⟩
theorem s_isNV (z : Q (.bl (decide (x = .non))) H) : tIsN (fun _ H Q => Q x H) [] H Q := z
end
/-! ### comprehensions -/
def lcB (J : It) (g : TG) (tt : TT) (te : TE) (vs : List Nat) (σ : St) (H1 : Hp) (Q : VK) : Prop :=
  ∀ D, H1 D = none → ∃ W : Nat → Nat → Hp → Prop, (∃ m, W 0 m (upd H1 D (.lst []))) ∧ ∀ i m H, W i m H →
  (J.stop i H ∧ Q (.ref D) H) ∨ (J.go i H ∧ ∃ Nx : Hp → Prop, (∀ H', Nx H' → ∃ m', m' < m ∧ W (i + 1) m' H') ∧ ∀ x H', J.yld i H x H' → g x (wipe σ vs) H' fun σ2 H2 => wipe σ2 vs = wipe σ vs ∧ tt σ2 H2 fun b H3 =>
    if b = true then te σ2 H3 fun y H4 => ∃ acc, H4 D = some (.lst acc) ∧ acc.length < sizeLine ∧ Nx (upd H4 D (.lst (acc ++ [y]))) else Nx H3)
/-- what an element's end is asked: the new list with the element -/
def LcPost (S : Addr → Nat → List V → Hp → Prop) (D : Addr) (i : Nat) (y : V) (H4 : Hp) : Prop :=
  ∃ acc, H4 D = some (.lst acc) ∧ acc.length < sizeLine ∧ (∃ acc', (upd H4 D (.lst (acc ++ [y]))) D = some (.lst acc') ∧ acc'.length ≤ i + 1 ∧ S D (i + 1) acc' (upd H4 D (.lst (acc ++ [y]))))
def LcSkip (S : Addr → Nat → List V → Hp → Prop) (D : Addr) (i : Nat) (H3 : Hp) : Prop := ∃ acc', H3 D = some (.lst acc') ∧ acc'.length ≤ i + 1 ∧ S D (i + 1) acc' H3
theorem LcPost.mk {S : Addr → Nat → List V → Hp → Prop} {D : Addr} {i : Nat} {y : V} {H4 : Hp} {acc : List V} (h : H4 D = some (.lst acc)) (l : acc.length ≤ i) (n : i < 1000000) (s : S D (i + 1) (acc ++ [y]) (upd H4 D (.lst (acc ++ [y])))) : LcPost S D i y H4 :=
  ⟨acc, h, Nat.lt_of_le_of_lt l (Nat.lt_trans n (by decide)), _, upd_same, by rw [List.length_append]; exact Nat.add_le_add_right l 1, s⟩
theorem LcSkip.mk {S : Addr → Nat → List V → Hp → Prop} {D : Addr} {i : Nat} {H3 : Hp} {acc : List V} (h : H3 D = some (.lst acc)) (l : acc.length ≤ i) (s : S D (i + 1) acc H3) : LcSkip S D i H3 := ⟨acc, h, Nat.le_succ_of_le l, s⟩
section
variable {K : PySem.W.Frag} {σ : St} {H1 : Hp} {Q : VK} {J : It} {g : TG} {te : TE} {vs : List Nat}
theorem tYes_mk {H : Hp} {R : Bool → Hp → Prop} (z : R true H) : tYes σ H R := z
theorem s_lc {wi : TI} {tt : TT} (z : wi σ H1 fun J H => lcB J g tt te vs σ H Q) : tLc wi g tt te vs σ H1 Q := z
theorem s_iStr {ta : TE} {R : It → Hp → Prop} (z : ta σ H1 fun v H => ∃ x, v = .str x ∧ R (Its x) H) : iStr ta σ H1 R := z
theorem s_str {a : Str} {R : Str → Prop} (z : R a) : ∃ x, V.str a = .str x ∧ R x := ⟨a, rfl, z⟩
theorem s_iRng1 {ta : TA} {R : It → Hp → Prop} (z : ta σ H1 fun vs H => ∃ j : Int, vs = [.int j] ∧ -(2 ^ 62) ≤ j ∧ j < 2 ^ 62 ∧ R (Itr 0 j.toNat) H) : iRng1 ta σ H1 R := z
theorem s_rng1 {j : Int} {R : Int → Prop} (h1 : -(2 ^ 62) ≤ j) (h2 : j < 2 ^ 62) (z : R j) : ∃ k : Int, [V.int j] = [.int k] ∧ -(2 ^ 62) ≤ k ∧ k < 2 ^ 62 ∧ R k := ⟨j, rfl, h1, h2, z⟩
theorem s_iList {ta : TE} {R : It → Hp → Prop} (z : ta σ H1 fun v H => ∃ a, v = .ref a ∧ (∃ xs, SqL K H a xs) ∧ R (Itl K a) H) : iList K ta σ H1 R := z
theorem s_iTup {ta : TE} {R : It → Hp → Prop} (z : ta σ H1 fun v H => ∃ a, v = .ref a ∧ (∃ xs, SqT K H a xs) ∧ R (Itt K a) H) : iTup K ta σ H1 R := z
theorem s_itL {a : Addr} {xs : List V} {R : Addr → Prop} (h : SqL K H1 a xs) (z : R a) : ∃ b, V.ref a = .ref b ∧ (∃ xs, SqL K H1 b xs) ∧ R b := ⟨a, rfl, ⟨xs, h⟩, z⟩
theorem s_itT {a : Addr} {xs : List V} {R : Addr → Prop} (h : SqT K H1 a xs) (z : R a) : ∃ b, V.ref a = .ref b ∧ (∃ xs, SqT K H1 b xs) ∧ R b := ⟨a, rfl, ⟨xs, h⟩, z⟩
theorem s_iZipA {ta : TA} {R : It → Hp → Prop} (z : ta σ H1 fun vs H => ∃ a b xs ys, vs = [.ref a, .ref b] ∧ ((SqL K H a xs ∧ SqL K H b ys ∧ R (Itz K a b) H) ∨ (SqT K H a xs ∧ SqT K H b ys ∧ R (ItzT K a b) H))) : iZipA K ta σ H1 R := z
def forB (J : It) (g : TG) (tb : TS) (D : Ends) (σ : St) (H : Hp) : Prop := ∃ W : Nat → Nat → St → Hp → Prop, (∃ m, W 0 m σ H) ∧ ∀ i m σ H, W i m σ H →
  (J.stop i H ∧ D.nx σ H) ∨ (J.go i H ∧ ∃ N : St → Hp → Prop, (∀ σ' H', N σ' H' → ∃ m', m' < m ∧ W (i + 1) m' σ' H') ∧ ∀ x H', J.yld i H x H' → g x σ H' fun σ2 H2 => tb { D with nx := N, ct := N, bk := D.nx } σ2 H2)
theorem s_for {wi : TI} {tb : TS} {D : Ends} (z : wi σ H1 fun J H => forB J g tb D σ H) : tFor wi g tb D σ H1 := z
theorem forB_range {lo : Int} {n : Nat} {tb : TS} {nx : St → Hp → Prop} {rt : VK} {bk ct : St → Hp → Prop} (Pv : Nat → St → Hp → Prop) (h0 : Pv 0 σ H1)
    (hs : ∀ i σ H, i < n → Pv i σ H → g (.int (lo + i)) σ H fun σ2 H2 => tb ⟨Pv (i + 1), rt, nx, Pv (i + 1)⟩ σ2 H2) (hd : ∀ σ H, Pv n σ H → nx σ H) : forB (Itr lo n) g tb ⟨nx, rt, bk, ct⟩ σ H1 := for_range Pv h0 hs hd
theorem forB_list {a : Addr} {xs : List V} {tb : TS} {nx : St → Hp → Prop} {rt : VK} {bk ct : St → Hp → Prop} (Pv : Nat → St → Hp → Prop) (h0 : Pv 0 σ H1) (hl : ∀ i σ H, i ≤ xs.length → Pv i σ H → SqL K H a xs)
    (hs : ∀ i x σ H, xs[i]? = some x → Pv i σ H → g x σ H fun σ2 H2 => tb ⟨Pv (i + 1), rt, nx, Pv (i + 1)⟩ σ2 H2) (hd : ∀ σ H, Pv xs.length σ H → nx σ H) : forB (Itl K a) g tb ⟨nx, rt, bk, ct⟩ σ H1 := for_list Pv h0 hl hs hd
theorem s_yes {A B : Hp → Prop} (z : A H1) : tYes σ H1 (fun b H3 => if b = true then A H3 else B H3) := tYes_mk (if_pos rfl ▸ z)
theorem forB_of {tb : TS} {nx : St → Hp → Prop} {rt : VK} {bk ct : St → Hp → Prop} (n : Nat) (Pv : Nat → St → Hp → Prop) (h0 : Pv 0 σ H1) (hgo : ∀ i σ H, i < n → Pv i σ H → J.go i H) (hst : ∀ σ H, Pv n σ H → J.stop n H)
    (hs : ∀ i σ H x H', i < n → Pv i σ H → J.yld i H x H' → g x σ H' fun σ2 H2 => tb ⟨Pv (i + 1), rt, nx, Pv (i + 1)⟩ σ2 H2) (hd : ∀ σ H, Pv n σ H → nx σ H) : forB J g tb ⟨nx, rt, bk, ct⟩ σ H1 := by
  refine ⟨fun i m σ H => m = n - i ∧ i ≤ n ∧ Pv i σ H, ⟨n, rfl, Nat.zero_le _, h0⟩, ?_⟩
  rintro i m σ H ⟨rfl, hi, p⟩
  by_cases hlt : i < n
  · exact .inr ⟨hgo i σ H hlt p, Pv (i + 1), fun σ' H' p' => ⟨n - (i + 1), by omega, rfl, hlt, p'⟩, fun x H' hy => hs i σ H x H' hlt p hy⟩
  · have e : i = n := by omega
    subst e
    exact .inl ⟨hst σ H p, hd σ H p⟩
def WhB (Pv : Nat → St → Hp → Prop) (m : Nat) (tb : TS) (rt : VK) (nx : St → Hp → Prop) (σ : St) (H : Hp) : Prop := ∃ N : St → Hp → Prop, (∀ σ' H', N σ' H' → ∃ m', m' < m ∧ Pv m' σ' H') ∧ tb ⟨N, rt, nx, N⟩ σ H
theorem WhB.mk {Pv : Nat → St → Hp → Prop} {m : Nat} {tb : TS} {rt : VK} {nx : St → Hp → Prop} (z : tb ⟨fun σ' H' => ∃ m', m' < m ∧ Pv m' σ' H', rt, nx, fun σ' H' => ∃ m', m' < m ∧ Pv m' σ' H'⟩ σ H1) : WhB Pv m tb rt nx σ H1 := ⟨_, fun _ _ h => h, z⟩
theorem s_while {tc : TT} {tb : TS} {nx : St → Hp → Prop} {rt : VK} {bk ct : St → Hp → Prop} (Pv : Nat → St → Hp → Prop) (m0 : Nat) (h0 : Pv m0 σ H1) (hs : ∀ m σ H, Pv m σ H → tc σ H fun b H1 => if b = true then WhB Pv m tb rt nx σ H1 else nx σ H1) : tWhile tc tb ⟨nx, rt, bk, ct⟩ σ H1 := ⟨Pv, ⟨m0, h0⟩, hs⟩
/-- a comprehension, by a word S (the new list's place, the turn, what it holds, the heap) -/
theorem lcB_of {tt : TT} (n : Nat) (S : Addr → Nat → List V → Hp → Prop) (h0 : ∀ D, H1 D = none → S D 0 [] (upd H1 D (.lst [])))
    (hgo : ∀ D i acc H, H1 D = none → i < n → S D i acc H → J.go i H) (hst : ∀ D acc H, H1 D = none → S D n acc H → J.stop n H)
    (hs : ∀ D i acc H x H', H1 D = none → i < n → H D = some (.lst acc) → acc.length ≤ i → S D i acc H → J.yld i H x H' → g x (wipe σ vs) H' fun σ2 H2 => wipe σ2 vs = wipe σ vs ∧ tt σ2 H2 fun b H3 => if b = true then te σ2 H3 (LcPost S D i) else LcSkip S D i H3)
    (hd : ∀ D acc H, H1 D = none → H D = some (.lst acc) → acc.length ≤ n → S D n acc H → Q (.ref D) H) : lcB J g tt te vs σ H1 Q := by
  intro D hD
  refine ⟨fun i m H => m = n - i ∧ i ≤ n ∧ ∃ acc, H D = some (.lst acc) ∧ acc.length ≤ i ∧ S D i acc H, ⟨n, rfl, Nat.zero_le _, [], upd_same, Nat.le_refl _, h0 D hD⟩, ?_⟩
  rintro i m H ⟨rfl, hi, acc, ha, hl, hS⟩
  by_cases hlt : i < n
  · exact .inr ⟨hgo D i acc H hD hlt hS, fun H' => ∃ acc', H' D = some (.lst acc') ∧ acc'.length ≤ i + 1 ∧ S D (i + 1) acc' H', fun H' ⟨acc', e1, e2, e3⟩ => ⟨n - (i + 1), by omega, rfl, hlt, acc', e1, e2, e3⟩, fun x H' hy => hs D i acc H x H' hD hlt ha hl hS hy⟩
  · have e : i = n := by omega
    subst e
    exact .inl ⟨hst D acc H hD hS, hd D acc H hD ha hl hS⟩
/-- each sign of a text, by a function, the heap as it is -/
theorem lcB_str {a : Str} {i : Nat} (f : Nat → V) (hn : a.length ≤ 1000000) (hw : ∀ x, wipe ((wipe σ vs).set i (some x)) vs = wipe σ vs)
    (he : ∀ c H R, R (f c) H → te ((wipe σ vs).set i (some (.str ⟨#[c]⟩))) H R) (q : ∀ D, H1 D = none → Q (.ref D) (upd H1 D (.lst (a.cps.toList.map f)))) : lcB (Its a) (gName i) tYes te vs σ H1 Q := by
  refine lcB_of a.cps.size (fun D n acc H => acc = (a.cps.toList.take n).map f ∧ H = upd H1 D (.lst acc)) (fun D _ => ⟨rfl, rfl⟩) (fun D i acc H _ h _ => h) (fun D acc H _ _ => Nat.le_refl _) ?_ ?_
  · rintro D k acc H x H' hD hk ha hl ⟨e1, e2⟩ ⟨rfl, c, hc, rfl⟩
    refine ⟨hw _, s_yes ?_⟩
    refine he c _ _ (LcPost.mk ha hl (Nat.lt_of_lt_of_le hk hn) ⟨?_, ?_⟩)
    · rw [List.take_add_one, show a.cps.toList[k]? = some c by rw [Array.getElem?_toList]; exact hc, List.map_append, ← e1]
      rfl
    · rw [e2, upd_upd]
  · rintro D acc H hD ha hl ⟨e1, rfl⟩
    have e : acc = a.cps.toList.map f := by rw [e1, List.take_of_length_le (by rw [Array.length_toList]; exact Nat.le_refl _)]
    rw [e]
    exact q D hD
end
end L2.U
/-! U2: more union rules: targets with a star, defs with defaults, except .. as, isinstance of a caught one. Own text. -/
namespace L2.U
open PySem PySem.Spec PySem.Calls PyProof.Rows
/-! ### a, *rest = a list or a tuple -/
section
variable {prog : Program} {w : World} {A : Around} {E : Value → Shared → Prop} {s : Shared}
/-- what a starred unpacking is asked: the list in the middle is new, all else stands -/
abbrev StarQ (its : Array Value) (n i : Nat) (u : Shared) (F : List Value → Shared → Prop) : Prop := ∀ (g : Heap) tk, (∀ b o, u.heap.get? b = some o → g.get? b = some o) →
  F (its.toList.take i ++ [.ref g.objs.size] ++ (its.toList.drop i).drop (its.size + 1 - n)) { u with heap := g.push { cls := .type "list", data := .seq ((its.toList.drop i).take (its.size + 1 - n)).toArray }, toks := tk }
theorem star_L {l : Addr} {its : Array Value} {n i : Nat} {F : List Value → Shared → Prop} (eL : s.heap.IsList l its) (cl : A.handled = none) (lt : i < n) (le : n ≤ its.size + 1) (sm : its.size ≤ 16384) (fin : StarQ its n i s F) :
    wpAny (model prog w) A (unpackItems (.ref l) n (some i)) F E s := by
  have apart : l ≠ s.heap.objs.size := (fun ⟨_, e, _⟩ => Nat.ne_of_lt (Heap.lt_size e)) eL
  have cut1 : (its.toList.take i).length = i := (List.length_take).trans (by rw [Array.length_toList]; omega)
  have cut2 : (its.toList.drop i).length = its.size - i := (List.length_drop).trans (by rw [Array.length_toList])
  unfold unpackItems notIterableAtAll
  refine wpAny_bind (wpAny_bind (wpAny_specialOf eL.typeIs slot_list_iter.lookup (wpAny_pure ?_)))
  rw [if_neg Bool.false_ne_true]
  refine wpAny_bind (wpAny_holding (wpAny_pyIter_list eL (wpAny_bind (wpAny_holding (PySem.W.kun_draw apart i 0 _ _ ⟨_, Heap.get?_push_size _ rfl, rfl, rfl⟩ (eL.push _) (by omega) fun g it kp => ?_)))))
  have eL2 := (eL.push _).extBut kp.extBut apart
  rw [Nat.zero_add] at it
  rw [List.drop_zero, if_neg (by rw [cut1]; omega)]
  have szI := (fun ⟨_, e, _⟩ => Heap.lt_size e : g.IsListIter s.heap.objs.size l i → _) it
  have szL := (fun ⟨_, e, _⟩ => Heap.lt_size e : g.IsList l its → _) eL2
  refine wpAny_bind (wpAny_holding (PySem.W.kun_collect (s := { s with heap := g }) (T := "list_iterator") (.inr (.inr (.inl rfl))) (Walks.list (A := A.in1) cl s.heap.objs.size l apart its) (fun _ _ st => st.1.typeIs) (k := i) (by omega) ⟨it, eL2⟩ szI szL (fun g2 tk kp2 => ?_) (by rw [sizeLine_eq]; omega)))
  dsimp only
  rw [if_neg (by rw [cut2]; omega), show (its.toList.drop i).length - (n - 1 - i) = its.size + 1 - n by rw [cut2]; omega]
  exact wpAny_bind (wpAny_newList (wpAny_pure (fin g2 tk fun b o e => kp2 b o (Nat.ne_of_lt (Heap.lt_size e)) (kp.extBut b o (Nat.ne_of_lt (Heap.lt_size e)) (Heap.get?_push_of_some _ e)))) (by rw [List.length_take, cut2, sizeLine_eq]; omega))
theorem star_T {l : Addr} {its : Array Value} {n i : Nat} {F : List Value → Shared → Prop} (eT : IsTup s.heap l its) (cl : A.handled = none) (lt : i < n) (le : n ≤ its.size + 1) (sm : its.size ≤ 16384) (fin : StarQ its n i s F) :
    wpAny (model prog w) A (unpackItems (.ref l) n (some i)) F E s := by
  have apart : l ≠ s.heap.objs.size := (fun ⟨_, e, _⟩ => Nat.ne_of_lt (Heap.lt_size e)) eT
  have cut1 : (its.toList.take i).length = i := (List.length_take).trans (by rw [Array.length_toList]; omega)
  have cut2 : (its.toList.drop i).length = its.size - i := (List.length_drop).trans (by rw [Array.length_toList])
  unfold unpackItems notIterableAtAll
  refine wpAny_bind (wpAny_bind (wpAny_specialOf eT.typeIs slot_tuple_iter.lookup (wpAny_pure ?_)))
  rw [if_neg Bool.false_ne_true]
  refine wpAny_bind (wpAny_holding (iter_tuple eT (wpAny_bind (wpAny_holding (draw_tuple apart i 0 _ _ ⟨_, Heap.get?_push_size _ rfl, rfl, rfl⟩ (eT.push _) (by omega) fun g it kp => ?_)))))
  have eT2 := (eT.push _).extBut kp.extBut apart
  rw [Nat.zero_add] at it
  rw [List.drop_zero, if_neg (by rw [cut1]; omega)]
  have szI : s.heap.objs.size < g.objs.size := by have it2 := it; obtain ⟨_, e, _⟩ := it2; exact Heap.lt_size e
  have szT : l < g.objs.size := by have e2 := eT2; obtain ⟨_, e, _⟩ := e2; exact Heap.lt_size e
  refine wpAny_bind (wpAny_holding (PySem.W.kun_collect (s := { s with heap := g }) (T := "tuple_iterator") (.inr (.inr (.inr rfl))) (Walks.tuple (A := A.in1) cl s.heap.objs.size l apart its) (fun _ _ st => st.1.typeIs) (k := i) (by omega) ⟨it, eT2⟩ szI szT (fun g2 tk kp2 => ?_) (by rw [sizeLine_eq]; omega)))
  dsimp only
  rw [if_neg (by rw [cut2]; omega), show (its.toList.drop i).length - (n - 1 - i) = its.size + 1 - n by rw [cut2]; omega]
  exact wpAny_bind (wpAny_newList (wpAny_pure (fin g2 tk fun b o e => kp2 b o (Nat.ne_of_lt (Heap.lt_size e)) (kp.extBut b o (Nat.ne_of_lt (Heap.lt_size e)) (Heap.get?_push_of_some _ e)))) (by rw [List.length_take, cut2, sizeLine_eq]; omega))
end
def gStar (K : PySem.W.Frag) (n i : Nat) (t : TGs) : TG := fun v σ H Q => ∃ a xs, v = .ref a ∧ (SqL K H a xs ∨ SqT K H a xs) ∧ n ≤ xs.length + 1 ∧ xs.length ≤ 16384 ∧
  ∀ l, H l = none → t (xs.take i ++ [.ref l] ++ (xs.drop i).drop (xs.length + 1 - n)) σ (upd H l (.lst ((xs.drop i).take (xs.length + 1 - n)))) Q
section
variable {X : Cx} {pos : Pos}
theorem pg_star {es : List Expr} {k : Nat} {t : TGs} {n i : Nat} (hc : X.calm = true) (h : PGs X es t)
    (hn : (assignEach es X.env).length = n := by rfl) (hst : (assignEach es X.env).findIdx? (·.1) = some i := by rfl) : PG X (.Tuple es k pos) (gStar X.K n i t) := by
  refine ⟨fun pins s σ H v u Q I r hw => ?_⟩
  obtain ⟨a, xs, e1, hq, hl, hz, hw⟩ := hw
  subst e1
  cases r
  have hi : i < n := by
    have := List.findIdx?_eq_some_iff_findIdx_eq.mp hst
    omega
  rw [PyProof.Rows.assign_Tuple]
  refine wpAny_bind (wpAny_standAt ?_)
  unfold unpack
  rw [hn, hst]
  have fin : ∀ (its : List Value), Vals xs its → ∀ (h₂ : Heap) tk, (∀ b o, s.heap.get? b = some o → h₂.get? b = some o) →
      wpAny (model X.prog X.w) X.A (assignInOrder ((assignEach es X.env).map (·.2)) (its.take i ++ [.ref h₂.objs.size] ++ (its.drop i).drop (its.length + 1 - n))) (fun _ s' => ∃ σ' H', Inv X pins σ' H' s' ∧ Q σ' H') X.xe
        { s with heap := h₂.push { cls := .type "list", data := .seq ((its.drop i).take (its.length + 1 - n)).toArray }, toks := tk } := by
    intro its rv h₂ tk hk
    have hx := rv.length
    have I2 : Inv X pins σ H { s with heap := h₂, toks := tk } := I.kept (t' := tk) hk
    have I3 := I2.laid (a := h₂.objs.size) (o := .lst ((xs.drop i).take (xs.length + 1 - n))) (h' := h₂.push { cls := .type "list", data := .seq ((its.drop i).take (its.length + 1 - n)).toArray }) (t' := tk) (fun b o e => Heap.get?_push_of_some _ e) (Nat.le_refl _)
      (show ObjOk X.prog X.w _ _ _ (.lst _) from ⟨by rw [List.length_take, List.length_drop, sizeLine_eq]; omega, (its.drop i).take (its.length + 1 - n), 0, by rw [← hx]; exact (rv.drop i).take _, Heap.get?_push_size _ rfl⟩)
    refine h.run pins _ σ _ _ _ Q I3 ?_ (hw _ (I2.hok.fresh (Nat.le_refl _)))
    rw [← hx]
    exact ((rv.take i).append (Paired.cons (show RelV (.ref h₂.objs.size) (.ref h₂.objs.size) from rfl) .nil)).append ((rv.drop i).drop _)
  rcases hq with hq | hq
  · obtain ⟨its, rv, pl, _⟩ := I.list hq
    have hx := rv.length
    have hl' : s.heap.IsList a its.toArray := by
      obtain ⟨o, m, e, c, d, q⟩ := pl
      exact ⟨o, e, c, m, q⟩
    refine wpAny_bind (wpAny_holding (star_L hl' (I.ok.hd hc) hi (by simp; omega) (by simp; omega) fun h₂ tk hk => ?_))
    exact by simpa using fin its rv h₂ tk hk
  · obtain ⟨its, rv, ht, _⟩ := I.tuple hq
    have hx := rv.length
    refine wpAny_bind (wpAny_holding (star_T ht (I.ok.hd hc) hi (by simp; omega) (by simp; omega) fun h₂ tk hk => ?_))
    exact by simpa using fin its rv h₂ tk hk
theorem pgs_star {e : Expr} {es : List Expr} {t : TG} {u : TGs} {sp : Pos} (h1 : PG X e t) (h2 : PGs X es u)
    (hs : (assignEach (.Starred e sp :: es) X.env).map (·.2) = assign e X.env :: (assignEach es X.env).map (·.2) := by rfl) : PGs X (.Starred e sp :: es) (gCons t u) := by
  refine ⟨fun pins s σ H vs us Q I r h => ?_⟩
  obtain ⟨v, vr, e1, h⟩ := h
  subst e1
  cases r with
  | cons r rr =>
    rw [hs]
    refine PyProof.Rows.assignInOrder_cons (thn (h1.run pins s σ H _ _ _ I r h) fun _ s1 ⟨σ1, H1, I1, q1⟩ => ?_)
    exact h2.run pins s1 σ1 H1 _ _ Q I1 rr q1
theorem u_star {K : PySem.W.Frag} {es : List Expr} {k : Nat} {t : TGs} {n i : Nat} (hc : X.calm = true) (h : PGs X es t) (hK : X.K = K := by rfl)
    (hn : (assignEach es X.env).length = n := by rfl) (hst : (assignEach es X.env).findIdx? (·.1) = some i := by rfl) : PG X (.Tuple es k pos) (gStar K n i t) := hK ▸ pg_star hc h hn hst
end
/-! ### defs with defaults -/
structure OkFd (P : Program) (w : World) (K : PySem.W.Frag) (mg : Str → Option Value) (base : Heap) (CX : CXT) (k : Nat) (x : Str) (ps : List Str) (dvs : List V) (sp : Sp) : Prop where
  ex : ∃ (f : Addr) (fd : FuncData) (ds : List Value), mg x = some (.ref f) ∧ PySem.W.keepIn K (.ref f) = true ∧ Vals dvs ds ∧ Binds K fd ps ds ∧ FnOk P w K mg base CX k f fd ps sp
structure DefD (K : PySem.W.Frag) (mg : Str → Option Value) (x : Str) (st : Stmt) (ps : List Str) (dvs : List V) : Prop where
  ex : ∃ (f : Addr) (fd : FuncData) (ds : List Value), FunD K x x (defArgs st) (defBody st) (defScope st) dvs [] f fd ∧ mg x = some (.ref f) ∧ Vals dvs ds ∧ Binds K fd ps ds
section
variable {P : Program} {w : World} {K : PySem.W.Frag} {mg : Str → Option Value} {base : Heap} {x : Str} {st : Stmt} {N ps : List Str} {dvs : List V} {k : Nat} {sp : Sp}
theorem DefD.ok (D : DefD K mg x st ps dvs) (S : FnScope N ps (defScope st)) (len : ∀ vs H Q E, sp vs H Q E → vs.length = ps.length)
    (hbody : ∀ (f : Addr) (cdv : Value) (A : Around) (outer : List Env) (s : Shared) (H : Hp) (vs : List V) (Q : VK) (E : XK), Room k (A.deeper (envOfC x (defScope st) s.heap.objs.size f cdv)) → sp vs H Q E →
      ∃ t, PSs (cxOf CX0 P w K mg base N x (defScope st) f cdv A outer s H E).nox (defBody st) t ∧ t { nx := fun _ H' => Q .non H', rt := Q } (start N vs) H) : OkFd P w K mg base CX0 (k + 1) x ps dvs sp := by
  obtain ⟨f, fd, ds, F, g, v, b⟩ := D.ex
  refine ⟨f, fd, ds, g, F.kp, v, b, F.ok S len fun cdv A outer s H vs Q E hr h => ?_⟩
  obtain ⟨t, h1, h2⟩ := hbody f cdv A outer s H vs Q E hr h
  exact ⟨t, h1.nox, h2⟩
theorem DefD.okX (D : DefD K mg x st ps dvs) (S : FnScope N ps (defScope st)) (len : ∀ vs H Q E, sp vs H Q E → vs.length = ps.length)
    (hbody : ∀ (f : Addr) (cdv : Value) (A : Around) (outer : List Env) (s : Shared) (H : Hp) (vs : List V) (Q : VK) (E : XK), Room k (A.deeper (envOfC x (defScope st) s.heap.objs.size f cdv)) → sp vs H Q E →
      ∃ t, PSs (cxOf (L2.CX P w) P w K mg base N x (defScope st) f cdv A outer s H E) (defBody st) t ∧ t { nx := fun _ H' => Q .non H', rt := Q } (start N vs) H) : OkFd P w K mg base (L2.CX P w) (k + 1) x ps dvs sp := by
  obtain ⟨f, fd, ds, F, g, v, b⟩ := D.ex
  exact ⟨f, fd, ds, g, F.kp, v, b, F.ok S len fun cdv A outer s H vs Q E hr h => hbody f cdv A outer s H vs Q E hr h⟩
theorem OkFd.mono {CX : CXT} {j : Nat} (O : OkFd P w K mg base CX j x ps dvs sp) (h : j ≤ k) : OkFd P w K mg base CX k x ps dvs sp := by
  obtain ⟨f, fd, ds, a, b, v, c, d⟩ := O.ex
  exact ⟨f, fd, ds, a, b, v, c, d.mono h⟩
end
section
variable {X : Cx} {CX : CXT} {k : Nat} {x : Str} {ps : List Str} {dvs : List V} {sp : Sp} {E : XK} {p pos : Pos} {e : Expr} {es : List Expr} {t : TA}
theorem u_callD (O : OkFd X.prog X.w X.K X.mg X.base CX k x ps dvs sp) (hr : Room k X.A) (hx : Passes CX X E) (ha : PA X (e :: es) t) (hg : Gl X x := by rfl) (hdb : (x == ("__debug__" : Str)) = false := by decide)
    (he : starEach (e :: es) X.env = (false, eval e X.env) :: starEach es X.env := by rfl) (hpl : (backTo pos (starEach es X.env)).any (·.1) = false := by rfl) :
    PE X (.Call (.Name x p) (e :: es) [] pos) (tCall sp dvs E t) := by
  obtain ⟨f, fd, ds, hm, hk, v, hb, F⟩ := O.ex
  exact pe_call F hr hg hm hk hb v hx ha hdb he hpl
end
/-! ### except x as n -/
section
variable {X : Cx} {x n : Str} {c : Value} {i : Nat} {body suite : List Stmt} {b₀ : Stmt} {np pos pos' : Pos} {tb : WX → TS} {ts : Addr → Value → Option Addr → TS} {Wout : WX}
theorem u_try_as {K : PySem.W.Frag} (hs : X.stack = X.env :: X.outer) (hf : X.env.frame = some X.env.locals) (hN : X.N.Nodup) (hi : X.N[i]? = some n) (hln : X.env.kindOf n = some .local) (hc : Names X x c) (tk : Takes X Wout)
    (hb : ∀ (W : WX) (pn : List (Addr × Obj)) (xe : Value → Shared → Prop), Takes (X.tr pn xe) W → PassesOwn (model X.prog X.w) X.A X.env xe → PSs (X.tr pn xe) body (tb W))
    (hsu : ∀ (a : Addr) (oe : Obj) (cls : Value) (d : Option Addr) (pn : List (Addr × Obj)), Zc cls d oe → (∃ vs, oe.data = .fields vs) → PSs (X.suite a ((a, oe) :: pn)) (b₀ :: suite) (ts a cls d)) (h : X.K = K := by rfl) :
    PS X (.Try body [.ExceptHandler (some (.Name x np)) (some n) (b₀ :: suite) pos'] [] [] pos) (tTry tb (wAs K c i ts Wout)) := h ▸ ps_try_as hs hf hN hi hln hc tk hb hsu
end
def rIsEU (K : PySem.W.Frag) (cls : Value) (d : Option Addr) (a : Addr) : List V → Hp → VK → Prop := fun xs H Q => ∃ D, cls = .ref D ∧ d = none ∧ ExcC K D ∧ rIsE K D a xs H Q
theorem u_isE {X : Cx} {K : PySem.W.Frag} {a : Addr} {oe : Obj} {cls : Value} {d : Option Addr} {pn : List (Addr × Obj)} (hz : Zc cls d oe) (hf : ∃ vs, oe.data = .fields vs) (h : X.K = K := by rfl) : CallR (X.suite a ((a, oe) :: pn)) (.builtin "isinstance") (rIsEU K cls d a) := by
  subst h
  intro pins s σ H xs us Q I r hh
  obtain ⟨D, rfl, rfl, C, hr⟩ := hh
  exact call_isE C hz hf pins s σ H xs us Q I r hr
/-! ### str, int -/
section
variable {X : Cx}
def rStrU : List V → Hp → VK → Prop := fun xs H Q => (∃ i, xs = [.int i] ∧ i.natAbs.log2 < 1920 ∧ Q (.str (toString i)) H) ∨ ∃ a, xs = [.str a] ∧ Q (.str a) H
theorem call_strU : CallR X (.type "str") rStrU := CallR.or call_str_int SkE.call_str_str
def rIntU : List V → Hp → VK → Prop := fun xs H Q => (∃ a n, xs = [.str a] ∧ PySem.intText? a = some n ∧ a.length ≤ 640 ∧ Q (.int n) H) ∨ (∃ i, xs = [.int i] ∧ Q (.int i) H) ∨ ∃ k, xs = [.bl k] ∧ Q (.int (if k then 1 else 0)) H
theorem call_intU : CallR X (.type "int") rIntU := CallR.or call_int_str call_int1
end
theorem u_tupleOf {X : Cx} {K : PySem.W.Frag} (h : X.K = K := by rfl) : CallR X (.type "tuple") (fun xs H Q => ∃ p ys, xs = [.ref p] ∧ ((SqL K H p ys ∧ ∀ l, H l = none → Q (.ref l) (upd H l (.tup ys))) ∨ (SqT K H p ys ∧ Q (.ref p) H))) := h ▸ call_tuple_of
/-! ### steps -/
section
variable {σ : St} {H : Hp} {Q : VK} {QA : List V → Hp → Prop} {v x : V} {n i : Nat} {p q a : Addr} {xs : List V} {ta : TE} {tr : TA} {K : PySem.W.Frag} {D : Ends} {E : XK} {d : Option Addr}
theorem s_gStar {R : St → Hp → Prop} {t : TGs} (h : SqL K H p xs ∨ SqT K H p xs) (h1 : n ≤ xs.length + 1) (h2 : xs.length ≤ 16384) (z : ∀ l, H l = none → t (xs.take i ++ [.ref l] ++ (xs.drop i).drop (xs.length + 1 - n)) σ (upd H l (.lst ((xs.drop i).take (xs.length + 1 - n)))) R) : gStar K n i t (.ref p) σ H R := ⟨p, xs, rfl, h, h1, h2, z⟩
theorem s_gStar1 {R : St → Hp → Prop} {t : TGs} {r : List V} (h : SqL K H p (x :: r) ∨ SqT K H p (x :: r)) (h2 : r.length ≤ 16000) (z : ∀ l, H l = none → t [x, .ref l] σ (upd H l (.lst r)) R) : gStar K 2 1 t (.ref p) σ H R := by
  refine ⟨p, x :: r, rfl, h, by rw [List.length_cons]; omega, by rw [List.length_cons]; omega, fun l hl => ?_⟩
  have e1 : (List.drop 1 (x :: r)).drop ((x :: r).length + 1 - 2) = [] := List.drop_of_length_le (by simp)
  have e2 : (List.drop 1 (x :: r)).take ((x :: r).length + 1 - 2) = r := List.take_of_length_le (by simp)
  rw [e1, e2]
  exact z l hl
theorem s_slT {lo hi : Option Int} (h : SqT K H p xs) (hw : ¬ (HT.sIx xs.length 0 lo = 0 ∧ HT.sIx xs.length xs.length hi = xs.length)) (z : ∀ l, H l = none → Q (.ref l) (upd H l (.tup (cutV xs lo hi)))) : rSlU K (.ref p) lo hi H Q := .inr (.inl ⟨p, xs, rfl, h, hw, z⟩)
theorem s_slT1 {u : V} {us : List V} (h : SqT K H p (u :: us)) (z : ∀ l, H l = none → Q (.ref l) (upd H l (.tup us))) : rSlU K (.ref p) (some 1) none H Q := by
  refine s_slT h (fun ⟨e, _⟩ => ?_) ?_
  · have : HT.sIx (u :: us).length 0 (some ((1 : Nat) : Int)) = 0 := e
    rw [HT.sIx_nat, List.length_cons] at this
    omega
  · have e1 : HT.sIx (u :: us).length 0 (some ((1 : Nat) : Int)) = 1 := by
      rw [HT.sIx_nat, List.length_cons]
      omega
    have e2 : cutV (u :: us) (some 1) none = us := by
      unfold cutV
      rw [HT.sIx_none, show HT.sIx (u :: us).length 0 (some 1) = 1 from e1]
      simp
    rw [e2]
    exact z
theorem s_addT {ys : List V} (h1 : SqT K H p xs) (h2 : SqT K H q ys) (n1 : xs ≠ []) (n2 : ys ≠ []) (h : xs.length + ys.length ≤ sizeLine) (z : ∀ l, H l = none → Q (.ref l) (upd H l (.tup (xs ++ ys)))) : rAddU K (.ref p) (.ref q) H Q :=
  .inr (.inr (.inr ⟨p, q, xs, ys, rfl, rfl, h1, h2, n1, h, fun e => absurd e n2, fun _ => z⟩))
theorem s_callD {sp : Sp} {dvs : List V} (z : tr σ H fun vs H1 => sp (vs ++ dvs) H1 Q E) : tCall sp dvs E tr σ H Q := z
theorem s_sp2d {P : V → V → Hp → VK → XK → Prop} {y : V} (z : P x y H Q E) : sp2 P ([x] ++ [y]) H Q E := ⟨x, y, rfl, z⟩
theorem s_sp3d {P : V → V → V → Hp → VK → XK → Prop} {y : V} (z : P x y v H Q E) : sp3 P ([x, y] ++ [v]) H Q E := ⟨x, y, v, rfl, z⟩
theorem s_strI {j : Int} (h : j.natAbs.log2 < 1920) (z : Q (.str (toString j)) H) : rStrU [.int j] H Q := .inl ⟨j, rfl, h, z⟩
theorem s_strS {y : Str} (z : Q (.str y) H) : rStrU [.str y] H Q := .inr ⟨y, rfl, z⟩
theorem s_intS {y : Str} {j : Int} (h : PySem.intText? y = some j) (hl : y.length ≤ 640) (z : Q (.int j) H) : rIntU [.str y] H Q := .inl ⟨y, j, rfl, h, hl, z⟩
theorem s_intI {j : Int} (z : Q (.int j) H) : rIntU [.int j] H Q := .inr (.inl ⟨j, rfl, z⟩)
theorem s_intB {k : Bool} (z : Q (.int (if k then 1 else 0)) H) : rIntU [.bl k] H Q := .inr (.inr ⟨k, rfl, z⟩)
theorem s_as {c cls : Value} {t : Addr → Value → Option Addr → TS} {Wout : WX} (h : PySem.W.exmOne K cls c = some true) (z : ∀ a, H a = none → t a cls d { nx := fun σ' H' => D.nx (σ'.set i none) H', rt := D.rt, bk := fun σ' H' => D.bk (σ'.set i none) H', ct := fun σ' H' => D.ct (σ'.set i none) H' } (σ.set i (some (.ref a))) H) : WE (wAs K c i t Wout D) σ cls d H :=
  ⟨true, h, fun _ => z, fun (e : true = false) => absurd e.symm Bool.false_ne_true⟩
theorem s_isEr {C B : Addr} {b : Bool} (h : ExcC K C) (e : PySem.W.kitOne K (.ref C) (.ref B) = some b) (z : Q (.bl b) H) : rIsEU K (.ref C) none a [.ref a, .ref B] H Q := ⟨C, rfl, rfl, h, .ref B, .ref B, b, rfl, fun u r => r, e, z⟩
theorem s_isEt {C : Addr} {T : String} {b : Bool} (h : ExcC K C) (e : PySem.W.kitOne K (.ref C) (.type T) = some b) (z : Q (.bl b) H) : rIsEU K (.ref C) none a [.ref a, .ty T] H Q := ⟨C, rfl, rfl, h, .ty T, .type T, b, rfl, fun u r => r, e, z⟩
end
end L2.U
/-! Rec: names, figures, reckonings as trees: read from words, written as words. Own text; no program in sight. -/
namespace L2.U
open PySem PySem.Spec PyProof.Rows RZ TL
/-! ### names and figures -/
def lettersS : Str := Str.ofString "abcdefghijklmnopqrstuvwxyz"
def figuresS : Str := Str.ofString "0123456789"
def takenL : List Str := ["fun", "end", "let", "store", "say", "ask", "give", "fail", "call", "if", "else", "while", "try", "catch", "div", "mod", "and", "or", "not", "at"]
def isNm (x : Str) : Bool := decide ((1 : Int) ≤ (x.length : Nat)) && (decide (((x.length : Nat) : Int) ≤ 8) && ((x.cps.toList.map fun c => decide (c ∈ lettersS.cps.toList)).all id && !inV (.str x) (takenL.map V.str)))
def isFig (m : Int) (x : Str) : Bool := (decide ((1 : Int) ≤ (x.length : Nat)) && decide (((x.length : Nat) : Int) ≤ m)) && ((x.cps.toList.map fun c => decide (c ∈ figuresS.cps.toList)).all id && (decide (x = Str.ofString "0") || !decide (x.cps.toList.head? = some 48)))
theorem flat_strs : ∀ l : List Str, (l.map V.str).all flatV = true
  | [] => rfl
  | x :: l => by
    rw [List.map_cons, List.all_cons, flat_strs l]
    rfl
theorem inV_strs (x : Str) : ∀ l : List Str, inV (.str x) (l.map V.str) = decide (x ∈ l)
  | [] => rfl
  | y :: l => by
    have e := inV_strs x l
    unfold inV at e ⊢
    rw [List.map_cons]
    simp only [List.any_cons, List.mem_cons] at e ⊢
    rw [e]
    by_cases h : x = y
    · subst h
      simp [eqV]
    · by_cases h2 : x ∈ l <;> simp [h, h2, eqV, Ne.symm h]
theorem taken_split : Txt.split (Str.ofString "fun end let store say ask give fail call if else while try catch div mod and or not at") (Str.ofString " ") = takenL := by decide +kernel
theorem len_sz {x : Str} (h : x.length ≤ 1000) : x.length ≤ sizeLine := Nat.le_of_lt (small1000 h)
theorem fig_codes : figuresS.cps.toList = [48, 49, 50, 51, 52, 53, 54, 55, 56, 57] := by decide +kernel
def numOf (x : Str) : Nat := NumText.digitsVal (tl x)
structure FigF (m : Int) (x : Str) : Prop where
  l0 : 1 ≤ (tl x).length
  l1 : ((tl x).length : Int) ≤ m
  dg : NumText.AllDigits (tl x)
  hd : tl x = [48] ∨ ∃ c r, tl x = c :: r ∧ 49 ≤ c
theorem isFig_of {m : Int} {x : Str} (h : isFig m x = true) : FigF m x := by
  unfold isFig at h
  simp only [Bool.and_eq_true, decide_eq_true_eq, Bool.or_eq_true, List.all_map, List.all_eq_true, Function.comp, id, Bool.not_eq_true', decide_eq_false_iff_not] at h
  obtain ⟨⟨h1, h2⟩, h3, h4⟩ := h
  have e : x.length = (tl x).length := len_tl x
  have dg : NumText.AllDigits (tl x) := fun c hc => by
    have := h3 c hc
    rw [fig_codes] at this
    simp only [List.mem_cons, List.not_mem_nil, or_false] at this
    omega
  refine ⟨by omega, by omega, dg, ?_⟩
  rcases h4 with h4 | h4
  · left
    rw [h4]
    rfl
  · right
    cases q : tl x with
    | nil => rw [q] at e; rw [e] at h1; simp at h1
    | cons c r =>
      refine ⟨c, r, rfl, ?_⟩
      have h5 := dg c (by rw [q]; exact List.mem_cons_self)
      have h6 : c ≠ 48 := fun z => h4 (by show (tl x).head? = some 48; rw [q, z]; rfl)
      omega
theorem isFig_int {m : Int} {x : Str} (h : isFig m x = true) (hm : m ≤ 600) : PySem.intText? x = some ((numOf x : Nat) : Int) := by
  have F := isFig_of h
  exact intText_digits F.dg (fun e => by have := F.l0; rw [show tl x = x.cps.toList from rfl, e] at this; simp at this) (by rw [len_tl]; have := F.l1; omega)
theorem chars_back : ∀ l : List Nat, NumText.AllDigits l → (l.map Char.ofNat).map Char.toNat = l
  | [], _ => rfl
  | c :: r, h => by
    rw [List.map_cons, List.map_cons, chars_back r h.tail]
    have := h.head
    congr 1
    have : c = 48 ∨ c = 49 ∨ c = 50 ∨ c = 51 ∨ c = 52 ∨ c = 53 ∨ c = 54 ∨ c = 55 ∨ c = 56 ∨ c = 57 := by omega
    rcases this with rfl | rfl | rfl | rfl | rfl | rfl | rfl | rfl | rfl | rfl <;> rfl
theorem isFig_back {m : Int} {x : Str} (h : isFig m x = true) : Str.ofString (toString ((numOf x : Nat) : Int)) = x := by
  have F := isFig_of h
  refine ext_tl ?_
  rw [tl_num]
  unfold numL numOf
  have e : (tl x).length = ((tl x).length - 1) + 1 := by have := F.l0; omega
  rw [NumText.toDigits_digitsVal _ _ e F.dg ?_]
  · exact chars_back _ F.dg
  · rcases F.hd with z | z
    · left
      rw [z]
      rfl
    · exact .inr z
theorem digits_lt : ∀ (l : List Nat), NumText.AllDigits l → NumText.digitsVal l < 10 ^ l.length := by
  intro l h
  have : ∀ (l : List Nat) (a : Nat), NumText.AllDigits l → l.foldl (fun acc c => acc * 10 + (c - 48)) a < (a + 1) * 10 ^ l.length := by
    intro l
    induction l with
    | nil => intro a _; simp
    | cons c r ih =>
      intro a h
      have h1 := ih (a * 10 + (c - 48)) h.tail
      have h2 := h.head
      rw [List.foldl_cons, List.length_cons, Nat.pow_succ]
      refine Nat.lt_of_lt_of_le h1 ?_
      rw [show (a + 1) * (10 ^ r.length * 10) = ((a + 1) * 10) * 10 ^ r.length by rw [Nat.mul_comm (10 ^ r.length) 10, Nat.mul_assoc]]
      exact Nat.mul_le_mul_right _ (by omega)
  have := this l 0 h
  rw [Nat.zero_add, Nat.one_mul] at this
  exact this
theorem isFig_lt {x : Str} (h : isFig 6 x = true) : numOf x < 1000000 := by
  have F := isFig_of h
  refine Nat.lt_of_lt_of_le (digits_lt _ F.dg) ?_
  have := F.l1
  exact Nat.le_trans (Nat.pow_le_pow_right (by decide) (show (tl x).length ≤ 6 by omega)) (by decide)
/-! ### trees -/
inductive Tr
  | nu (n : Nat) | nm (x : Str) | one (w : Str) (a : Tr) | two (w : Str) (a b : Tr)
def oneL : List Str := ["not", "at"]
def twoL : List Str := ["+", "-", "*", "div", "mod", "<", "=", "and", "or"]
def numS (n : Nat) : Str := Str.ofString (toString ((n : Nat) : Int))
def dTr : Tr → PyData
  | .nu n => .tuple [.str "number", .int n]
  | .nm x => .tuple [.str "name", .str x]
  | .one w a => .tuple [.str w, dTr a]
  | .two w a b => .tuple [.str w, dTr a, dTr b]
def tw : Tr → List Str
  | .nu n => [numS n]
  | .nm x => [x]
  | .one w a => w :: tw a
  | .two w a b => w :: (tw a ++ tw b)
def dep : Tr → Nat
  | .nu _ => 0
  | .nm _ => 0
  | .one _ a => dep a + 1
  | .two _ a b => max (dep a) (dep b) + 1
/-- the kinds of a tree -/
def TrOk : Tr → Prop
  | .nu n => n < 1000000
  | .nm x => isNm x = true
  | .one w a => w ∈ oneL ∧ TrOk a
  | .two w a b => w ∈ twoL ∧ TrOk a ∧ TrOk b
theorem dTr_noL : ∀ t : Tr, noL (dTr t) = true
  | .nu _ => rfl
  | .nm _ => rfl
  | .one w a => by simp [dTr, noL, noLAll, dTr_noL a]
  | .two w a b => by simp [dTr, noL, noLAll, dTr_noL a, dTr_noL b]
theorem dep_tw : ∀ t : Tr, dep t < (tw t).length
  | .nu _ => by simp [dep, tw]
  | .nm _ => by simp [dep, tw]
  | .one w a => by
    have := dep_tw a
    simp [dep, tw]
    omega
  | .two w a b => by
    have h1 := dep_tw a
    have h2 := dep_tw b
    simp [dep, tw]
    omega
theorem okD_tr : ∀ (n : Nat) (t : Tr), dep t + 2 ≤ n → OkD n (dTr t)
  | 0, t, h => by omega
  | 1, t, h => by omega
  | n + 2, .nu k, h => ⟨by simp, by intro d hd; simp at hd; rcases hd with rfl | rfl <;> trivial⟩
  | n + 2, .nm k, h => ⟨by simp, by intro d hd; simp at hd; rcases hd with rfl | rfl <;> trivial⟩
  | n + 2, .one w a, h => ⟨by simp, by
    intro d hd
    simp at hd
    rcases hd with rfl | rfl
    · trivial
    · exact okD_tr (n + 1) a (by simp [dep] at h; omega)⟩
  | n + 2, .two w a b, h => ⟨by simp, by
    intro d hd
    simp at hd
    rcases hd with rfl | rfl | rfl
    · trivial
    · exact okD_tr (n + 1) a (by simp [dep] at h; omega)
    · exact okD_tr (n + 1) b (by simp [dep] at h; omega)⟩
/-! ### reading -/
def parse : Nat → List Str → Option (Tr × List Str)
  | 0, _ => none
  | _ + 1, [] => none
  | n + 1, x :: r =>
    if isFig 6 x = true then some (.nu (numOf x), r)
    else if isNm x = true then some (.nm x, r)
    else if x ∈ oneL then
      match parse n r with
      | none => none
      | some (a, r1) => some (.one x a, r1)
    else if x ∈ twoL then
      match parse n r with
      | none => none
      | some (a, r1) =>
        match parse n r1 with
        | none => none
        | some (b, r2) => some (.two x a b, r2)
    else none
/-- the words of a tree: short, not empty, without a blank -/
def WdOk (w : Str) : Prop := 1 ≤ w.length ∧ w.length ≤ 8 ∧ 32 ∉ tl w ∧ PyData.strOk w = true
instance (w : Str) : Decidable (WdOk w) := by unfold WdOk; infer_instance
theorem strOk_of {w : Str} (h : ∀ c ∈ tl w, c < 1114112) : PyData.strOk w = true := by
  unfold PyData.strOk
  rw [← Array.all_toList, List.all_eq_true]
  exact fun c hc => decide_eq_true (h c hc)
theorem oneL_len : ∀ w ∈ oneL, WdOk w := by decide +kernel
theorem twoL_len : ∀ w ∈ twoL, WdOk w := by decide +kernel
theorem letters_no : 32 ∉ lettersS.cps.toList := by decide +kernel
theorem letters_lt : ∀ c ∈ lettersS.cps.toList, c < 1114112 := by decide +kernel
theorem isNm_len {x : Str} (h : isNm x = true) : WdOk x := by
  unfold isNm at h
  simp only [Bool.and_eq_true, decide_eq_true_eq, List.all_map, List.all_eq_true, Function.comp, id] at h
  obtain ⟨h1, h2, h3, _⟩ := h
  refine ⟨by omega, by omega, fun m => letters_no (h3 32 m), strOk_of fun c hc => letters_lt c (h3 c hc)⟩
theorem numS_len {n : Nat} (h : n < 1000000) : WdOk (numS n) := by
  unfold numS WdOk
  rw [len_tl, tl_num]
  have h1 : numL n ≠ [] := numL_ne n
  have h2 := numL_len (n := n) (k := 6) (by decide) h
  exact ⟨List.length_pos_iff.mpr h1, by omega, numL_free (.inl (by decide)), strOk_of fun c hc => by
    rw [tl_num] at hc
    have := numL_digits n c hc
    omega⟩
theorem tw_ok : ∀ t : Tr, TrOk t → ∀ w ∈ tw t, WdOk w
  | .nu n, h, w, hw => by
    rw [List.mem_singleton.mp hw]
    exact numS_len h
  | .nm x, h, w, hw => by
    rw [List.mem_singleton.mp hw]
    exact isNm_len h
  | .one v a, h, w, hw => by
    rcases List.mem_cons.mp hw with rfl | hw
    · exact oneL_len _ h.1
    · exact tw_ok a h.2 w hw
  | .two v a b, h, w, hw => by
    rcases List.mem_cons.mp hw with rfl | hw
    · exact twoL_len _ h.1
    · rcases List.mem_append.mp hw with hw | hw
      · exact tw_ok a h.2.1 w hw
      · exact tw_ok b h.2.2 w hw
theorem parse_spec : ∀ (n : Nat) (ws : List Str) (t : Tr) (r : List Str), parse n ws = some (t, r) → TrOk t ∧ ws = tw t ++ r
  | 0, _, _, _, h => by simp [parse] at h
  | _ + 1, [], _, _, h => by simp [parse] at h
  | n + 1, x :: ws, t, r, h => by
    unfold parse at h
    by_cases h1 : isFig 6 x = true
    · rw [if_pos h1] at h
      cases h
      exact ⟨isFig_lt h1, by show x :: ws = [numS (numOf x)] ++ ws; rw [numS, isFig_back h1]; rfl⟩
    · rw [if_neg h1] at h
      by_cases h2 : isNm x = true
      · rw [if_pos h2] at h
        cases h
        exact ⟨h2, rfl⟩
      · rw [if_neg h2] at h
        by_cases h3 : x ∈ oneL
        · rw [if_pos h3] at h
          cases q : parse n ws with
          | none => rw [q] at h; cases h
          | some p =>
            obtain ⟨a, r1⟩ := p
            rw [q] at h
            cases h
            obtain ⟨k1, k2⟩ := parse_spec n ws a r q
            exact ⟨⟨h3, k1⟩, by rw [k2]; rfl⟩
        · rw [if_neg h3] at h
          by_cases h4 : x ∈ twoL
          · rw [if_pos h4] at h
            cases q : parse n ws with
            | none => rw [q] at h; cases h
            | some p =>
              obtain ⟨a, r1⟩ := p
              rw [q] at h
              dsimp only at h
              cases q2 : parse n r1 with
              | none => rw [q2] at h; cases h
              | some p2 =>
                obtain ⟨b, r2⟩ := p2
                rw [q2] at h
                cases h
                obtain ⟨k1, k2⟩ := parse_spec n ws a r1 q
                obtain ⟨k3, k4⟩ := parse_spec n r1 b r q2
                exact ⟨⟨h4, k1, k3⟩, by rw [k2, k4]; show x :: (tw a ++ (tw b ++ r)) = x :: (tw a ++ tw b) ++ r; simp⟩
          · rw [if_neg h4] at h
            cases h
theorem parse_len {n : Nat} {ws : List Str} {t : Tr} {r : List Str} (h : parse n ws = some (t, r)) : r.length < ws.length := by
  rw [(parse_spec n ws t r h).2, List.length_append]
  have := dep_tw t
  omega
/-- a text's tree -/
def readW (ws : List Str) : Option Tr := match parse 21 (ws.take 20) with
  | none => none
  | some (t, r) => if r = [] ∧ ws.length ≤ 20 then some t else none
theorem readW_some {ws : List Str} {t : Tr} (h : readW ws = some t) : TrOk t ∧ ws = tw t ∧ (tw t).length ≤ 20 ∧ parse 21 (ws.take 20) = some (t, []) := by
  unfold readW at h
  cases q : parse 21 (ws.take 20) with
  | none => rw [q] at h; cases h
  | some p =>
    obtain ⟨a, r⟩ := p
    rw [q] at h
    dsimp only at h
    split at h
    · rename_i c
      cases h
      obtain ⟨k1, k2⟩ := parse_spec _ _ _ _ q
      rw [List.take_of_length_le c.2, c.1, List.append_nil] at k2
      exact ⟨k1, k2, by rw [← k2]; exact c.2, by rw [c.1]⟩
    · cases h
theorem readW_blank {ws : List Str} (h : Str.ofString "" ∈ ws) : readW ws = none := by
  cases q : readW ws with
  | none => rfl
  | some t =>
    obtain ⟨k1, k2, _⟩ := readW_some q
    rw [k2] at h
    have := (tw_ok t k1 _ h).1
    exact absurd this (by decide)
/-! ### joined words -/
def blankS : Str := Str.ofString " "
theorem joinL_le (S : List Nat) (k : Nat) (hS : S.length ≤ 1) : ∀ ps : List (List Nat), (∀ p ∈ ps, p.length ≤ k) → (joinL S ps).length ≤ (k + 1) * ps.length
  | [], _ => by simp [joinL]
  | [p], h => by
    have := h p List.mem_cons_self
    simp [joinL]
    omega
  | p :: q :: r, h => by
    have h1 := joinL_le S k hS (q :: r) fun z hz => h z (List.mem_cons_of_mem _ hz)
    have h2 := h p List.mem_cons_self
    show (p ++ (S ++ joinL S (q :: r))).length ≤ _
    rw [List.length_append, List.length_append, List.length_cons (a := p), Nat.mul_add]
    omega
theorem join_len (k : Nat) (ws : List Str) (h : ∀ w ∈ ws, w.length ≤ k) : (Txt.join blankS ws).length ≤ (k + 1) * ws.length := by
  rw [len_tl, join_eq, tl_join]
  have := joinL_le (tl blankS) k (by decide) (ws.map tl) fun p hp => by
    obtain ⟨w, hw, rfl⟩ := List.mem_map.mp hp
    rw [← len_tl]
    exact h w hw
  rwa [List.length_map] at this
theorem sum_le (k : Nat) : ∀ ws : List Str, (∀ w ∈ ws, w.length ≤ k) → (ws.map (·.length)).sum ≤ k * ws.length
  | [], _ => by simp
  | w :: r, h => by
    have h1 := sum_le k r fun z hz => h z (List.mem_cons_of_mem _ hz)
    have h2 := h w List.mem_cons_self
    rw [List.map_cons, List.sum_cons, List.length_cons, Nat.mul_add]
    omega
theorem split_blank {ws : List Str} (hn : ws ≠ []) (h : ∀ w ∈ ws, 32 ∉ tl w) : Txt.split (Txt.join blankS ws) blankS = ws := split_join (s := 32) (S := []) (by decide) (by decide +kernel) hn h
theorem joinL_cons (S p : List Nat) {ps : List (List Nat)} (h : ps ≠ []) : joinL S (p :: ps) = p ++ (S ++ joinL S ps) := by
  cases ps with
  | nil => exact absurd rfl h
  | cons q r => rfl
theorem joinL_app (S : List Nat) : ∀ {ps qs : List (List Nat)}, ps ≠ [] → qs ≠ [] → joinL S (ps ++ qs) = joinL S ps ++ (S ++ joinL S qs)
  | [], _, h, _ => absurd rfl h
  | [p], qs, _, h => by
    rw [List.singleton_append, joinL_cons S p h]
    rfl
  | p :: q :: r, qs, _, h => by
    rw [List.cons_append, joinL_cons S p (by simp), joinL_cons S p (by simp), joinL_app S (ps := q :: r) (by simp) h]
    simp
theorem tw_ne (t : Tr) : tw t ≠ [] := by cases t <;> simp [tw]
theorem join_one (w : Str) : Txt.join blankS [w] = w := ext_tl (by rw [join_eq, tl_join]; rfl)
theorem join_tw1 (w : Str) (a : Tr) : Txt.join blankS [w, Txt.join blankS (tw a)] = Txt.join blankS (w :: tw a) := by
  refine ext_tl ?_
  simp only [join_eq, tl_join, List.map_cons, List.map_nil]
  rw [joinL_cons (tl blankS) (tl w) (ps := [_]) (by simp), joinL_cons (tl blankS) (tl w) (ps := List.map tl (tw a)) (by simpa using tw_ne a)]
  rfl
theorem join_tw2 (w : Str) (a b : Tr) : Txt.join blankS [w, Txt.join blankS (tw a), Txt.join blankS (tw b)] = Txt.join blankS (w :: (tw a ++ tw b)) := by
  refine ext_tl ?_
  simp only [join_eq, tl_join, List.map_cons, List.map_nil]
  rw [joinL_cons (tl blankS) (tl w) (ps := [_, _]) (by simp), joinL_cons (tl blankS) (joinL _ _) (ps := [_]) (by simp), joinL_cons (tl blankS) (tl w) (ps := List.map tl (tw a ++ tw b)) (by simp [tw_ne a]), List.map_append, joinL_app _ (by simpa using tw_ne a) (by simpa using tw_ne b)]
  rfl
theorem dpApp {K : PySem.W.Frag} {H : Hp} : ∀ {xs ys : List V} {ds es : List PyData}, DpAll K H xs ds → DpAll K H ys es → DpAll K H (xs ++ ys) (ds ++ es)
  | _, _, _, _, .nil, h => h
  | _, _, _, _, .cons h1 h2, h => .cons h1 (dpApp h2 h)
theorem dpOne {K : PySem.W.Frag} {H : Hp} {v : V} {d : PyData} (h : Dp K H v d) : DpAll K H [v] [d] := .cons h .nil
theorem atI_0 {α : Type} (c : α) (r : List α) : atI (c :: r) 0 = some c := by
  unfold atI ixN
  rw [if_pos (Int.le_refl 0), if_pos (by simp)]
  rfl
theorem dpStrs {K : PySem.W.Frag} {H : Hp} : ∀ l : List Str, DpAll K H (l.map V.str) (l.map PyData.str)
  | [] => .nil
  | x :: l => .cons (.str x) (dpStrs l)
theorem canLay_strs : ∀ l : List Str, (∀ w ∈ l, PyData.strOk w = true) → PyData.canLayAll0 (l.map PyData.str) = true
  | [], _ => by simp [PyData.canLayAll0]
  | p :: t, h => by
    have h1 := h p List.mem_cons_self
    have h2 := canLay_strs t fun w hw => h w (List.mem_cons_of_mem _ hw)
    rw [List.map_cons, PyData.canLayAll0, h2, Bool.and_true, PyData.canLay0]
    exact h1
theorem depth_strs : ∀ l : List Str, PyData.depthAll (l.map PyData.str) ≤ 1
  | [] => by simp [PyData.depthAll]
  | p :: t => by
    have := depth_strs t
    simp [PyData.depthAll, PyData.depth]
    omega
theorem shaped_strs {l : List Str} (hl : ∀ w ∈ l, PyData.strOk w = true) : SeqAt.shaped (.list (l.map PyData.str)) = true := by
  have h := depth_strs l
  unfold SeqAt.shaped
  rw [PyData.canLay0, canLay_strs l hl, Bool.true_and, PyData.depth]
  exact decide_eq_true (by omega)
/-! ### texts -/
structure TxOk (m : Nat) (ws : List Str) : Prop where
  ne : ws ≠ []
  le : ws.length ≤ m
  wd : ∀ w ∈ ws, 32 ∉ tl w ∧ w.length ≤ 10 ∧ PyData.strOk w = true
theorem TxOk.len {m : Nat} {ws : List Str} (h : TxOk m ws) : (Txt.join blankS ws).length ≤ 11 * m := Nat.le_trans (join_len 10 ws fun w hw => (h.wd w hw).2.1) (Nat.mul_le_mul_left _ h.le)
theorem TxOk.tw {t : Tr} {m : Nat} (h : TrOk t) (hm : (tw t).length ≤ m) : TxOk m (tw t) := ⟨tw_ne t, hm, fun w hw => by
  have := tw_ok t h w hw
  exact ⟨this.2.2.1, by have := this.2.1; omega, this.2.2.2⟩⟩
/-! ### a tree's parts -/
structure Nd (t : Tr) (x : Str) (ks : List Tr) : Prop where
  d : dTr t = .tuple (.str x :: ks.map dTr)
  w1 : x ∉ ([Str.ofString "name", Str.ofString "number"] : List Str)
  wl : WdOk x
  dp : ∀ k ∈ ks, dep k < dep t
  ok : ∀ k ∈ ks, TrOk k
  le : ∀ k ∈ ks, (L2.U.tw k).length ≤ (L2.U.tw t).length
  jn : Txt.join blankS (x :: ks.map fun k => Txt.join blankS (L2.U.tw k)) = Txt.join blankS (L2.U.tw t)
  kl : ks.length ≤ 2
  k0 : 0 < ks.length
theorem leaf_no : ∀ w ∈ oneL ++ twoL, w ∉ ([Str.ofString "name", Str.ofString "number"] : List Str) := by decide +kernel
theorem tr_cases (t : Tr) (h : TrOk t) : (∃ n, t = .nu n) ∨ (∃ x, t = .nm x) ∨ ∃ x ks, Nd t x ks := by
  cases t with
  | nu n => exact .inl ⟨n, rfl⟩
  | nm x => exact .inr (.inl ⟨x, rfl⟩)
  | one x a =>
    refine .inr (.inr ⟨x, [a], rfl, leaf_no x (List.mem_append_left _ h.1), oneL_len x h.1, ?_, ?_, ?_, join_tw1 x a, by simp, by simp⟩)
    · intro k hk
      rw [List.mem_singleton.mp hk]
      simp [dep]
    · intro k hk
      rw [List.mem_singleton.mp hk]
      exact h.2
    · intro k hk
      rw [List.mem_singleton.mp hk]
      simp [L2.U.tw]
  | two x a b =>
    refine .inr (.inr ⟨x, [a, b], rfl, leaf_no x (List.mem_append_right _ h.1), twoL_len x h.1, ?_, ?_, ?_, join_tw2 x a b, by simp, by simp⟩)
    · intro k hk
      simp at hk
      rcases hk with rfl | rfl <;> simp [dep] <;> omega
    · intro k hk
      simp at hk
      rcases hk with rfl | rfl
      · exact h.2.1
      · exact h.2.2
    · intro k hk
      simp at hk
      rcases hk with rfl | rfl <;> simp [L2.U.tw] <;> omega
theorem tw_len9 {t : Tr} (h : TrOk t) : (Txt.join blankS (L2.U.tw t)).length ≤ 9 * (L2.U.tw t).length := join_len 8 _ fun w hw => (tw_ok t h w hw).2.1
theorem Nd.sum {t : Tr} {x : Str} {ks : List Tr} (N : Nd t x ks) : ((x :: ks.map fun k => Txt.join blankS (L2.U.tw k)).map (·.length)).sum ≤ 8 + 2 * (9 * (L2.U.tw t).length) := by
  have h1 := N.wl.2.1
  rw [List.map_cons, List.sum_cons]
  have : ((ks.map fun k => Txt.join blankS (L2.U.tw k)).map (·.length)).sum ≤ (9 * (L2.U.tw t).length) * (ks.map fun k => Txt.join blankS (L2.U.tw k)).length := sum_le _ _ fun w hw => by
    obtain ⟨k, hk, rfl⟩ := List.mem_map.mp hw
    exact Nat.le_trans (tw_len9 (N.ok k hk)) (Nat.mul_le_mul_left _ (N.le k hk))
  rw [List.length_map] at this
  have h2 : (9 * (L2.U.tw t).length) * ks.length ≤ (9 * (L2.U.tw t).length) * 2 := Nat.mul_le_mul_left _ N.kl
  omega
theorem Dp.tup_of {K : PySem.W.Frag} {H : Hp} {v : V} {ds : List PyData} (h : Dp K H v (.tuple ds)) : ∃ a us, v = .ref a ∧ SqT K H a us ∧ DpAll K H us ds := by
  cases h with
  | tup hs ha => exact ⟨_, _, rfl, hs, ha⟩
theorem Dp.lst_of {K : PySem.W.Frag} {H : Hp} {v : V} {ds : List PyData} (h : Dp K H v (.list ds)) : ∃ a us, v = .ref a ∧ SqL K H a us ∧ DpAll K H us ds := by
  cases h with
  | lst hs ha => exact ⟨_, _, rfl, hs, ha⟩
theorem DpAll.cons_of {K : PySem.W.Frag} {H : Hp} {us : List V} {d : PyData} {ds : List PyData} (h : DpAll K H us (d :: ds)) : ∃ v vs, us = v :: vs ∧ Dp K H v d ∧ DpAll K H vs ds := by
  cases h with
  | cons h1 h2 => exact ⟨_, _, rfl, h1, h2⟩
theorem Dp.str_of {K : PySem.W.Frag} {H : Hp} {v : V} {x : Str} (h : Dp K H v (.str x)) : v = .str x := by cases h; rfl
theorem Dp.int_of {K : PySem.W.Frag} {H : Hp} {v : V} {x : Int} (h : Dp K H v (.int x)) : v = .int x := by cases h; rfl
theorem Dp.node_of {K : PySem.W.Frag} {H : Hp} {v : V} {x : Str} {ds : List PyData} (h : Dp K H v (.tuple (.str x :: ds))) : ∃ a us, v = .ref a ∧ SqT K H a (.str x :: us) ∧ DpAll K H us ds := by
  obtain ⟨a, us, rfl, hs, ha⟩ := Dp.tup_of h
  obtain ⟨w, vs, rfl, h1, h2⟩ := DpAll.cons_of ha
  rw [Dp.str_of h1] at hs
  exact ⟨a, vs, rfl, hs, h2⟩
/-! ### one tree behind another -/
def parseK (n : Nat) : Nat → List Str → Option (List Tr × List Str)
  | 0, ws => some ([], ws)
  | k + 1, ws => (parseK n k ws).bind fun p => (parse n p.2).map fun q => (p.1 ++ [q.1], q.2)
def signMany (x : Str) : Nat := if x ∈ twoL then 2 else if x ∈ oneL then 1 else 0
theorem one_two : ∀ w ∈ oneL, w ∉ twoL := by decide +kernel
theorem parseK_len {n : Nat} : ∀ (k : Nat) {ws : List Str} {ts : List Tr} {r : List Str}, parseK n k ws = some (ts, r) → ts.length = k ∧ r.length ≤ ws.length ∧ ∀ w ∈ r, w ∈ ws
  | 0, ws, ts, r, h => by
    cases h
    exact ⟨rfl, Nat.le_refl _, fun w h => h⟩
  | k + 1, ws, ts, r, h => by
    unfold parseK at h
    cases q : parseK n k ws with
    | none => rw [q] at h; cases h
    | some p =>
      rw [q] at h
      obtain ⟨a, b⟩ := p
      have ih := parseK_len k q
      cases q2 : parse n b with
      | none => simp [q2] at h
      | some p2 =>
        obtain ⟨c, d⟩ := p2
        simp [q2] at h
        obtain ⟨rfl, rfl⟩ := h
        have h1 := parse_len q2
        have h2 := (parse_spec _ _ _ _ q2).2
        exact ⟨by rw [List.length_append, ih.1]; rfl, by omega, fun w hw => ih.2.2 w (by rw [h2]; exact List.mem_append_right _ hw)⟩
theorem parse_op {n : Nat} {x : Str} {r : List Str} (nf : isFig 6 x = false) (nn : isNm x = false) : (signMany x = 0 → parse (n + 1) (x :: r) = none) ∧
    (signMany x ≠ 0 → (∀ ts r1, parseK n (signMany x) r = some (ts, r1) → ∃ t, parse (n + 1) (x :: r) = some (t, r1) ∧ dTr t = .tuple (.str x :: ts.map dTr)) ∧ (∀ k, k ≤ signMany x → parseK n k r = none → parse (n + 1) (x :: r) = none)) := by
  have e : parse (n + 1) (x :: r) = if x ∈ oneL then (parse n r).map (fun p => (.one x p.1, p.2)) else if x ∈ twoL then (parse n r).bind fun p => (parse n p.2).map fun q => (.two x p.1 q.1, q.2) else none := by
    conv => lhs; unfold parse
    rw [if_neg (by rw [nf]; decide), if_neg (by rw [nn]; decide)]
    split
    · cases parse n r <;> rfl
    · split
      · cases q : parse n r with
        | none => rfl
        | some p =>
          dsimp only
          cases q2 : parse n p.2 <;> simp [q2]
      · rfl
  rw [e]
  unfold signMany
  by_cases h1 : x ∈ oneL
  · rw [if_neg (one_two x h1), if_pos h1, if_pos h1]
    refine ⟨fun z => (nomatch z), fun _ => ⟨fun ts r1 h => ?_, fun k hk h => ?_⟩⟩
    · cases q : parse n r with
      | none => simp [parseK, q] at h
      | some p =>
        simp [parseK, q] at h
        obtain ⟨rfl, rfl⟩ := h
        exact ⟨_, rfl, rfl⟩
    · cases q : parse n r with
      | none => rfl
      | some p =>
        have : k = 0 ∨ k = 1 := by omega
        rcases this with rfl | rfl <;> simp [parseK, q] at h
  · rw [if_neg h1, if_neg h1]
    by_cases h2 : x ∈ twoL
    · rw [if_pos h2, if_pos h2]
      refine ⟨fun z => (nomatch z), fun _ => ⟨fun ts r1 h => ?_, fun k hk h => ?_⟩⟩
      · cases q : parse n r with
        | none => simp [parseK, q] at h
        | some p =>
          cases q2 : parse n p.2 with
          | none => simp [parseK, q, q2] at h
          | some p2 =>
            simp [parseK, q, q2] at h
            obtain ⟨rfl, rfl⟩ := h
            exact ⟨.two x p.1 p2.1, by simp [q2], rfl⟩
      · cases q : parse n r with
        | none => rfl
        | some p =>
          cases q2 : parse n p.2 with
          | none => simp [q2]
          | some p2 =>
            have : k = 0 ∨ k = 1 ∨ k = 2 := by omega
            rcases this with rfl | rfl | rfl <;> simp [parseK, q, q2] at h
    · rw [if_neg h2, if_neg h2]
      exact ⟨fun _ => rfl, fun z => absurd rfl z⟩
/-! ### promises -/
abbrev spLread (K : PySem.W.Frag) : Sp := sp1 fun v H Q E => ∃ (ws : List Str) (m : Nat), v = .str (Txt.join blankS ws) ∧ TxOk m ws ∧ m ≤ 1000 ∧
  (∀ t, readW ws = some t → ∀ H' v, Same H H' → Dp K H' v (dTr t) → Q v H') ∧ (readW ws = none → ∀ H', Same H H' → Q .non H')
abbrev spName : Sp := sp1 fun v H Q _ => ∃ x : Str, v = .str x ∧ x.length ≤ 1000 ∧ ∀ H', Same H H' → Q (.bl (isNm x)) H'
abbrev spNum : Sp := sp2 fun v k H Q _ => ∃ (x : Str) (m : Int), v = .str x ∧ k = .int m ∧ x.length ≤ 1000 ∧ ∀ H', Same H H' → Q (.bl (isFig m x)) H'
abbrev spWordsOf (K : PySem.W.Frag) : Sp := sp1 fun v H Q _ => ∃ (ws : List Str) (m : Nat), v = .str (Txt.join blankS ws) ∧ TxOk m ws ∧ m ≤ 1000 ∧ (Str.ofString "" ∈ ws → ∀ H', Same H H' → Q .non H') ∧
  (Str.ofString "" ∉ ws → ∀ H' l, Same H H' → H l = none → H' l = some (.lst (ws.map V.str)) → Q (.ref l) H')
/-- a tree and the words behind it -/
structure TkR (K : PySem.W.Frag) (H : Hp) (T : Addr) (t : Tr) (r : List Str) (v : V) (l : Addr) : Prop where
  pr : SqT K H T [v, .ref l]
  tr : Dp K H v (dTr t)
  rs : H l = some (.lst (r.map V.str))
abbrev spTaken (K : PySem.W.Frag) (c : Addr) (n : Nat) : Sp := sp1 fun v H Q E => ∃ (b : Addr) (ws : List Str), v = .ref b ∧ SqL K H b (ws.map V.str) ∧ ws.length < n ∧ n ≤ 1000 ∧ (∀ w ∈ ws, w.length ≤ 100) ∧
  (∀ t r, parse n ws = some (t, r) → ∀ H' T v l, Same H H' → H l = none → TkR K H' T t r v l → Q (.ref T) H') ∧ (parse n ws = none → ∀ H', Same H H' → E (.ref c) none H')
abbrev spFirst (K : PySem.W.Frag) (n : Nat) : Sp := sp1 fun v H Q E => ∃ (b : Addr) (ws : List Str), v = .ref b ∧ SqL K H b (ws.map V.str) ∧ ws.length < n ∧ n ≤ 1000 ∧ (∀ w ∈ ws, w.length ≤ 100 ∧ PyData.strOk w = true) ∧
  (∀ t r, parse n ws = some (t, r) → ∀ H' T v l, Same H H' → H l = none → TkR K H' T t r v l → Q (.ref T) H') ∧ (parse n ws = none → ∀ H', Same H H' → Q .non H')
/-- the first tree of at most twenty words, and the words behind -/
def parseN (ws : List Str) : Option (Tr × List Str) := match parse 21 (ws.take 20) with
  | none => none
  | some (t, r) => some (t, r ++ ws.drop 20)
abbrev spNext (K : PySem.W.Frag) (c : Addr) : Sp := sp1 fun v H Q E => ∃ (b : Addr) (ws : List Str), v = .ref b ∧ H b = some (.lst (ws.map V.str)) ∧ ws.length ≤ 1000 ∧ (∀ w ∈ ws, w.length ≤ 100) ∧
  (∀ t r, parseN ws = some (t, r) → ∀ H' T v l, Same H H' → H l = none → TkR K H' T t r v l → Q (.ref T) H') ∧ (parseN ws = none → ∀ H', Same H H' → E (.ref c) none H')
def parseAll : Nat → List Str → Option (List Tr × List Str)
  | 0, ws => some ([], ws)
  | n + 1, ws => match parseN ws with
    | none => none
    | some (t, r) => match parseAll n r with
      | none => none
      | some (ts, r2) => some (t :: ts, r2)
/-- so many trees and no more -/
def readAll (n : Nat) (ws : List Str) : Option (List Tr) := match parseAll n ws with
  | some (ts, []) => some ts
  | _ => none
abbrev spAllR (K : PySem.W.Frag) (c : Addr) : Sp := sp2 fun v m H Q E => ∃ (b : Addr) (ws : List Str) (n : Nat), v = .ref b ∧ m = .int (n : Nat) ∧ n ≤ 1000 ∧ H b = some (.lst (ws.map V.str)) ∧ ws.length ≤ 1000 ∧ (∀ w ∈ ws, w.length ≤ 100) ∧
  (∀ ts, readAll n ws = some ts → ∀ H' l vs, Same H H' → H l = none → H' l = some (.lst vs) → DpAll K (hid [l] H') vs (ts.map dTr) → Q (.ref l) H') ∧ (readAll n ws = none → ∀ H', Same H H' → E (.ref c) none H')
abbrev spRead (K : PySem.W.Frag) (c : Addr) : Sp := sp1 fun v H Q E => ∃ (ws : List Str) (m : Nat), v = .str (Txt.join blankS ws) ∧ TxOk m ws ∧ m ≤ 1000 ∧
  (∀ t, readW ws = some t → ∀ H' v, Same H H' → Dp K H' v (dTr t) → Q v H') ∧ (readW ws = none → ∀ H', Same H H' → E (.ref c) none H')
abbrev spText (K : PySem.W.Frag) (n : Nat) : Sp := sp1 fun v H Q _ => ∃ t : Tr, Dp K H v (dTr t) ∧ dep t < n ∧ TrOk t ∧ (tw t).length ≤ 100000 ∧ ∀ H', Same H H' → Q (.str (Txt.join blankS (tw t))) H'
theorem parseN_len {ws : List Str} {t : Tr} {r : List Str} (h : parseN ws = some (t, r)) : r.length ≤ ws.length ∧ ∀ w ∈ r, w ∈ ws := by
  unfold parseN at h
  cases q : parse 21 (ws.take 20) with
  | none => rw [q] at h; cases h
  | some p =>
    obtain ⟨a, r1⟩ := p
    rw [q] at h
    cases h
    obtain ⟨_, k⟩ := parse_spec _ _ _ _ q
    have e : ws = tw t ++ (r1 ++ ws.drop 20) := by
      rw [← List.append_assoc, ← k, List.take_append_drop]
    refine ⟨?_, fun w hw => ?_⟩
    · have := congrArg List.length e
      rw [List.length_append (as := tw t)] at this
      omega
    · rw [e]
      exact List.mem_append_right _ hw
theorem readAll_one (ws : List Str) : readAll 1 ws = (readW ws).map fun t => [t] := by
  unfold readAll parseAll parseN readW
  cases q : parse 21 (ws.take 20) with
  | none => rfl
  | some p =>
    obtain ⟨t, r⟩ := p
    dsimp only
    unfold parseAll
    dsimp only
    cases r with
    | nil =>
      by_cases h : ws.length ≤ 20
      · rw [List.drop_eq_nil_of_le h, if_pos ⟨rfl, h⟩]
        rfl
      · rw [if_neg fun z => h z.2]
        cases q2 : ws.drop 20 with
        | nil =>
          have := List.drop_eq_nil_iff.mp q2
          exact absurd this h
        | cons _ _ => rfl
    | cons x r =>
      rw [if_neg fun z => nomatch z.1]
      rfl
/-! ### the law's own trees -/
abbrev pTree (K : PySem.W.Frag) (n : Nat) : V → V → V → Hp → VK → XK → Prop := fun d nv kv H Q _ => ∃ (p a b : Addr) (nms : List Str) (k : Nat), d = .ref p ∧ nv = .ref b ∧ kv = .int (k : Nat) ∧ k < n ∧ n ≤ 100 ∧ b ≠ p ∧ SqL K H b (nms.map V.str) ∧ nms ≠ [] ∧ nms.length ≤ 1000 ∧ (∀ x ∈ nms, isNm x = true) ∧ Draw H p a ∧
  ∀ H' v t, Keep p H H' → Draw H' p a → Dp K (hid [p] H') v (dTr t) → TrOk t → dep t ≤ k → (tw t).length + 1 ≤ 2 ^ (k + 1) → Q v H'
abbrev spTree (K : PySem.W.Frag) (n : Nat) : Sp := sp3 (pTree K n)
def treeNums : List Int := [0, 1, 2, 3, 5, 15, 16, 999999]
theorem treeNums_ok : ∀ z ∈ treeNums, ∃ n : Nat, z = n ∧ n < 1000000 := fun z hz => by
  simp only [treeNums, List.mem_cons, List.not_mem_nil, or_false] at hz
  exact ⟨z.toNat, by omega, by omega⟩
def treeSigns : List Str := ["+", "-", "*", "+", "-", "div", "mod", "<", "=", "and", "or"]
theorem treeSigns_ok : ∀ w ∈ treeSigns, w ∈ twoL := by decide +kernel
def dBad : PyData := .list [.str "bad", .bool true, .bool true]
abbrev spTold (K : PySem.W.Frag) : Sp := sp1 fun v H Q E => ∃ (ws : List Str) (m : Nat), v = .str (Txt.join blankS ws) ∧ TxOk m ws ∧ m ≤ 1000 ∧
  (∀ t, readW ws = some t → ∀ H' v, Same H H' → Dp K H' v (dTr t) → Q v H') ∧ (readW ws = none → ∀ H' l, Same H H' → SqL K H' l [.str "bad", .bl true, .bl true] → Q (.ref l) H')
abbrev spLaw (K : PySem.W.Frag) : Sp := sp1 fun v H Q _ => ∃ (a : Addr) (ns : List Int), v = .ref a ∧ SqL K H a (ns.map V.int) ∧ ns.length ≤ 63 ∧ ∀ H', Q (.bl true) H'
theorem eraseIdx_map' : ∀ (l : List Str) (i : Nat), (l.eraseIdx i).map V.str = (l.map V.str).eraseIdx i
  | [], _ => rfl
  | _ :: _, 0 => rfl
  | x :: l, i + 1 => by
    rw [List.eraseIdx_cons_succ, List.map_cons, eraseIdx_map' l i, List.map_cons, List.eraseIdx_cons_succ]
def k02names : List Str := ["x", "y", "main", "abcdefgh"]
theorem dTr_ref {K : PySem.W.Frag} {H : Hp} {v : V} {t : Tr} (h : Dp K H v (dTr t)) : ∃ a us, v = .ref a ∧ SqT K H a us := by
  cases t <;> (obtain ⟨a, us, e, hs, _⟩ := Dp.tup_of h; exact ⟨a, us, e, hs⟩)
/-! ### bent words -/
abbrev spBentWords : Sp := sp2 fun d tv H Q _ => ∃ (p a : Addr) (ws : List Str) (m : Nat), d = .ref p ∧ tv = .str (Txt.join blankS ws) ∧ TxOk m ws ∧ m ≤ 400 ∧ Draw H p a ∧
  ∀ H' us, Keep p H H' → Draw H' p a → TxOk (2 * m + 1) us → Q (.str (Txt.join blankS us)) H'
def oddL : List Str := ["+", "not", "at", "x", "7", "", "07", "1000000", "div", "end", "main", "X", "abcdefghi", "-1", "=", "a1", "\n"]
theorem oddL_ok : ∀ w ∈ oddL, 32 ∉ tl w ∧ w.length ≤ 10 ∧ PyData.strOk w = true := by decide +kernel
/-- an emptied list of words joins as one empty word -/
theorem TxOk.bent {m : Nat} {us : List Str} (hl : us.length ≤ m) (hm : 1 ≤ m) (hw : ∀ w ∈ us, 32 ∉ tl w ∧ w.length ≤ 10 ∧ PyData.strOk w = true) : ∃ us', TxOk m us' ∧ Txt.join blankS us' = Txt.join blankS us := by
  cases us with
  | nil => exact ⟨[Str.ofString ""], ⟨by simp, hm, fun w h => by rw [List.mem_singleton.mp h]; decide +kernel⟩, by decide +kernel⟩
  | cons x r => exact ⟨x :: r, ⟨by simp, hl, hw⟩, rfl⟩
end L2.U
namespace L2.U
open PySem PySem.Spec PyProof.Rows RZ TL
def topS (i : Nat) : Stmt := PySem.Challenge.pw_hindstep_k02_reckonings_read.main.body.getD i (.Pass ⟨0, 0, 0, 0⟩)
abbrev s_is_name : Stmt := topS 8
theorem sc_is_name : FnScope ["text", "sign"] ["text"] (defScope s_is_name) := ⟨rfl, rfl, rfl, by decide +kernel, rfl, by decide +kernel, by decide +kernel⟩
abbrev s_is_number : Stmt := topS 9
theorem sc_is_number : FnScope ["text", "most", "sign"] ["text", "most"] (defScope s_is_number) := ⟨rfl, rfl, rfl, by decide +kernel, rfl, by decide +kernel, by decide +kernel⟩
abbrev s_words_of : Stmt := topS 10
theorem sc_words_of : FnScope ["row", "words"] ["row"] (defScope s_words_of) := ⟨rfl, rfl, rfl, by decide +kernel, rfl, by decide +kernel, by decide +kernel⟩
abbrev s_taken_off : Stmt := topS 14
theorem sc_taken_off : FnScope ["words", "word", "rest", "thing", "other"] ["words"] (defScope s_taken_off) := ⟨rfl, rfl, rfl, by decide +kernel, rfl, by decide +kernel, by decide +kernel⟩
abbrev s_next_reckoning : Stmt := topS 15
theorem sc_next_reckoning : FnScope ["words", "tree", "rest"] ["words"] (defScope s_next_reckoning) := ⟨rfl, rfl, rfl, by decide +kernel, rfl, by decide +kernel, by decide +kernel⟩
abbrev s_all_reckonings : Stmt := topS 16
theorem sc_all_reckonings : FnScope ["words", "many", "found", "step", "tree"] ["words", "many"] (defScope s_all_reckonings) := ⟨rfl, rfl, rfl, by decide +kernel, rfl, by decide +kernel, by decide +kernel⟩
abbrev s_read_reckoning : Stmt := topS 17
theorem sc_read_reckoning : FnScope ["text", "words"] ["text"] (defScope s_read_reckoning) := ⟨rfl, rfl, rfl, by decide +kernel, rfl, by decide +kernel, by decide +kernel⟩
abbrev s_reckoning_text : Stmt := topS 18
theorem sc_reckoning_text : FnScope ["tree", "part"] ["tree"] (defScope s_reckoning_text) := ⟨rfl, rfl, rfl, by decide +kernel, rfl, by decide +kernel, by decide +kernel⟩
abbrev s_law_begin : Stmt := topS 20
theorem sc_law_begin : FnScope ["_law_script"] ["_law_script"] (defScope s_law_begin) := ⟨rfl, rfl, rfl, by decide +kernel, rfl, by decide +kernel, by decide +kernel⟩
abbrev s_law_take : Stmt := topS 21
theorem sc_law_take : FnScope ["_law_draw", "_law_sides", "_law_cell", "_law_got"] ["_law_draw", "_law_sides"] (defScope s_law_take) := ⟨rfl, rfl, rfl, by decide +kernel, rfl, by decide +kernel, by decide +kernel⟩
abbrev s_law_same : Stmt := topS 22
theorem sc_law_same : FnScope ["_law_found", "_law_due", "_law_one_here", "_law_other"] ["_law_found", "_law_due"] (defScope s_law_same) := ⟨rfl, rfl, rfl, by decide +kernel, rfl, by decide +kernel, by decide +kernel⟩
abbrev s_law_one : Stmt := topS 23
theorem sc_law_one : FnScope ["_law_draw", "_law_row"] ["_law_draw", "_law_row"] (defScope s_law_one) := ⟨rfl, rfl, rfl, by decide +kernel, rfl, by decide +kernel, by decide +kernel⟩
abbrev s_law_tree : Stmt := topS 24
theorem sc_law_tree : FnScope ["_law_draw", "_law_names", "_law_deep", "_law_choice", "_law_sign"] ["_law_draw", "_law_names", "_law_deep"] (defScope s_law_tree) := ⟨rfl, rfl, rfl, by decide +kernel, rfl, by decide +kernel, by decide +kernel⟩
abbrev s_law_text : Stmt := topS 25
theorem sc_law_text : FnScope ["_law_tree_here", "_law_part"] ["_law_tree_here"] (defScope s_law_text) := ⟨rfl, rfl, rfl, by decide +kernel, rfl, by decide +kernel, by decide +kernel⟩
abbrev s_law_is_name : Stmt := topS 26
theorem sc_law_is_name : FnScope ["_law_word", "_law_taken", "_law_sign"] ["_law_word"] (defScope s_law_is_name) := ⟨rfl, rfl, rfl, by decide +kernel, rfl, by decide +kernel, by decide +kernel⟩
abbrev s_law_is_figures : Stmt := topS 27
theorem sc_law_is_figures : FnScope ["_law_word", "_law_upto", "_law_sign"] ["_law_word", "_law_upto"] (defScope s_law_is_figures) := ⟨rfl, rfl, rfl, by decide +kernel, rfl, by decide +kernel, by decide +kernel⟩
abbrev s_law_first : Stmt := topS 28
theorem sc_law_first : FnScope ["_law_words", "_law_word", "_law_many", "_law_parts", "_law_rest", "_law_k", "_law_told_here"] ["_law_words"] (defScope s_law_first) := ⟨rfl, rfl, rfl, by decide +kernel, rfl, by decide +kernel, by decide +kernel⟩
abbrev s_law_read : Stmt := topS 29
theorem sc_law_read : FnScope ["_law_text_here", "_law_words", "_law_told_here"] ["_law_text_here"] (defScope s_law_read) := ⟨rfl, rfl, rfl, by decide +kernel, rfl, by decide +kernel, by decide +kernel⟩
abbrev s_law_bent_words : Stmt := topS 30
theorem sc_law_bent_words : FnScope ["_law_draw", "_law_text_here", "_law_words", "_law_odd", "_law_at", "_law_choice"] ["_law_draw", "_law_text_here"] (defScope s_law_bent_words) := ⟨rfl, rfl, rfl, by decide +kernel, rfl, by decide +kernel, by decide +kernel⟩
abbrev s_law_told : Stmt := topS 31
theorem sc_law_told : FnScope ["_law_text_here", "e"] ["_law_text_here"] (defScope s_law_told) := ⟨rfl, rfl, rfl, by decide +kernel, rfl, by decide +kernel, by decide +kernel⟩
abbrev s_law : Stmt := topS 32
theorem sc_law : FnScope ["_law_script", "_law_draw", "_law_k", "_law_text_here", "_law_step", "_law_due", "_law_found"] ["_law_script"] (defScope s_law) := ⟨rfl, rfl, rfl, by decide +kernel, rfl, by decide +kernel, by decide +kernel⟩
structure Blt (mg : Str → Option Value) : Prop where
  ValueError : mg "ValueError" = none
  abs : mg "abs" = none
  all : mg "all" = none
  bool : mg "bool" = none
  int : mg "int" = none
  isinstance : mg "isinstance" = none
  len : mg "len" = none
  list : mg "list" = none
  range : mg "range" = none
  str : mg "str" = none
  tuple : mg "tuple" = none
  zip : mg "zip" = none
section
variable {P : Program} {w : World} {K : PySem.W.Frag} {mg : Str → Option Value} {base : Heap}
local macro_rules | `(tactic| walk_at "rd1") => `(tactic| first
  | with_reducible refine s_var (by with_unfolding_all exact rfl) ?_
  | with_reducible refine s_c ?_ | with_reducible refine s_op ?_ | with_reducible refine s_cons ?_ | with_reducible refine s_nil ?_
  | with_reducible refine s_nx ?_ | with_reducible refine s_rt ?_ | with_reducible refine s_seq ?_ | with_reducible refine s_test ?_ | with_reducible refine s_bl ?_
  | with_reducible refine s_add ?_ | with_reducible refine s_sub ?_ | with_reducible refine s_lt ?_ | with_reducible refine s_le ?_ | with_reducible refine s_ge ?_ | with_reducible refine s_gt ?_
  | with_reducible refine s_and ?_ | with_reducible refine s_or ?_ | with_reducible refine s_not ?_ | with_reducible refine s_cb ?_ | with_reducible refine s_ret ?_ | with_reducible refine s_ifS ?_ | with_reducible refine s_if ?_
  | with_reducible refine s_asg ?_ | with_reducible refine s_gName ?_ | with_reducible refine s_gSub ?_ | with_reducible refine s_drop ?_ | with_reducible refine s_next ?_
  | with_reducible refine s_abs ?_ | with_reducible refine s_call ?_ | with_reducible refine s_callD ?_ | with_reducible refine s_sp2d ?_ | with_reducible refine s_sp3d ?_ | with_reducible refine s_strS ?_ | with_reducible refine s_intI ?_ | with_reducible refine s_intB ?_ | with_reducible refine s_sp1 ?_ | with_reducible refine s_sp2 ?_ | with_reducible refine s_sp3 ?_
  | with_reducible refine s_tup ?_ | with_reducible refine s_lst ?_ | with_reducible refine s_sl ?_ | with_reducible refine s_noPart ?_ | with_reducible refine s_part ?_ | with_reducible refine s_partI ?_
  | with_reducible refine s_tr ?_ | with_reducible refine s_truB ?_ | with_reducible refine s_lc ?_ | with_reducible refine s_iStr ?_ | with_reducible refine s_str ?_ | with_reducible refine s_iRng1 ?_ | with_reducible refine s_iList ?_ | with_reducible refine s_iTup ?_ | with_reducible refine s_iZipA ?_
  | with_reducible refine s_for ?_ | with_reducible refine s_sp4 ?_ | with_reducible refine s_sq4 ?_ | with_reducible refine s_try ?_ | with_reducible refine s_lstRg ?_ | with_reducible refine s_prg1 ?_ | with_reducible refine s_enum ?_ | with_reducible refine s_bm ?_ | with_reducible refine s_bm0 ?_ | with_reducible refine s_callS ?_ | with_reducible refine s_sq1 ?_ | with_reducible refine s_sq2 ?_ | with_reducible refine s_sq3 ?_ | with_reducible refine s_ipI ?_ | with_reducible refine s_aug (by with_unfolding_all exact rfl) ?_ | with_reducible refine s_yes ?_ | with_reducible refine s_m1 ?_ | with_reducible refine s_m0 ?_ | with_reducible refine s_isStr ?_ | with_reducible refine s_isN ?_ | with_reducible refine s_notN ?_ | with_reducible refine s_chain ?_ | with_reducible refine s_andV ?_ | with_reducible refine s_orV ?_ | with_reducible refine s_notV ?_ | with_reducible refine s_un ?_ | with_reducible refine s_neg ?_)
local macro_rules | `(tactic| walk_at "rd") => `(tactic| repeat walk_at "rd1")
theorem ok_is_name {a_TAKEN : Addr} {t_LETTERS : Tok} (D : DefAt K mg "is_name" s_is_name ["text"]) (B : Blt mg) (C_LETTERS : mg "LETTERS" = some (.str (Str.ofString "abcdefghijklmnopqrstuvwxyz") t_LETTERS)) (C_TAKEN : mg "TAKEN" = some (.ref a_TAKEN)) (S_TAKEN : ∀ H, SqT K H a_TAKEN (takenL.map V.str)) : OkF P w K mg base CX0 1 "is_name" ["text"] spName := by
  refine D.ok sc_is_name len1 (fun f cdv A outer s H vs Q E hr h => ?_)
  obtain ⟨_, rfl, x, rfl, hx, q⟩ := h
  refine ⟨_, (pss_one (ps_ret (pe_and (pe_chain o_le o_le pe_int (pe_callB (u_len (K := K)) (by rfl) B.len (by decide +kernel) (pa_cons (pv 0) pa_nil)) pe_int) (pe_and (pe_callB (u_all (K := K) rfl) (by rfl) B.all (by decide +kernel) (pa_cons (pe_lc (own := [("sign", 1)]) (g := (gName 1)) (tt := tYes) rfl sc_is_name.nd (pi_str (pv 0)) (blkOk_by (N := ["text", "sign"]) (sc := defScope s_is_name) (own := [("sign", 1)]) (by decide +kernel)) (fun _ _ _ _ _ => (pg_name (i := 1) sc_is_name.nd rfl (by first | exact .inl rfl | exact .inr rfl))) (fun _ _ _ _ _ => pts_nil) (fun _ _ _ _ _ => (pe_cmpR (o_in (K := K)) (pv 1) (pe_glob (v := .str (Str.ofString "abcdefghijklmnopqrstuvwxyz")) (by rfl) C_LETTERS ⟨_, rfl⟩) (by with_unfolding_all rfl)))) pa_nil)) (pe_one (pe_cmpR (o_notIn (K := K)) (pv 0) (pe_glob (v := .ref a_TAKEN) (by rfl) C_TAKEN rfl) (by with_unfolding_all rfl))))))), ?_⟩
  refine s_start (σ' := [some (.str x), none]) rfl ?_
  unfold isNm at q
  walk_at "rd"
  refine s_lenS (len_sz hx) ?_
  walk_at "rd"
  refine brB (fun b1 => ?_) (fun b1 => ?_)
  · walk_at "rd"
    rw [b1] at q
    refine brB (fun b2 => ?_) (fun b2 => ?_)
    · rw [b2] at q
      walk_at "rd"
      refine lcB_str (fun c => .bl (decide (c ∈ lettersS.cps.toList))) (by omega) (fun _ => rfl) (fun c H R z => ?_) (fun D hD => ?_)
      · walk_at "rd"
        refine s_inS ?_
        exact z
      · walk_at "rd"
        refine ⟨D, x.cps.toList.map fun c => decide (c ∈ lettersS.cps.toList), rfl, SqL.of (upd_same.trans (by rw [List.map_map]; rfl)), ?_⟩
        walk_at "rd"
        refine brB (fun b3 => ?_) (fun b3 => ?_)
        · walk_at "rd"
          refine s_notInL (.inr (S_TAKEN _)) rfl (flat_strs _) ?_
          rw [b3] at q
          exact q _ (same_upd hD)
        · rw [b3] at q
          exact q _ (same_upd hD)
    · rw [b2] at q
      exact q _ (Same.refl _)
  · rw [b1] at q
    walk_at "rd"
    exact iteF (q _ (Same.refl _))
theorem ok_is_number {dvs : List V} {t_FIGURES : Tok} (D : DefD K mg "is_number" s_is_number ["text", "most"] dvs) (B : Blt mg) (C_FIGURES : mg "FIGURES" = some (.str (Str.ofString "0123456789") t_FIGURES)) : OkFd P w K mg base CX0 1 "is_number" ["text", "most"] dvs spNum := by
  refine D.ok sc_is_number len2 (fun f cdv A outer s H vs Q E hr h => ?_)
  obtain ⟨_, _, rfl, x, m, rfl, rfl, hx, q⟩ := h
  refine ⟨_, (pss_cons (ps_if (PW.pt (pw_or (pt_not (pt_chain o_le o_le pe_int (pe_callB (u_len (K := K)) (by rfl) B.len (by decide +kernel) (pa_cons (pv 0) pa_nil)) (pv 1))) (pw_or1 (pt_not (u_truth (K := K) (pe_callB (u_all (K := K) rfl) (by rfl) B.all (by decide +kernel) (pa_cons (pe_lc (own := [("sign", 2)]) (g := (gName 2)) (tt := tYes) rfl sc_is_number.nd (pi_str (pv 0)) (blkOk_by (N := ["text", "most", "sign"]) (sc := defScope s_is_number) (own := [("sign", 2)]) (by decide +kernel)) (fun _ _ _ _ _ => (pg_name (i := 2) sc_is_number.nd rfl (by first | exact .inl rfl | exact .inr rfl))) (fun _ _ _ _ _ => pts_nil) (fun _ _ _ _ _ => (pe_cmpR (o_in (K := K)) (pv 2) (pe_glob (v := .str (Str.ofString "0123456789")) (by rfl) C_FIGURES ⟨_, rfl⟩) (by with_unfolding_all rfl)))) pa_nil))))))) (pss_one (ps_ret pe_bl)) pss_nil)
    (pss_one (ps_ret (pe_or (pe_cmpR (o_eq (K := K) hr.units) (pv 0) pe_str (nomark _)) (pe_one (pe_cmpR (o_ne (K := K) hr.units) (pe_ix (u_ix (K := K)) (pv 0) pe_int (fun _ _ => rfl)) pe_str (nomark _))))))), ?_⟩
  refine s_start (σ' := [some (.str x), some (.int m), none]) rfl ?_
  unfold isFig at q
  walk_at "rd"
  refine s_lenS (len_sz hx) ?_
  walk_at "rd"
  refine brB (fun b1 => ?_) (fun b1 => ?_)
  · rw [b1, Bool.true_and] at q
    have x0 : 1 ≤ x.length := by
      have := of_decide_eq_true b1
      omega
    walk_at "rd"
    refine brB (fun b2 => ?_) (fun b2 => ?_)
    · rw [Bool.not_eq_true' _] at b2
      rw [b2, Bool.false_and] at q
      walk_at "rd"
      exact iteT (q _ (Same.refl _))
    have b2 : decide (((x.length : Nat) : Int) ≤ m) = true := by
      cases h : decide (((x.length : Nat) : Int) ≤ m) with
      | true => rfl
      | false => rw [h] at b2; exact absurd b2 (by decide)
    rw [b2, Bool.true_and] at q
    walk_at "rd"
    refine lcB_str (fun c => .bl (decide (c ∈ figuresS.cps.toList))) (by omega) (fun _ => rfl) (fun c H R z => ?_) (fun D hD => ?_)
    · walk_at "rd"
      refine s_inS ?_
      exact z
    · walk_at "rd"
      refine ⟨D, x.cps.toList.map fun c => decide (c ∈ figuresS.cps.toList), rfl, SqL.of (upd_same.trans (by rw [List.map_map]; rfl)), ?_⟩
      walk_at "rd"
      have sD := same_upd (o := .lst (x.cps.toList.map fun c => V.bl (decide (c ∈ figuresS.cps.toList)))) hD
      refine brB (fun b3 => ?_) (fun b3 => ?_)
      · rw [Bool.not_eq_true' _] at b3
        rw [b3, Bool.false_and] at q
        walk_at "rd"
        exact q _ sD
      · have b3 : (x.cps.toList.map fun c => decide (c ∈ figuresS.cps.toList)).all id = true := Bool.not_eq_eq_eq_not.mp b3
        rw [b3, Bool.true_and] at q
        walk_at "rd"
        refine s_eq rfl ?_
        walk_at "rd"
        rw [show decide (V.str x = V.str (Str.ofString "0")) = decide (x = Str.ofString "0") from decide_eq_decide.mpr ⟨fun e => V.str.inj e, fun e => by rw [e]⟩]
        refine brB (fun b4 => ?_) (fun b4 => ?_)
        · rw [b4, Bool.true_or] at q
          exact q _ sD
        · rw [b4, Bool.false_or] at q
          obtain ⟨c, r, hcr⟩ : ∃ c r, x.cps.toList = c :: r := by
            cases h : x.cps.toList with
            | nil =>
              have e : x.length = (TL.tl x).length := TL.len_tl x
              rw [show TL.tl x = [] from h] at e
              rw [e] at x0
              exact absurd x0 (by decide)
            | cons c r => exact ⟨c, r, rfl⟩
          walk_at "rd"
          refine s_ixS (len_sz hx) (c := c) (show atI x.cps.toList 0 = some c by rw [hcr]; exact atI_0 c r) ?_
          refine s_ne rfl ?_
          rw [hcr, List.head?_cons] at q
          have e : decide (V.str ⟨#[c]⟩ = V.str (Str.ofString "0")) = decide (some c = some 48) := decide_eq_decide.mpr ⟨fun e => by
            have := V.str.inj e
            have h2 : TL.tl (⟨#[c]⟩ : Str) = TL.tl (Str.ofString "0") := by rw [this]
            have h3 : [c] = [48] := h2
            rw [List.singleton_inj.mp h3], fun e => by rw [Option.some.inj e]; rfl⟩
          rw [e]
          exact q _ sD
  · rw [b1, Bool.false_and, Bool.false_and] at q
    walk_at "rd"
    refine iteT ?_
    refine iteT ?_
    walk_at "rd"
    exact q _ (Same.refl _)
theorem ok_words_of (D : DefAt K mg "words_of" s_words_of ["row"]) (B : Blt mg) : OkF P w K mg base CX0 1 "words_of" ["row"] (spWordsOf K) := by
  refine D.ok sc_words_of len1 (fun f cdv A outer s H vs Q E hr h => ?_)
  obtain ⟨_, rfl, ws, m, rfl, ht, hm, q1, q2⟩ := h
  refine ⟨_, (pss_cons (ps_set (i := 1) sc_words_of.nd rfl (by first | exact .inl rfl | exact .inr rfl) (pe_split (pv 0) pe_str))
    (pss_one (ps_ret (pe_ifExp (pt_cmpR (o_in (K := K)) pe_str (pv 1) (by with_unfolding_all rfl)) pe_non (pv 1))))), ?_⟩
  refine s_start (σ' := [some (.str (Txt.join blankS ws)), none]) rfl ?_
  walk_at "rd"
  have hl := ht.len
  refine ⟨_, _, rfl, rfl, rfl, by rw [sizeLine_eq]; omega, fun l nl => ?_⟩
  rw [show Txt.split (Txt.join blankS ws) (Str.ofString " ") = ws from split_blank ht.ne fun w hw => (ht.wd w hw).1]
  have s1 := same_upd (o := .lst (ws.map V.str)) nl
  walk_at "rd"
  refine s_inL (.inl (SqL.of upd_same)) rfl (flat_strs _) ?_
  rw [inV_strs]
  walk_at "rd"
  refine br (fun b => ?_) (fun b => ?_)
  · walk_at "rd"
    exact q1 b _ s1
  · walk_at "rd"
    exact q2 b _ l s1 nl upd_same
theorem ok_taken {c_BadReckoning a_ONE a_TWO : Addr} (D : DefAt K mg "taken_off" s_taken_off ["words"]) (B : Blt mg) (C_ONE : mg "ONE" = some (.ref a_ONE)) (S_ONE : ∀ H, SqT K H a_ONE (oneL.map V.str)) (C_TWO : mg "TWO" = some (.ref a_TWO)) (S_TWO : ∀ H, SqT K H a_TWO (twoL.map V.str))
    (X_BadReckoning : ExcAt K mg "BadReckoning" c_BadReckoning) (G_is_number_1 : OkFd P w K mg base CX0 1 "is_number" ["text", "most"] [.int 6] spNum) (G_is_name : OkF P w K mg base CX0 1 "is_name" ["text"] spName) :
    ∀ n, OkF P w K mg base (L2.CX P w) (n + 1) "taken_off" ["words"] (spTaken K c_BadReckoning n) := by
  intro n
  induction n with
  | zero =>
    refine D.okNo fun vs H Q E h => ?_
    obtain ⟨_, _, b, ws, _, _, z, _⟩ := h
    exact absurd z (Nat.not_lt_zero _)
  | succ n G_taken_off =>
  refine D.okX sc_taken_off len1 (fun f cdv A outer s H vs Q E hr h => ?_)
  obtain ⟨_, rfl, b, ws, rfl, hS, hn, hm, hw, qs, qn⟩ := h
  refine ⟨_, (pss_cons (ps_if (pt_cmpR (o_eq (K := K) hr.units) (pe_callB (u_len (K := K)) (by rfl) B.len (by decide +kernel) (pa_cons (pv 0) pa_nil)) pe_int (nomark _)) (pss_one (ps_raise rfl (takes_of rfl rfl rfl rfl) (u_exc X_BadReckoning))) pss_nil)
    (pss_cons (ps_asg (pv 0) (u_star (K := K) (n := 2) (i := 1) rfl (pgs_cons (pg_name (i := 1) sc_taken_off.nd rfl (by first | exact .inl rfl | exact .inr rfl)) (pgs_star (pg_name (i := 2) sc_taken_off.nd rfl (by first | exact .inl rfl | exact .inr rfl)) pgs_nil))))
    (pss_cons (ps_if (u_truth (K := K) (u_callD G_is_number_1 (hr.mono (by omega)) pass0 (pa_cons (pv 1) pa_nil))) (pss_one (ps_ret (pe_tup (pa_cons (pe_tup (pa_cons pe_str (pa_cons (pe_callTy call_intU (by rfl) B.int (by decide +kernel) (pa_cons (pv 1) pa_nil)) pa_nil))) (pa_cons (pv 2) pa_nil))))) pss_nil)
    (pss_cons (ps_if (u_truth (K := K) (u_call G_is_name (hr.mono (by omega)) pass0 (pa_cons (pv 1) pa_nil))) (pss_one (ps_ret (pe_tup (pa_cons (pe_tup (pa_cons pe_str (pa_cons (pv 1) pa_nil))) (pa_cons (pv 2) pa_nil))))) pss_nil)
    (pss_cons (ps_if (pt_cmpR (o_in (K := K)) (pv 1) (pe_glob (v := .ref a_ONE) (by rfl) C_ONE rfl) (by with_unfolding_all rfl)) (pss_cons (ps_asg (u_call G_taken_off (hr.mono (by omega)) (passes_call (takes_of rfl rfl rfl rfl) (fun _ _ _ _ h => h)) (pa_cons (pv 2) pa_nil)) (u_tup (K := K) rfl (pgs_cons (pg_name (i := 3) sc_taken_off.nd rfl (by first | exact .inl rfl | exact .inr rfl)) (pgs_cons (pg_name (i := 2) sc_taken_off.nd rfl (by first | exact .inl rfl | exact .inr rfl)) pgs_nil))))
    (pss_one (ps_ret (pe_tup (pa_cons (pe_tup (pa_cons (pv 1) (pa_cons (pv 3) pa_nil))) (pa_cons (pv 2) pa_nil)))))) pss_nil)
    (pss_cons (ps_if (pt_cmpR (o_notIn (K := K)) (pv 1) (pe_glob (v := .ref a_TWO) (by rfl) C_TWO rfl) (by with_unfolding_all rfl)) (pss_one (ps_raise rfl (takes_of rfl rfl rfl rfl) (u_exc X_BadReckoning))) pss_nil)
    (pss_cons (ps_asg (u_call G_taken_off (hr.mono (by omega)) (passes_call (takes_of rfl rfl rfl rfl) (fun _ _ _ _ h => h)) (pa_cons (pv 2) pa_nil)) (u_tup (K := K) rfl (pgs_cons (pg_name (i := 3) sc_taken_off.nd rfl (by first | exact .inl rfl | exact .inr rfl)) (pgs_cons (pg_name (i := 2) sc_taken_off.nd rfl (by first | exact .inl rfl | exact .inr rfl)) pgs_nil))))
    (pss_cons (ps_asg (u_call G_taken_off (hr.mono (by omega)) (passes_call (takes_of rfl rfl rfl rfl) (fun _ _ _ _ h => h)) (pa_cons (pv 2) pa_nil)) (u_tup (K := K) rfl (pgs_cons (pg_name (i := 4) sc_taken_off.nd rfl (by first | exact .inl rfl | exact .inr rfl)) (pgs_cons (pg_name (i := 2) sc_taken_off.nd rfl (by first | exact .inl rfl | exact .inr rfl)) pgs_nil))))
    (pss_one (ps_ret (pe_tup (pa_cons (pe_tup (pa_cons (pv 1) (pa_cons (pv 3) (pa_cons (pv 4) pa_nil)))) (pa_cons (pv 2) pa_nil))))))))))))), ?_⟩
  refine s_start (σ' := [some (.ref b), none, none, none, none]) rfl ?_
  walk_at "rd"
  refine s_lenL hS ?_
  refine s_eq rfl ?_
  walk_at "rd"
  rw [List.length_map]
  cases ws with
  | nil =>
    refine br (fun _ => ?_) (fun z => absurd rfl z)
    exact qn rfl _ (Same.refl _)
  | cons x r =>
  refine br (fun z => absurd (V.int.inj z) (by simp; omega)) (fun _ => ?_)
  walk_at "rd"
  have hrl : r.length < n := by simpa using hn
  have hx := hw x List.mem_cons_self
  have hwr : ∀ w ∈ r, w.length ≤ 100 := fun w h => hw w (List.mem_cons_of_mem _ h)
  refine s_gStar1 (.inl hS) (by rw [List.length_map]; omega) (fun l nl => ?_)
  refine s_gCons (s_gName (s_gCons (s_gName (s_gNil ?_))))
  have s1 := same_upd (o := .lst (r.map V.str)) nl
  have e1 : upd H l (.lst (r.map V.str)) l = some (.lst (r.map V.str)) := upd_same
  generalize upd H l (.lst (r.map V.str)) = H1 at s1 e1 ⊢
  walk_at "rd"
  refine ⟨x, 6, rfl, rfl, by omega, fun H2 s2 => ?_⟩
  walk_at "rd"
  refine brB (fun c1 => ?_) (fun c1 => ?_)
  · walk_at "rd"
    refine s_intS (isFig_int c1 (by decide)) (by omega) ?_
    walk_at "rd"
    refine ⟨sz rfl, fun T1 n1 => ?_⟩
    walk_at "rd"
    refine ⟨sz rfl, fun T2 n2 => ?_⟩
    have s3 := same_upd (o := .tup [.str "number", .int (numOf x : Nat)]) n1
    have s4 := same_upd (o := .tup [.ref T1, .ref l]) n2
    exact qs (.nu (numOf x)) r (by unfold parse; rw [if_pos c1]) _ T2 (.ref T1) l (s1.trans (s2.trans (s3.trans s4))) nl ⟨SqT.of upd_same, .tup (SqT.of (s4 _ _ upd_same)) (.cons (.str _) (.cons (.int _) .nil)), s4 _ _ (s3 _ _ (s2 _ _ e1))⟩
  walk_at "rd"
  refine ⟨by omega, fun H3 s3 => ?_⟩
  walk_at "rd"
  refine brB (fun c2 => ?_) (fun c2 => ?_)
  · walk_at "rd"
    refine ⟨sz rfl, fun T1 n1 => ?_⟩
    walk_at "rd"
    refine ⟨sz rfl, fun T2 n2 => ?_⟩
    have s4 := same_upd (o := .tup [.str "name", .str x]) n1
    have s5 := same_upd (o := .tup [.ref T1, .ref l]) n2
    exact qs (.nm x) r (by unfold parse; rw [if_neg (by rw [c1]; decide), if_pos c2]) _ T2 (.ref T1) l (s1.trans (s2.trans (s3.trans (s4.trans s5)))) nl ⟨SqT.of upd_same, .tup (SqT.of (s5 _ _ upd_same)) (.cons (.str _) (.cons (.str _) .nil)), s5 _ _ (s4 _ _ (s3 _ _ (s2 _ _ e1)))⟩
  walk_at "rd"
  have s03 := s1.trans (s2.trans s3)
  have e3 := s3 _ _ (s2 _ _ e1)
  refine s_inL (.inr (S_ONE _)) rfl (flat_strs _) ?_
  rw [inV_strs]
  walk_at "rd"
  refine br (fun c3 => ?_) (fun c3 => ?_)
  · walk_at "rd"
    have eP : parse (n + 1) (x :: r) = match parse n r with
        | none => none
        | some (a, r1) => some (.one x a, r1) := by
      conv => lhs; unfold parse
      rw [if_neg (by rw [c1]; decide), if_neg (by rw [c2]; decide), if_pos c3]
      all_goals rfl
    refine ⟨l, r, rfl, SqL.of e3, hrl, by omega, hwr, fun t r1 ep H4 T v l1 s4 nl1 R => ?_, fun ep H4 s4 => ?_⟩
    · refine s_gTup R.pr rfl (s_gCons (s_gName (s_gCons (s_gName (s_gNil ?_)))))
      walk_at "rd"
      refine ⟨sz rfl, fun T1 n1 => ?_⟩
      walk_at "rd"
      refine ⟨sz rfl, fun T2 n2 => ?_⟩
      have s5 := same_upd (o := .tup [.str x, v]) n1
      have s6 := same_upd (o := .tup [.ref T1, .ref l1]) n2
      exact qs (.one x t) r1 (by rw [eP, ep]) _ T2 (.ref T1) l1 (s03.trans (s4.trans (s5.trans s6))) (s03.free nl1) ⟨SqT.of upd_same, .tup (SqT.of (s6 _ _ upd_same)) (.cons (.str _) (.cons (Dp.same (s5.trans s6) _ _ R.tr) .nil)), s6 _ _ (s5 _ _ R.rs)⟩
    · exact qn (by rw [eP, ep]) _ (s03.trans s4)
  walk_at "rd"
  refine s_notInL (.inr (S_TWO _)) rfl (flat_strs _) ?_
  rw [inV_strs]
  walk_at "rd"
  refine brN (fun c4 => ?_) (fun c4 => ?_)
  · refine qn ?_ _ s03
    unfold parse
    rw [if_neg (by rw [c1]; decide), if_neg (by rw [c2]; decide), if_neg c3, if_neg c4]
  walk_at "rd"
  have eP : parse (n + 1) (x :: r) = match parse n r with
      | none => none
      | some (a, r1) => match parse n r1 with
        | none => none
        | some (b, r2) => some (.two x a b, r2) := by
    conv => lhs; unfold parse
    rw [if_neg (by rw [c1]; decide), if_neg (by rw [c2]; decide), if_neg c3, if_pos c4]
    all_goals rfl
  refine ⟨l, r, rfl, SqL.of e3, hrl, by omega, hwr, fun t r1 ep H4 T v l1 s4 nl1 R => ?_, fun ep H4 s4 => ?_⟩
  · refine s_gTup R.pr rfl (s_gCons (s_gName (s_gCons (s_gName (s_gNil ?_)))))
    walk_at "rd"
    have hr1 := parse_len ep
    have hw1 : ∀ w ∈ r1, w.length ≤ 100 := fun w h => hwr w (by rw [(parse_spec _ _ _ _ ep).2]; exact List.mem_append_right _ h)
    refine ⟨l1, r1, rfl, SqL.of R.rs, by omega, by omega, hw1, fun t2 r2 ep2 H5 T' v2 l2 s5 nl2 R2 => ?_, fun ep2 H5 s5 => ?_⟩
    · refine s_gTup R2.pr rfl (s_gCons (s_gName (s_gCons (s_gName (s_gNil ?_)))))
      walk_at "rd"
      refine ⟨sz rfl, fun T1 n1 => ?_⟩
      walk_at "rd"
      refine ⟨sz rfl, fun T2 n2 => ?_⟩
      have s6 := same_upd (o := .tup [.str x, v, v2]) n1
      have s7 := same_upd (o := .tup [.ref T1, .ref l2]) n2
      exact qs (.two x t t2) r2 (by rw [eP, ep]; dsimp only; rw [ep2]) _ T2 (.ref T1) l2 (s03.trans (s4.trans (s5.trans (s6.trans s7)))) ((s03.trans s4).free nl2) ⟨SqT.of upd_same, .tup (SqT.of (s7 _ _ upd_same)) (.cons (.str _) (.cons (Dp.same (s5.trans (s6.trans s7)) _ _ R.tr) (.cons (Dp.same (s6.trans s7) _ _ R2.tr) .nil))), s7 _ _ (s6 _ _ R2.rs)⟩
    · exact qn (by rw [eP, ep]; dsimp only; rw [ep2]) _ (s03.trans (s4.trans s5))
  · exact qn (by rw [eP, ep]) _ (s03.trans s4)
theorem ok_next {c_BadReckoning : Addr} {t_WORDS : Tok} (D : DefAt K mg "next_reckoning" s_next_reckoning ["words"]) (B : Blt mg) (C_WORDS : mg "WORDS" = some (.int 20 t_WORDS)) (G_taken_off : OkF P w K mg base (L2.CX P w) 22 "taken_off" ["words"] (spTaken K c_BadReckoning 21)) :
    OkF P w K mg base (L2.CX P w) 23 "next_reckoning" ["words"] (spNext K c_BadReckoning) := by
  refine D.okX sc_next_reckoning len1 (fun f cdv A outer s H vs Q E hr h => ?_)
  obtain ⟨_, rfl, b, ws, rfl, hS, hm, hw, qs, qn⟩ := h
  refine ⟨_, (pss_cons (ps_asg (u_call G_taken_off (hr.mono (by omega)) (passes_call (takes_of rfl rfl rfl rfl) (fun _ _ _ _ h => h)) (pa_cons (pe_slice (sl_u (K := K)) (pv 0) po_none (po_some (pe_glob (v := .int 20) (by rfl) C_WORDS ⟨_, rfl⟩))) pa_nil)) (u_tup (K := K) rfl (pgs_cons (pg_name (i := 1) sc_next_reckoning.nd rfl (by first | exact .inl rfl | exact .inr rfl)) (pgs_cons (pg_name (i := 2) sc_next_reckoning.nd rfl (by first | exact .inl rfl | exact .inr rfl)) pgs_nil))))
    (pss_one (ps_ret (pe_tup (pa_cons (pv 1) (pa_cons (pe_op (o_add (K := K)) (pv 2) (pe_slice (sl_u (K := K)) (pv 0) (po_some (pe_glob (v := .int 20) (by rfl) C_WORDS ⟨_, rfl⟩)) po_none)) pa_nil)))))), ?_⟩
  refine s_start (σ' := [some (.ref b), none, none]) rfl ?_
  walk_at "rd"
  refine s_slL (SqL.of hS) fun l1 n1 => ?_
  rw [show cutV (ws.map V.str) none (some 20) = (ws.take 20).map V.str from (cutV_take (ws.map V.str) 20).trans (List.map_take ..).symm]
  have s1 := same_upd (o := .lst ((ws.take 20).map V.str)) n1
  have e1 : upd H l1 (.lst ((ws.take 20).map V.str)) l1 = some (.lst ((ws.take 20).map V.str)) := upd_same
  generalize upd H l1 (.lst ((ws.take 20).map V.str)) = H1 at s1 e1 ⊢
  walk_at "rd"
  refine ⟨l1, ws.take 20, rfl, SqL.of e1, by rw [List.length_take]; omega, by decide, fun w h => hw w (List.mem_of_mem_take h), fun t r ep H2 T v l s2 nl R => ?_, fun ep H2 s2 => ?_⟩
  · refine s_gTup R.pr rfl (s_gCons (s_gName (s_gCons (s_gName (s_gNil ?_)))))
    have hrl := parse_len ep
    rw [List.length_take] at hrl
    walk_at "rd"
    refine s_slL (SqL.of (s2 _ _ (s1 _ _ hS))) fun l3 n3 => ?_
    rw [show cutV (ws.map V.str) (some 20) none = (ws.drop 20).map V.str from (cutV_drop (ws.map V.str) 20).trans (List.map_drop ..).symm]
    have s3 := same_upd (o := .lst ((ws.drop 20).map V.str)) n3
    refine s_addL (s3 _ _ R.rs) upd_same (by rw [List.length_map, List.length_map, List.length_drop]; exact sz_of (by omega)) fun l4 n4 => ?_
    rw [← List.map_append]
    have s4 := same_upd (o := .lst ((r ++ ws.drop 20).map V.str)) n4
    walk_at "rd"
    refine ⟨sz rfl, fun T2 n2 => ?_⟩
    have s5 := same_upd (o := .tup [v, .ref l4]) n2
    exact qs t (r ++ ws.drop 20) (by unfold parseN; rw [ep]) _ T2 v l4 (s1.trans (s2.trans (s3.trans (s4.trans s5)))) ((s1.trans (s2.trans s3)).free n4) ⟨SqT.of upd_same, Dp.same (s3.trans (s4.trans s5)) _ _ R.tr, s5 _ _ upd_same⟩
  · exact qn (by unfold parseN; rw [ep]) _ (s1.trans s2)
theorem ok_all {c_BadReckoning : Addr} (D : DefAt K mg "all_reckonings" s_all_reckonings ["words", "many"]) (B : Blt mg) (X_BadReckoning : ExcAt K mg "BadReckoning" c_BadReckoning) (G_next_reckoning : OkF P w K mg base (L2.CX P w) 23 "next_reckoning" ["words"] (spNext K c_BadReckoning)) :
    OkF P w K mg base (L2.CX P w) 24 "all_reckonings" ["words", "many"] (spAllR K c_BadReckoning) := by
  refine D.okX sc_all_reckonings len2 (fun f cdv A outer s H vs Q E hr h => ?_)
  obtain ⟨_, _, rfl, b, ws, n, rfl, rfl, hn, hS, hm, hw, qs, qn⟩ := h
  refine ⟨_, (pss_cons (ps_set (i := 2) sc_all_reckonings.nd rfl (by first | exact .inl rfl | exact .inr rfl) (pe_lst pa_nil))
    (pss_cons (ps_for (passes_of rfl) (by rfl) (pi_range1 (by rfl) B.range (pa_cons (pv 1) pa_nil)) (pg_name (i := 3) sc_all_reckonings.nd rfl (by first | exact .inl rfl | exact .inr rfl)) (pss_cons (ps_asg (u_call G_next_reckoning (hr.mono (by omega)) (passes_call (takes_of rfl rfl rfl rfl) (fun _ _ _ _ h => h)) (pa_cons (pv 0) pa_nil)) (u_tup (K := K) rfl (pgs_cons (pg_name (i := 4) sc_all_reckonings.nd rfl (by first | exact .inl rfl | exact .inr rfl)) (pgs_cons (pg_name (i := 0) sc_all_reckonings.nd rfl (by first | exact .inl rfl | exact .inr rfl)) pgs_nil))))
    (pss_one (ps_expr (u_bm (K := K) PySem.F.plainAttrs_list PySem.F.slot_list_append PySem.F.type_list_append mt_append (pv 2) (pa_cons (pv 4) pa_nil))))))
    (pss_cons (ps_if (pt_cmpR o_gt (pe_callB (u_len (K := K)) (by rfl) B.len (by decide +kernel) (pa_cons (pv 0) pa_nil)) pe_int (nomark _)) (pss_one (ps_raise rfl (takes_of rfl rfl rfl rfl) (u_exc X_BadReckoning))) pss_nil)
    (pss_one (ps_ret (pv 2)))))), ?_⟩
  refine s_start (σ' := [some (.ref b), some (.int (n : Nat)), none, none, none]) rfl ?_
  walk_at "rd"
  refine ⟨sz rfl, fun l nl => ?_⟩
  have s1 := same_upd (o := .lst []) nl
  have lb : b ≠ l := ne_of_none hS nl
  walk_at "rd"
  refine ⟨by omega, by omega, ?_⟩
  refine forB_range (n := n) (fun i σ H' => ∃ (z y : Option V) (b' : Addr) (us : List Str) (vs : List V) (ts : List Tr), σ = [some (.ref b'), some (.int (n : Nat)), some (.ref l), z, y] ∧ Same H (hid [l] H') ∧ H' l = some (.lst vs) ∧ vs.length = i ∧ DpAll K (hid [l] H') vs (ts.map dTr) ∧ b' ≠ l ∧ H' b' = some (.lst (us.map V.str)) ∧ us.length ≤ ws.length ∧ (∀ w ∈ us, w ∈ ws) ∧
      ∀ m, parseAll (i + m) ws = (parseAll m us).map fun p => (ts ++ p.1, p.2)) ?_ ?_ ?_
  · refine ⟨none, none, b, ws, [], [], rfl, by rw [hid_up List.mem_cons_self, hid_new nl, hid_nil]; exact Same.refl _, upd_same, rfl, .nil, lb, s1 _ _ hS, Nat.le_refl _, fun w h => h, fun m => ?_⟩
    rw [Nat.zero_add]
    cases parseAll m ws with
    | none => rfl
    | some p => rfl
  · rintro i σ H2 hi ⟨z, y, b', us, vs, ts, rfl, sm, el, vl, dp, nb, eb, ul, uw, ep⟩
    walk_at "rd"
    refine ⟨b', us, rfl, eb, by omega, fun w h => hw w (uw w h), fun t r e1 H3 T v l3 s3 nl3 R => ?_, fun e1 H3 s3 => ?_⟩
    · refine s_gTup R.pr rfl (s_gCons (s_gName (s_gCons (s_gName (s_gNil ?_)))))
      walk_at "rd"
      refine s_tyL (SqL.of (s3 _ _ el)) ?_
      walk_at "rd"
      refine s_append (s3 _ _ el) (small1000 (by omega)) ?_
      walk_at "rd"
      have n3 : l3 ≠ l := (ne_of_none el nl3).symm
      obtain ⟨k1, k2⟩ := parseN_len e1
      refine ⟨_, _, l3, r, vs ++ [v], ts ++ [t], rfl, ?_, upd_same, by rw [List.length_append, vl]; rfl, ?_, n3, by rw [upd_ne n3]; exact R.rs, by omega, fun w h => uw w (k2 w h), fun m => ?_⟩
      · rw [hid_up List.mem_cons_self]
        exact sm.trans (Same.hid s3)
      · rw [hid_up List.mem_cons_self, List.map_append]
        exact dpApp (Dp.sameAll (Same.hid s3) _ _ dp) (dpOne (Dp.avoid (s3 _ _ el) _ _ (dTr_noL t) R.tr))
      · rw [show i + 1 + m = i + (m + 1) by omega, ep, parseAll, e1]
        dsimp only
        cases parseAll m r with
        | none => rfl
        | some p => simp
    · refine qn ?_ _ (sm.trans ((Same.hid s3).trans hid_same))
      unfold readAll
      have := ep (n - i)
      rw [show i + (n - i) = (n - i - 1) + 1 + i by omega] at this
      rw [show n = (n - i - 1) + 1 + i by omega, this, show n - i = (n - i - 1) + 1 by omega, parseAll, e1]
      rfl
  · rintro σ H2 ⟨z, y, b', us, vs, ts, rfl, sm, el, vl, dp, nb, eb, ul, uw, ep⟩
    walk_at "rd"
    refine s_lenL (SqL.of eb) ?_
    walk_at "rd"
    have e := ep 0
    rw [Nat.add_zero] at e
    rw [List.length_map]
    refine br (fun c => ?_) (fun c => ?_)
    · refine qn ?_ _ (sm.trans hid_same)
      unfold readAll
      rw [e]
      cases us with
      | nil => exact absurd c (by decide)
      | cons u us => rfl
    · walk_at "rd"
      refine qs ts ?_ _ l vs (sm.trans hid_same) nl el dp
      unfold readAll
      rw [e]
      cases us with
      | nil =>
        show some (ts ++ []) = some ts
        rw [List.append_nil]
      | cons u us => exact absurd (by rw [List.length_cons]; omega) c
theorem ok_read {c_BadReckoning : Addr} (D : DefAt K mg "read_reckoning" s_read_reckoning ["text"]) (B : Blt mg) (X_BadReckoning : ExcAt K mg "BadReckoning" c_BadReckoning) (G_words_of : OkF P w K mg base CX0 1 "words_of" ["row"] (spWordsOf K)) (G_all_reckonings : OkF P w K mg base (L2.CX P w) 24 "all_reckonings" ["words", "many"] (spAllR K c_BadReckoning)) :
    OkF P w K mg base (L2.CX P w) 25 "read_reckoning" ["text"] (spRead K c_BadReckoning) := by
  refine D.okX sc_read_reckoning len1 (fun f cdv A outer s H vs Q E hr h => ?_)
  obtain ⟨_, rfl, ws, m, rfl, ht, hm, qs, qn⟩ := h
  refine ⟨_, (pss_cons (ps_set (i := 1) sc_read_reckoning.nd rfl (by first | exact .inl rfl | exact .inr rfl) (u_call G_words_of (hr.mono (by omega)) pass0 (pa_cons (pv 0) pa_nil)))
    (pss_cons (ps_if (pt_cmpR o_is (pv 1) pe_non (nomark _)) (pss_one (ps_raise rfl (takes_of rfl rfl rfl rfl) (u_exc X_BadReckoning))) pss_nil)
    (pss_one (ps_ret (pe_ix (u_ix (K := K)) (u_call G_all_reckonings (hr.mono (by omega)) (passes_call (takes_of rfl rfl rfl rfl) (fun _ _ _ _ h => h)) (pa_cons (pv 1) (pa_cons pe_int pa_nil))) pe_int (fun _ _ => rfl)))))), ?_⟩
  refine s_start (σ' := [some (.str (Txt.join blankS ws)), none]) rfl ?_
  walk_at "rd"
  refine ⟨ws, m, rfl, ht, hm, fun hb H1 s1 => ?_, fun hb H1 l s1 nl el => ?_⟩
  · walk_at "rd"
    refine br (fun _ => ?_) (fun z => absurd rfl z)
    exact qn (readW_blank hb) _ s1
  · walk_at "rd"
    refine br (fun z => nomatch z) (fun _ => ?_)
    walk_at "rd"
    have r1 := readAll_one ws
    have hl := ht.le
    refine ⟨l, ws, 1, rfl, rfl, by decide, el, by omega, fun w h => Nat.le_trans (ht.wd w h).2.1 (by decide), fun ts e H2 l2 vs s2 n2 e2 d2 => ?_, fun e H2 s2 => ?_⟩
    · rw [r1] at e
      cases q : readW ws with
      | none => rw [q] at e; cases e
      | some t =>
        rw [q] at e
        cases e
        cases d2 with
        | cons h1 h2 =>
          cases h2
          refine s_ixL (SqL.of e2) rfl ?_
          exact qs t q _ _ (s1.trans s2) (Dp.same hid_same _ _ h1)
    · refine qn ?_ _ (s1.trans s2)
      rw [r1] at e
      cases q : readW ws with
      | none => rfl
      | some t => rw [q] at e; cases e
theorem ok_reckoning_text (D : DefAt K mg "reckoning_text" s_reckoning_text ["tree"]) (B : Blt mg) : ∀ n, OkF P w K mg base CX0 (n + 1) "reckoning_text" ["tree"] (spText K n) := by
  intro n
  induction n with
  | zero =>
    refine D.okNo fun vs H Q E h => ?_
    obtain ⟨_, _, t, _, z, _⟩ := h
    exact absurd z (Nat.not_lt_zero _)
  | succ n G_reckoning_text =>
  refine D.ok sc_reckoning_text len1 (fun f cdv A outer s H vs Q E hr h => ?_)
  obtain ⟨v, rfl, t, hd, hn, ht, hl, q⟩ := h
  have leafR : ∀ (x : Str) (y : V) (d : PyData), dTr t = .tuple [.str x, d] → Dp K H v (dTr t) → ∃ a y, v = .ref a ∧ SqT K H a [.str x, y] ∧ Dp K H y d := fun x y d e h => by
    rw [e] at h
    cases h with
    | tup hs ha =>
      cases ha with
      | cons h1 h2 =>
        cases h1
        cases h2 with
        | cons h3 h4 =>
          cases h4
          exact ⟨_, _, rfl, hs, h3⟩
  refine ⟨_, (pss_cons (ps_if (pt_cmpR (o_in (K := K)) (pe_ix (u_ix (K := K)) (pv 0) pe_int (fun _ _ => rfl)) (pe_tup (pa_cons pe_str (pa_cons pe_str pa_nil))) (by with_unfolding_all rfl)) (pss_one (ps_ret (pe_callTy call_strU (by rfl) B.str (by decide +kernel) (pa_cons (pe_ix (u_ix (K := K)) (pv 0) pe_int (fun _ _ => rfl)) pa_nil)))) pss_nil)
    (pss_one (ps_ret (u_join (K := K) pe_str (pe_op (o_add (K := K)) (pe_lst (pa_cons (pe_ix (u_ix (K := K)) (pv 0) pe_int (fun _ _ => rfl)) pa_nil)) (pe_lc (own := [("part", 1)]) (g := (gName 1)) (tt := tYes) rfl sc_reckoning_text.nd (u_iTup (K := K) (pe_slice (sl_u (K := K)) (pv 0) (po_some pe_int) po_none)) (blkOk_by (N := ["tree", "part"]) (sc := defScope s_reckoning_text) (own := [("part", 1)]) (by decide +kernel)) (fun _ _ _ _ _ => (pg_name (i := 1) sc_reckoning_text.nd rfl (by first | exact .inl rfl | exact .inr rfl))) (fun _ _ _ _ _ => pts_nil) (fun _ _ _ _ _ => (u_call G_reckoning_text (hr.mono (by omega)) pass0 (pa_cons (pv 1) pa_nil))))))))), ?_⟩
  refine s_start (σ' := [some v, none]) rfl ?_
  rcases tr_cases t ht with ⟨k, rfl⟩ | ⟨x, rfl⟩ | ⟨x, ks, N⟩
  · obtain ⟨a, y, rfl, hS, hy⟩ := leafR (Str.ofString "number") .non (.int k) rfl hd
    cases hy
    walk_at "rd"
    refine s_ixT hS rfl ?_
    walk_at "rd"
    refine ⟨sz rfl, fun p np => ?_⟩
    have s1 := same_upd (o := .tup [.str "name", .str "number"]) np
    refine s_inL (.inr (SqT.of upd_same)) rfl (flat_strs [Str.ofString "name", Str.ofString "number"]) ?_
    rw [show inV (.str (Str.ofString "number")) [.str "name", .str "number"] = true by decide +kernel]
    walk_at "rd"
    refine iteT ?_
    walk_at "rd"
    refine s_ixT (Same.sqT s1 hS) rfl ?_
    walk_at "rd"
    refine s_strI ?_ ?_
    · have h1 : k < 1000000 := ht
      rw [Int.natAbs_natCast]
      have h2 : k.log2 < 20 := by
        rcases Nat.eq_zero_or_pos k with rfl | z
        · decide
        · exact (Nat.log2_lt (by omega)).mpr (by omega)
      omega
    · have := q _ s1
      rw [show Txt.join blankS (L2.U.tw (.nu k)) = numS k from join_one _] at this
      exact this
  · obtain ⟨a, y, rfl, hS, hy⟩ := leafR (Str.ofString "name") .non (.str x) rfl hd
    cases hy
    walk_at "rd"
    refine s_ixT hS rfl ?_
    walk_at "rd"
    refine ⟨sz rfl, fun p np => ?_⟩
    have s1 := same_upd (o := .tup [.str "name", .str "number"]) np
    refine s_inL (.inr (SqT.of upd_same)) rfl (flat_strs [Str.ofString "name", Str.ofString "number"]) ?_
    rw [show inV (.str (Str.ofString "name")) [.str "name", .str "number"] = true by decide +kernel]
    walk_at "rd"
    refine iteT ?_
    walk_at "rd"
    refine s_ixT (Same.sqT s1 hS) rfl ?_
    walk_at "rd"
    have := q _ s1
    rw [show Txt.join blankS (L2.U.tw (.nm x)) = x from join_one _] at this
    exact this
  · rw [N.d] at hd
    obtain ⟨a, us, rfl, hS, hA⟩ := Dp.node_of hd
    walk_at "rd"
    refine s_ixT hS (atI_0 _ _) ?_
    walk_at "rd"
    refine ⟨sz rfl, fun p np => ?_⟩
    have s1 := same_upd (o := .tup [.str "name", .str "number"]) np
    refine s_inL (.inr (SqT.of upd_same)) rfl (flat_strs [Str.ofString "name", Str.ofString "number"]) ?_
    rw [show inV (.str x) [.str "name", .str "number"] = decide (x ∈ ([Str.ofString "name", Str.ofString "number"] : List Str)) from inV_strs x [Str.ofString "name", Str.ofString "number"]]
    walk_at "rd"
    refine br (fun c => absurd c N.w1) (fun _ => ?_)
    walk_at "rd"
    refine s_ixT (Same.sqT s1 hS) (atI_0 _ _) ?_
    walk_at "rd"
    refine ⟨sz rfl, fun l1 n1 => ?_⟩
    have s2 := s1.trans (same_upd (o := .lst [.str x]) n1)
    have e2 : upd (upd H p (.tup [.str "name", .str "number"])) l1 (.lst [.str x]) l1 = some (.lst [.str x]) := upd_same
    generalize upd (upd H p (.tup [.str "name", .str "number"])) l1 (.lst [.str x]) = H2 at s2 e2 ⊢
    walk_at "rd"
    refine s_slT1 (Same.sqT s2 hS) fun l3 n3 => ?_
    have s3 := s2.trans (same_upd (o := .tup us) n3)
    have e3 : SqT K (upd H2 l3 (.tup us)) l3 us := SqT.of upd_same
    have e23 := same_upd (o := .tup us) n3 _ _ e2
    have hA3 := Dp.sameAll s3 _ _ hA
    generalize upd H2 l3 (.tup us) = H3 at s3 e3 e23 hA3 ⊢
    have ul : us.length = ks.length := by rw [DpAll.length hA, List.length_map]
    have kl := N.kl
    walk_at "rd"
    refine s_itT e3 ?_
    refine lcB_of ks.length (fun D i acc H' => Same H3 (hid [D] H') ∧ acc = ((ks.take i).map fun k => Txt.join blankS (L2.U.tw k)).map V.str)
      (fun D hD => ⟨by rw [hid_up List.mem_cons_self, hid_new hD, hid_nil]; exact Same.refl _, rfl⟩)
      (fun D i acc H' hD hi hS => ⟨us, us[i], Same.sqT (hS.1.trans hid_same) e3, List.getElem?_eq_getElem _⟩)
      (fun D acc H' hD hS => ⟨us, Same.sqT (hS.1.trans hid_same) e3, by omega⟩) ?_ ?_
    · rintro D i acc H0 z H' hD hi ha hla ⟨sm, ea⟩ ⟨rfl, hz⟩
      have hx := hz us (Same.sqT (sm.trans hid_same) e3)
      obtain ⟨d, ed, hd⟩ := DpAll.get hA3 hx
      rw [List.getElem?_map] at ed
      obtain ⟨k, ek, rfl⟩ := Option.map_eq_some_iff.mp ed
      have km := List.mem_of_getElem? ek
      refine s_gName ⟨rfl, ?_⟩
      walk_at "rd"
      refine ⟨k, Dp.same (sm.trans hid_same) _ _ hd, Nat.lt_of_lt_of_le (N.dp k km) (Nat.le_of_lt_succ hn), N.ok k km, Nat.le_trans (N.le k km) hl, fun H5 s5 => ?_⟩
      refine LcPost.mk (s5 _ _ ha) hla (by omega) ⟨?_, ?_⟩
      · rw [hid_up List.mem_cons_self]
        exact sm.trans (Same.hid s5)
      · rw [ea, List.take_add_one, ek, List.map_append, List.map_append]
        rfl
    · rintro D acc H4 hD ha hla ⟨sm, ea⟩
      rw [List.take_length] at ea
      have s4 := sm.trans hid_same
      have cl : acc.length ≤ 2 := by omega
      refine s_addL (s4 _ _ e23) ha (by rw [List.length_singleton]; exact sz_of (by omega)) fun l5 n5 => ?_
      refine ⟨_, l5, x :: ks.map (fun k => Txt.join blankS (L2.U.tw k)), rfl, rfl, .inl (SqL.of (upd_same.trans (by rw [ea]; rfl))), ?_, ?_⟩
      · have h1 := N.sum
        rw [show (Str.ofString " ").length = 1 from rfl, List.length_cons, List.length_map]
        omega
      · have := q _ (s3.trans (s4.trans (same_upd (o := .lst ([.str x] ++ acc)) n5)))
        rw [← N.jn] at this
        exact this
theorem ok_law_text (D : DefAt K mg "_law_text" s_law_text ["_law_tree_here"]) (B : Blt mg) : ∀ n, OkF P w K mg base CX0 (n + 1) "_law_text" ["_law_tree_here"] (spText K n) := by
  intro n
  induction n with
  | zero =>
    refine D.okNo fun vs H Q E h => ?_
    obtain ⟨_, _, t, _, z, _⟩ := h
    exact absurd z (Nat.not_lt_zero _)
  | succ n G_law_text =>
  refine D.ok sc_law_text len1 (fun f cdv A outer s H vs Q E hr h => ?_)
  obtain ⟨v, rfl, t, hd, hn, ht, hl, q⟩ := h
  have leafR : ∀ (x : Str) (y : V) (d : PyData), dTr t = .tuple [.str x, d] → Dp K H v (dTr t) → ∃ a y, v = .ref a ∧ SqT K H a [.str x, y] ∧ Dp K H y d := fun x y d e h => by
    rw [e] at h
    cases h with
    | tup hs ha =>
      cases ha with
      | cons h1 h2 =>
        cases h1
        cases h2 with
        | cons h3 h4 =>
          cases h4
          exact ⟨_, _, rfl, hs, h3⟩
  refine ⟨_, (pss_cons (ps_if (pt_cmpR (o_in (K := K)) (pe_ix (u_ix (K := K)) (pv 0) pe_int (fun _ _ => rfl)) (pe_tup (pa_cons pe_str (pa_cons pe_str pa_nil))) (by with_unfolding_all rfl)) (pss_one (ps_ret (pe_callTy call_strU (by rfl) B.str (by decide +kernel) (pa_cons (pe_ix (u_ix (K := K)) (pv 0) pe_int (fun _ _ => rfl)) pa_nil)))) pss_nil)
    (pss_one (ps_ret (u_join (K := K) pe_str (pe_op (o_add (K := K)) (pe_lst (pa_cons (pe_ix (u_ix (K := K)) (pv 0) pe_int (fun _ _ => rfl)) pa_nil)) (pe_lc (own := [("_law_part", 1)]) (g := (gName 1)) (tt := tYes) rfl sc_law_text.nd (u_iTup (K := K) (pe_slice (sl_u (K := K)) (pv 0) (po_some pe_int) po_none)) (blkOk_by (N := ["_law_tree_here", "_law_part"]) (sc := defScope s_law_text) (own := [("_law_part", 1)]) (by decide +kernel)) (fun _ _ _ _ _ => (pg_name (i := 1) sc_law_text.nd rfl (by first | exact .inl rfl | exact .inr rfl))) (fun _ _ _ _ _ => pts_nil) (fun _ _ _ _ _ => (u_call G_law_text (hr.mono (by omega)) pass0 (pa_cons (pv 1) pa_nil))))))))), ?_⟩
  refine s_start (σ' := [some v, none]) rfl ?_
  rcases tr_cases t ht with ⟨k, rfl⟩ | ⟨x, rfl⟩ | ⟨x, ks, N⟩
  · obtain ⟨a, y, rfl, hS, hy⟩ := leafR (Str.ofString "number") .non (.int k) rfl hd
    cases hy
    walk_at "rd"
    refine s_ixT hS rfl ?_
    walk_at "rd"
    refine ⟨sz rfl, fun p np => ?_⟩
    have s1 := same_upd (o := .tup [.str "name", .str "number"]) np
    refine s_inL (.inr (SqT.of upd_same)) rfl (flat_strs [Str.ofString "name", Str.ofString "number"]) ?_
    rw [show inV (.str (Str.ofString "number")) [.str "name", .str "number"] = true by decide +kernel]
    walk_at "rd"
    refine iteT ?_
    walk_at "rd"
    refine s_ixT (Same.sqT s1 hS) rfl ?_
    walk_at "rd"
    refine s_strI ?_ ?_
    · have h1 : k < 1000000 := ht
      rw [Int.natAbs_natCast]
      have h2 : k.log2 < 20 := by
        rcases Nat.eq_zero_or_pos k with rfl | z
        · decide
        · exact (Nat.log2_lt (by omega)).mpr (by omega)
      omega
    · have := q _ s1
      rw [show Txt.join blankS (L2.U.tw (.nu k)) = numS k from join_one _] at this
      exact this
  · obtain ⟨a, y, rfl, hS, hy⟩ := leafR (Str.ofString "name") .non (.str x) rfl hd
    cases hy
    walk_at "rd"
    refine s_ixT hS rfl ?_
    walk_at "rd"
    refine ⟨sz rfl, fun p np => ?_⟩
    have s1 := same_upd (o := .tup [.str "name", .str "number"]) np
    refine s_inL (.inr (SqT.of upd_same)) rfl (flat_strs [Str.ofString "name", Str.ofString "number"]) ?_
    rw [show inV (.str (Str.ofString "name")) [.str "name", .str "number"] = true by decide +kernel]
    walk_at "rd"
    refine iteT ?_
    walk_at "rd"
    refine s_ixT (Same.sqT s1 hS) rfl ?_
    walk_at "rd"
    have := q _ s1
    rw [show Txt.join blankS (L2.U.tw (.nm x)) = x from join_one _] at this
    exact this
  · rw [N.d] at hd
    obtain ⟨a, us, rfl, hS, hA⟩ := Dp.node_of hd
    walk_at "rd"
    refine s_ixT hS (atI_0 _ _) ?_
    walk_at "rd"
    refine ⟨sz rfl, fun p np => ?_⟩
    have s1 := same_upd (o := .tup [.str "name", .str "number"]) np
    refine s_inL (.inr (SqT.of upd_same)) rfl (flat_strs [Str.ofString "name", Str.ofString "number"]) ?_
    rw [show inV (.str x) [.str "name", .str "number"] = decide (x ∈ ([Str.ofString "name", Str.ofString "number"] : List Str)) from inV_strs x [Str.ofString "name", Str.ofString "number"]]
    walk_at "rd"
    refine br (fun c => absurd c N.w1) (fun _ => ?_)
    walk_at "rd"
    refine s_ixT (Same.sqT s1 hS) (atI_0 _ _) ?_
    walk_at "rd"
    refine ⟨sz rfl, fun l1 n1 => ?_⟩
    have s2 := s1.trans (same_upd (o := .lst [.str x]) n1)
    have e2 : upd (upd H p (.tup [.str "name", .str "number"])) l1 (.lst [.str x]) l1 = some (.lst [.str x]) := upd_same
    generalize upd (upd H p (.tup [.str "name", .str "number"])) l1 (.lst [.str x]) = H2 at s2 e2 ⊢
    walk_at "rd"
    refine s_slT1 (Same.sqT s2 hS) fun l3 n3 => ?_
    have s3 := s2.trans (same_upd (o := .tup us) n3)
    have e3 : SqT K (upd H2 l3 (.tup us)) l3 us := SqT.of upd_same
    have e23 := same_upd (o := .tup us) n3 _ _ e2
    have hA3 := Dp.sameAll s3 _ _ hA
    generalize upd H2 l3 (.tup us) = H3 at s3 e3 e23 hA3 ⊢
    have ul : us.length = ks.length := by rw [DpAll.length hA, List.length_map]
    have kl := N.kl
    walk_at "rd"
    refine s_itT e3 ?_
    refine lcB_of ks.length (fun D i acc H' => Same H3 (hid [D] H') ∧ acc = ((ks.take i).map fun k => Txt.join blankS (L2.U.tw k)).map V.str)
      (fun D hD => ⟨by rw [hid_up List.mem_cons_self, hid_new hD, hid_nil]; exact Same.refl _, rfl⟩)
      (fun D i acc H' hD hi hS => ⟨us, us[i], Same.sqT (hS.1.trans hid_same) e3, List.getElem?_eq_getElem _⟩)
      (fun D acc H' hD hS => ⟨us, Same.sqT (hS.1.trans hid_same) e3, by omega⟩) ?_ ?_
    · rintro D i acc H0 z H' hD hi ha hla ⟨sm, ea⟩ ⟨rfl, hz⟩
      have hx := hz us (Same.sqT (sm.trans hid_same) e3)
      obtain ⟨d, ed, hd⟩ := DpAll.get hA3 hx
      rw [List.getElem?_map] at ed
      obtain ⟨k, ek, rfl⟩ := Option.map_eq_some_iff.mp ed
      have km := List.mem_of_getElem? ek
      refine s_gName ⟨rfl, ?_⟩
      walk_at "rd"
      refine ⟨k, Dp.same (sm.trans hid_same) _ _ hd, Nat.lt_of_lt_of_le (N.dp k km) (Nat.le_of_lt_succ hn), N.ok k km, Nat.le_trans (N.le k km) hl, fun H5 s5 => ?_⟩
      refine LcPost.mk (s5 _ _ ha) hla (by omega) ⟨?_, ?_⟩
      · rw [hid_up List.mem_cons_self]
        exact sm.trans (Same.hid s5)
      · rw [ea, List.take_add_one, ek, List.map_append, List.map_append]
        rfl
    · rintro D acc H4 hD ha hla ⟨sm, ea⟩
      rw [List.take_length] at ea
      have s4 := sm.trans hid_same
      have cl : acc.length ≤ 2 := by omega
      refine s_addL (s4 _ _ e23) ha (by rw [List.length_singleton]; exact sz_of (by omega)) fun l5 n5 => ?_
      refine ⟨_, l5, x :: ks.map (fun k => Txt.join blankS (L2.U.tw k)), rfl, rfl, .inl (SqL.of (upd_same.trans (by rw [ea]; rfl))), ?_, ?_⟩
      · have h1 := N.sum
        rw [show (Str.ofString " ").length = 1 from rfl, List.length_cons, List.length_map]
        omega
      · have := q _ (s3.trans (s4.trans (same_upd (o := .lst ([.str x] ++ acc)) n5)))
        rw [← N.jn] at this
        exact this
theorem ok_lname (D : DefAt K mg "_law_is_name" s_law_is_name ["_law_word"]) (B : Blt mg) : OkF P w K mg base CX0 1 "_law_is_name" ["_law_word"] spName := by
  refine D.ok sc_law_is_name len1 (fun f cdv A outer s H vs Q E hr h => ?_)
  obtain ⟨_, rfl, x, rfl, hx, q⟩ := h
  refine ⟨_, (pss_cons (ps_set (i := 1) sc_law_is_name.nd rfl (by first | exact .inl rfl | exact .inr rfl) (pe_split pe_str pe_str))
    (pss_cons (ps_if (PW.pt (pw_or (pt_not (pt_chain o_le o_le pe_int (pe_callB (u_len (K := K)) (by rfl) B.len (by decide +kernel) (pa_cons (pv 0) pa_nil)) pe_int)) (pw_or1 (pt_cmpR (o_in (K := K)) (pv 0) (pv 1) (by with_unfolding_all rfl))))) (pss_one (ps_ret pe_bl)) pss_nil)
    (pss_one (ps_ret (pe_callB (u_all (K := K) rfl) (by rfl) B.all (by decide +kernel) (pa_cons (pe_lc (own := [("_law_sign", 2)]) (g := (gName 2)) (tt := tYes) rfl sc_law_is_name.nd (pi_str (pv 0)) (blkOk_by (N := ["_law_word", "_law_taken", "_law_sign"]) (sc := defScope s_law_is_name) (own := [("_law_sign", 2)]) (by decide +kernel)) (fun _ _ _ _ _ => (pg_name (i := 2) sc_law_is_name.nd rfl (by first | exact .inl rfl | exact .inr rfl))) (fun _ _ _ _ _ => pts_nil) (fun _ _ _ _ _ => (pe_cmpR (o_in (K := K)) (pv 2) pe_str (by with_unfolding_all rfl)))) pa_nil)))))), ?_⟩
  refine s_start (σ' := [some (.str x), none, none]) rfl ?_
  unfold isNm at q
  walk_at "rd"
  refine ⟨_, _, rfl, rfl, rfl, sz rfl, fun p np => ?_⟩
  rw [taken_split]
  have s1 := same_upd (o := .lst (takenL.map V.str)) np
  walk_at "rd"
  refine s_lenS (len_sz hx) ?_
  walk_at "rd"
  have no : (decide ((1 : Int) ≤ (x.length : Nat)) && decide (((x.length : Nat) : Int) ≤ 8)) = false → Q (.bl false) (upd H p (.lst (takenL.map V.str))) := fun e => by
    rw [← Bool.and_assoc, e, Bool.false_and] at q
    exact q _ s1
  refine brB (fun b1 => ?_) (fun b1 => ?_)
  · walk_at "rd"
    refine brB (fun b0 => ?_) (fun b0 => ?_)
    · walk_at "rd"
      refine no ?_
      rw [b1, Bool.true_and]
      exact (Bool.not_eq_true' _).mp b0
    · have b2 : decide (((x.length : Nat) : Int) ≤ 8) = true := by
        cases h : decide (((x.length : Nat) : Int) ≤ 8) with
        | true => rfl
        | false =>
          rw [h] at b0
          exact absurd b0 (by decide)
      rw [b1, b2] at q
      walk_at "rd"
      refine s_inL (.inl (SqL.of upd_same)) rfl (flat_strs _) ?_
      walk_at "rd"
      refine brB (fun b3 => ?_) (fun b3 => ?_)
      · walk_at "rd"
        rw [b3, Bool.not_true, Bool.and_false] at q
        exact q _ s1
      · rw [b3, Bool.not_false, Bool.and_true, Bool.true_and, Bool.true_and] at q
        walk_at "rd"
        refine lcB_str (fun c => .bl (decide (c ∈ lettersS.cps.toList))) (by omega) (fun _ => rfl) (fun c H R z => ?_) (fun D hD => ?_)
        · walk_at "rd"
          refine s_inS ?_
          exact z
        · walk_at "rd"
          refine ⟨D, x.cps.toList.map fun c => decide (c ∈ lettersS.cps.toList), rfl, SqL.of (upd_same.trans (by rw [List.map_map]; rfl)), ?_⟩
          exact q _ (s1.trans (same_upd hD))
  · walk_at "rd"
    refine iteT ?_
    refine iteT ?_
    walk_at "rd"
    refine no ?_
    rw [b1, Bool.false_and]
theorem ok_lfig (D : DefAt K mg "_law_is_figures" s_law_is_figures ["_law_word", "_law_upto"]) (B : Blt mg) : OkF P w K mg base CX0 1 "_law_is_figures" ["_law_word", "_law_upto"] spNum := by
  refine D.ok sc_law_is_figures len2 (fun f cdv A outer s H vs Q E hr h => ?_)
  obtain ⟨_, _, rfl, x, m, rfl, rfl, hx, q⟩ := h
  refine ⟨_, (pss_cons (ps_if (PW.pt (pw_or (pt_not (pt_chain o_le o_le pe_int (pe_callB (u_len (K := K)) (by rfl) B.len (by decide +kernel) (pa_cons (pv 0) pa_nil)) (pv 1))) (pw_or1 (pt_not (u_truth (K := K) (pe_callB (u_all (K := K) rfl) (by rfl) B.all (by decide +kernel) (pa_cons (pe_lc (own := [("_law_sign", 2)]) (g := (gName 2)) (tt := tYes) rfl sc_law_is_figures.nd (pi_str (pv 0)) (blkOk_by (N := ["_law_word", "_law_upto", "_law_sign"]) (sc := defScope s_law_is_figures) (own := [("_law_sign", 2)]) (by decide +kernel)) (fun _ _ _ _ _ => (pg_name (i := 2) sc_law_is_figures.nd rfl (by first | exact .inl rfl | exact .inr rfl))) (fun _ _ _ _ _ => pts_nil) (fun _ _ _ _ _ => (pe_cmpR (o_in (K := K)) (pv 2) pe_str (by with_unfolding_all rfl)))) pa_nil))))))) (pss_one (ps_ret pe_bl)) pss_nil)
    (pss_one (ps_ret (pe_or (pe_cmpR (o_ne (K := K) hr.units) (pe_ix (u_ix (K := K)) (pv 0) pe_int (fun _ _ => rfl)) pe_str (nomark _)) (pe_one (pe_cmpR (o_eq (K := K) hr.units) (pv 0) pe_str (nomark _))))))), ?_⟩
  refine s_start (σ' := [some (.str x), some (.int m), none]) rfl ?_
  unfold isFig at q
  walk_at "rd"
  refine s_lenS (len_sz hx) ?_
  walk_at "rd"
  refine brB (fun b1 => ?_) (fun b1 => ?_)
  · rw [b1, Bool.true_and] at q
    have x0 : 1 ≤ x.length := by
      have := of_decide_eq_true b1
      omega
    walk_at "rd"
    refine brB (fun b2 => ?_) (fun b2 => ?_)
    · rw [Bool.not_eq_true' _] at b2
      rw [b2, Bool.false_and] at q
      walk_at "rd"
      exact iteT (q _ (Same.refl _))
    have b2 : decide (((x.length : Nat) : Int) ≤ m) = true := by
      cases h : decide (((x.length : Nat) : Int) ≤ m) with
      | true => rfl
      | false => rw [h] at b2; exact absurd b2 (by decide)
    rw [b2, Bool.true_and] at q
    walk_at "rd"
    refine lcB_str (fun c => .bl (decide (c ∈ figuresS.cps.toList))) (by omega) (fun _ => rfl) (fun c H R z => ?_) (fun D hD => ?_)
    · walk_at "rd"
      refine s_inS ?_
      exact z
    · walk_at "rd"
      refine ⟨D, x.cps.toList.map fun c => decide (c ∈ figuresS.cps.toList), rfl, SqL.of (upd_same.trans (by rw [List.map_map]; rfl)), ?_⟩
      walk_at "rd"
      have sD := same_upd (o := .lst (x.cps.toList.map fun c => V.bl (decide (c ∈ figuresS.cps.toList)))) hD
      refine brB (fun b3 => ?_) (fun b3 => ?_)
      · rw [Bool.not_eq_true' _] at b3
        rw [b3, Bool.false_and] at q
        walk_at "rd"
        exact q _ sD
      · have b3 : (x.cps.toList.map fun c => decide (c ∈ figuresS.cps.toList)).all id = true := Bool.not_eq_eq_eq_not.mp b3
        rw [b3, Bool.true_and, Bool.or_comm] at q
        obtain ⟨c, r, hcr⟩ : ∃ c r, x.cps.toList = c :: r := by
          cases h : x.cps.toList with
          | nil =>
            have e : x.length = (TL.tl x).length := TL.len_tl x
            rw [show TL.tl x = [] from h] at e
            rw [e] at x0
            exact absurd x0 (by decide)
          | cons c r => exact ⟨c, r, rfl⟩
        rw [hcr, List.head?_cons] at q
        have e : decide (V.str ⟨#[c]⟩ = V.str (Str.ofString "0")) = decide (some c = some 48) := decide_eq_decide.mpr ⟨fun e => by
            have := V.str.inj e
            have h2 : TL.tl (⟨#[c]⟩ : Str) = TL.tl (Str.ofString "0") := by rw [this]
            have h3 : [c] = [48] := h2
            rw [List.singleton_inj.mp h3], fun e => by rw [Option.some.inj e]; rfl⟩
        walk_at "rd"
        refine s_ixS (len_sz hx) (c := c) (show atI x.cps.toList 0 = some c by rw [hcr]; exact atI_0 c r) ?_
        refine s_ne rfl ?_
        walk_at "rd"
        rw [e]
        refine brB (fun b4 => ?_) (fun b4 => ?_)
        · rw [b4, Bool.true_or] at q
          exact q _ sD
        · rw [b4, Bool.false_or] at q
          walk_at "rd"
          refine s_eq rfl ?_
          rw [show decide (V.str x = V.str (Str.ofString "0")) = decide (x = Str.ofString "0") from decide_eq_decide.mpr ⟨fun e => V.str.inj e, fun e => by rw [e]⟩]
          exact q _ sD
  · rw [b1, Bool.false_and, Bool.false_and] at q
    walk_at "rd"
    refine iteT ?_
    refine iteT ?_
    walk_at "rd"
    exact q _ (Same.refl _)
theorem ok_lfirst (D : DefAt K mg "_law_first" s_law_first ["_law_words"]) (B : Blt mg) (G_law_is_figures : OkF P w K mg base CX0 1 "_law_is_figures" ["_law_word", "_law_upto"] spNum) (G_law_is_name : OkF P w K mg base CX0 1 "_law_is_name" ["_law_word"] spName) :
    ∀ n, OkF P w K mg base CX0 (n + 1) "_law_first" ["_law_words"] (spFirst K n) := by
  intro n
  induction n with
  | zero =>
    refine D.okNo fun vs H Q E h => ?_
    obtain ⟨_, _, b, ws, _, _, z, _⟩ := h
    exact absurd z (Nat.not_lt_zero _)
  | succ n G_law_first =>
  refine D.ok sc_law_first len1 (fun f cdv A outer s H vs Q E hr h => ?_)
  obtain ⟨_, rfl, b, ws, rfl, hS, hn, hm, hw, qs, qn⟩ := h
  refine ⟨_, (pss_cons (ps_if (pt_cmpR (o_eq (K := K) hr.units) (pv 0) (pe_lst pa_nil) (nomark _)) (pss_one (ps_ret pe_non)) pss_nil)
    (pss_cons (ps_set (i := 1) sc_law_first.nd rfl (by first | exact .inl rfl | exact .inr rfl) (pe_ix (u_ix (K := K)) (pv 0) pe_int (fun _ _ => rfl)))
    (pss_cons (ps_if (u_truth (K := K) (u_call G_law_is_figures (hr.mono (by omega)) pass0 (pa_cons (pv 1) (pa_cons pe_int pa_nil)))) (pss_one (ps_ret (pe_tup (pa_cons (pe_tup (pa_cons pe_str (pa_cons (pe_callTy call_intU (by rfl) B.int (by decide +kernel) (pa_cons (pv 1) pa_nil)) pa_nil))) (pa_cons (pe_slice (sl_u (K := K)) (pv 0) (po_some pe_int) po_none) pa_nil))))) pss_nil)
    (pss_cons (ps_if (u_truth (K := K) (u_call G_law_is_name (hr.mono (by omega)) pass0 (pa_cons (pv 1) pa_nil))) (pss_one (ps_ret (pe_tup (pa_cons (pe_tup (pa_cons pe_str (pa_cons (pv 1) pa_nil))) (pa_cons (pe_slice (sl_u (K := K)) (pv 0) (po_some pe_int) po_none) pa_nil))))) pss_nil)
    (pss_cons (ps_set (i := 2) sc_law_first.nd rfl (by first | exact .inl rfl | exact .inr rfl) pe_int)
    (pss_cons (ps_if (pt_cmpR (o_in (K := K)) (pv 1) (pe_tup (pa_cons pe_str (pa_cons pe_str pa_nil))) (by with_unfolding_all rfl)) (pss_one (ps_set (i := 2) sc_law_first.nd rfl (by first | exact .inl rfl | exact .inr rfl) pe_int)) pss_nil)
    (pss_cons (ps_if (pt_cmpR (o_in (K := K)) (pv 1) (pe_tup (pa_cons pe_str (pa_cons pe_str (pa_cons pe_str (pa_cons pe_str (pa_cons pe_str (pa_cons pe_str (pa_cons pe_str (pa_cons pe_str (pa_cons pe_str pa_nil)))))))))) (by with_unfolding_all rfl)) (pss_one (ps_set (i := 2) sc_law_first.nd rfl (by first | exact .inl rfl | exact .inr rfl) pe_int)) pss_nil)
    (pss_cons (ps_if (pt_cmpR (o_eq (K := K) hr.units) (pv 2) pe_int (nomark _)) (pss_one (ps_ret pe_non)) pss_nil)
    (pss_cons (ps_set (i := 3) sc_law_first.nd rfl (by first | exact .inl rfl | exact .inr rfl) (pe_lst pa_nil))
    (pss_cons (ps_set (i := 4) sc_law_first.nd rfl (by first | exact .inl rfl | exact .inr rfl) (pe_slice (sl_u (K := K)) (pv 0) (po_some pe_int) po_none))
    (pss_cons (ps_for PassesOwn.never (by rfl) (pi_range1 (by rfl) B.range (pa_cons (pv 2) pa_nil)) (pg_name (i := 5) sc_law_first.nd rfl (by first | exact .inl rfl | exact .inr rfl)) (pss_cons (ps_set (i := 6) sc_law_first.nd rfl (by first | exact .inl rfl | exact .inr rfl) (u_call G_law_first (hr.mono (by omega)) pass0 (pa_cons (pv 4) pa_nil)))
    (pss_cons (ps_if (pt_cmpR o_is (pv 6) pe_non (nomark _)) (pss_one (ps_ret pe_non)) pss_nil)
    (pss_cons (ps_expr (u_bm (K := K) PySem.F.plainAttrs_list PySem.F.slot_list_append PySem.F.type_list_append mt_append (pv 3) (pa_cons (pe_ix (u_ix (K := K)) (pv 6) pe_int (fun _ _ => rfl)) pa_nil)))
    (pss_one (ps_set (i := 4) sc_law_first.nd rfl (by first | exact .inl rfl | exact .inr rfl) (pe_ix (u_ix (K := K)) (pv 6) pe_int (fun _ _ => rfl))))))))
    (pss_one (ps_ret (pe_tup (pa_cons (pe_op (o_add (K := K)) (pe_tup (pa_cons (pv 1) pa_nil)) (pe_callTy (u_tupleOf (K := K)) (by rfl) B.tuple (by decide +kernel) (pa_cons (pv 3) pa_nil))) (pa_cons (pv 4) pa_nil)))))))))))))))), ?_⟩
  refine s_start (σ' := [some (.ref b), none, none, none, none, none, none]) rfl ?_
  walk_at "rd"
  refine ⟨sz rfl, fun l0 n0 => ?_⟩
  have s0 := same_upd (o := .lst []) n0
  refine s_eqD (.lst (s0.seq hS) (dpStrs ws)) (.lst (SqL.of upd_same) .nil) ?_ rfl ?_
  · exact shaped_strs fun w h => (hw w h).2
  walk_at "rd"
  cases ws with
  | nil =>
    refine iteT ?_
    walk_at "rd"
    exact qn rfl _ s0
  | cons x r =>
  refine iteF ?_
  walk_at "rd"
  have hrl : r.length < n := by simpa using hn
  have hx := (hw x List.mem_cons_self).1
  have hwr : ∀ w ∈ r, w.length ≤ 100 ∧ PyData.strOk w = true := fun w h => hw w (List.mem_cons_of_mem _ h)
  have hS0 := s0.seq hS
  generalize upd H l0 (.lst []) = H0 at s0 hS0 ⊢
  refine s_ixL hS0 (atI_0 _ _) ?_
  walk_at "rd"
  refine ⟨x, 6, rfl, rfl, by omega, fun H2 s2 => ?_⟩
  walk_at "rd"
  refine brB (fun c1 => ?_) (fun c1 => ?_)
  · walk_at "rd"
    refine s_intS (isFig_int c1 (by decide)) (by omega) ?_
    walk_at "rd"
    refine ⟨sz rfl, fun T1 n1 => ?_⟩
    have s3 := same_upd (o := .tup [.str "number", .int (numOf x : Nat)]) n1
    walk_at "rd"
    refine s_slL (s3.seq (s2.seq hS0)) fun l2 n2 => ?_
    rw [show cutV ((x :: r).map V.str) (some 1) none = r.map V.str from (cutV_drop ((x :: r).map V.str) 1).trans rfl]
    have s4 := same_upd (o := .lst (r.map V.str)) n2
    walk_at "rd"
    refine ⟨sz rfl, fun T2 n3 => ?_⟩
    have s5 := same_upd (o := .tup [.ref T1, .ref l2]) n3
    exact qs (.nu (numOf x)) r (by unfold parse; rw [if_pos c1]) _ T2 (.ref T1) l2 (s0.trans (s2.trans (s3.trans (s4.trans s5)))) ((s0.trans (s2.trans s3)).free n2) ⟨SqT.of upd_same, .tup (SqT.of (s5 _ _ (s4 _ _ upd_same))) (.cons (.str _) (.cons (.int _) .nil)), s5 _ _ upd_same⟩
  walk_at "rd"
  refine ⟨by omega, fun H3 s3 => ?_⟩
  walk_at "rd"
  have s03 := s0.trans (s2.trans s3)
  have hS3 := s3.seq (s2.seq hS0)
  refine brB (fun c2 => ?_) (fun c2 => ?_)
  · walk_at "rd"
    refine ⟨sz rfl, fun T1 n1 => ?_⟩
    have s4 := same_upd (o := .tup [.str "name", .str x]) n1
    walk_at "rd"
    refine s_slL (s4.seq hS3) fun l2 n2 => ?_
    rw [show cutV ((x :: r).map V.str) (some 1) none = r.map V.str from (cutV_drop ((x :: r).map V.str) 1).trans rfl]
    have s5 := same_upd (o := .lst (r.map V.str)) n2
    walk_at "rd"
    refine ⟨sz rfl, fun T2 n3 => ?_⟩
    have s6 := same_upd (o := .tup [.ref T1, .ref l2]) n3
    exact qs (.nm x) r (by unfold parse; rw [if_neg (by rw [c1]; decide), if_pos c2]) _ T2 (.ref T1) l2 (s03.trans (s4.trans (s5.trans s6))) ((s03.trans s4).free n2) ⟨SqT.of upd_same, .tup (SqT.of (s6 _ _ (s5 _ _ upd_same))) (.cons (.str _) (.cons (.str _) .nil)), s6 _ _ upd_same⟩
  obtain ⟨p0, pm⟩ := parse_op (n := n) (r := r) c1 c2
  with_reducible refine s_next ?_
  with_reducible refine s_nx ?_
  with_reducible refine s_seq ?_
  with_reducible refine s_asg ?_
  with_reducible refine s_c ?_
  with_reducible refine s_gName ?_
  with_reducible refine s_nx ?_
  refine s_seqJ (fun σ' H' => σ' = [some (.ref b), some (.str x), some (.int (if x ∈ oneL then 1 else 0)), none, none, none, none] ∧ Same H3 H') ?_ (fun nx J => ?_)
  case refine_2 =>
    walk_at "rd"
    refine ⟨sz rfl, fun T1 n1 => ?_⟩
    have s4 := same_upd (o := .tup [.str "not", .str "at"]) n1
    refine s_inL (.inr (SqT.of upd_same)) rfl (flat_strs oneL) ?_
    rw [show inV (.str x) [.str "not", .str "at"] = decide (x ∈ oneL) from inV_strs x oneL]
    walk_at "rd"
    refine br (fun c => ?_) (fun c => ?_)
    · rw [if_pos c] at J
      with_reducible refine s_asg ?_
      with_reducible refine s_c ?_
      with_reducible refine s_gName ?_
      refine s_nx ?_
      exact J _ _ ⟨rfl, s4⟩
    · rw [if_neg c] at J
      with_reducible refine s_next ?_
      refine s_nx ?_
      exact J _ _ ⟨rfl, s4⟩
  rintro σ' H4 ⟨rfl, s4⟩
  refine s_seqJ (fun σ' H' => σ' = [some (.ref b), some (.str x), some (.int (signMany x : Nat)), none, none, none, none] ∧ Same H3 H') ?_ (fun nx J => ?_)
  case refine_2 =>
    walk_at "rd"
    refine ⟨sz rfl, fun T1 n1 => ?_⟩
    have s5 := s4.trans (same_upd (o := .tup [.str "+", .str "-", .str "*", .str "div", .str "mod", .str "<", .str "=", .str "and", .str "or"]) n1)
    refine s_inL (.inr (SqT.of upd_same)) rfl (flat_strs twoL) ?_
    rw [show inV (.str x) [.str "+", .str "-", .str "*", .str "div", .str "mod", .str "<", .str "=", .str "and", .str "or"] = decide (x ∈ twoL) from inV_strs x twoL]
    walk_at "rd"
    unfold signMany at J
    refine br (fun c => ?_) (fun c => ?_)
    · rw [if_pos c] at J
      with_reducible refine s_asg ?_
      with_reducible refine s_c ?_
      with_reducible refine s_gName ?_
      refine s_nx ?_
      exact J _ _ ⟨rfl, s5⟩
    · rw [if_neg c] at J
      with_reducible refine s_next ?_
      refine s_nx ?_
      refine J _ _ ⟨?_, s5⟩
      by_cases c3 : x ∈ oneL
      · rw [if_pos c3, if_pos c3]
        rfl
      · rw [if_neg c3, if_neg c3]
        rfl
  rintro σ' H5 ⟨rfl, s5⟩
  walk_at "rd"
  refine s_eq rfl ?_
  walk_at "rd"
  refine br (fun c => ?_) (fun c => ?_)
  · walk_at "rd"
    exact qn (p0 (by have := V.int.inj c; omega)) _ (s03.trans s5)
  have c0 : signMany x ≠ 0 := fun e => c (by rw [e]; rfl)
  obtain ⟨pq, pn⟩ := pm c0
  have m2 : signMany x ≤ 2 := by
    unfold signMany
    split
    · exact Nat.le_refl _
    · split <;> decide
  walk_at "rd"
  refine ⟨sz rfl, fun l6 n6 => ?_⟩
  have s6 := s5.trans (same_upd (o := .lst []) n6)
  have e6 : upd H5 l6 (.lst []) l6 = some (.lst []) := upd_same
  have n6' : H l6 = none := (s03.trans s5).free n6
  generalize upd H5 l6 (.lst []) = H6 at s6 e6 ⊢
  walk_at "rd"
  refine s_slL (s6.seq hS3) fun l7 n7 => ?_
  rw [show cutV ((x :: r).map V.str) (some 1) none = r.map V.str from (cutV_drop ((x :: r).map V.str) 1).trans rfl]
  have s7 := s6.trans (same_upd (o := .lst (r.map V.str)) n7)
  have e7 : upd H6 l7 (.lst (r.map V.str)) l7 = some (.lst (r.map V.str)) := upd_same
  have e67 := same_upd (o := .lst (r.map V.str)) n7 _ _ e6
  have n67 : l7 ≠ l6 := (ne_of_none e6 n7).symm
  have s07 := s03.trans s7
  have n3' : H3 l6 = none := s5.free n6
  generalize upd H6 l7 (.lst (r.map V.str)) = H7 at s7 e7 e67 s07 ⊢
  have s07h : Same H (hid [l6] H7) := fun b o e => by
    rw [hid_get (by simpa using ne_of_none e n6')]
    exact s07 _ _ e
  walk_at "rd"
  refine ⟨by omega, by omega, ?_⟩
  refine forB_range (n := signMany x) (fun i σ H' => ∃ (z y : Option V) (b' : Addr) (us : List Str) (vs : List V) (ts : List Tr), σ = [some (.ref b), some (.str x), some (.int (signMany x : Nat)), some (.ref l6), some (.ref b'), z, y] ∧ Same H (hid [l6] H') ∧ H' l6 = some (.lst vs) ∧ DpAll K (hid [l6] H') vs (ts.map dTr) ∧
      H b' = none ∧ b' ≠ l6 ∧ H' b' = some (.lst (us.map V.str)) ∧ parseK n i r = some (ts, us)) ?_ ?_ ?_
  · refine ⟨none, none, l7, r, [], [], rfl, s07h, e67, .nil, (s03.trans s6).free n7, n67, e7, rfl⟩
  · rintro i σ H8 hi ⟨z, y, b', us, vs, ts, rfl, sm, el, dp, nb, nb6, eb, ep⟩
    obtain ⟨k1, k2, k3⟩ := parseK_len i ep
    have vl : vs.length = i := by rw [DpAll.length dp, List.length_map, k1]
    walk_at "rd"
    refine ⟨b', us, rfl, SqL.of eb, by omega, by omega, fun w h => hwr w (k3 w h), fun t r1 e1 H9 T v l9 s9 n9 R => ?_, fun e1 H9 s9 => ?_⟩
    · walk_at "rd"
      refine br (fun z => nomatch z) (fun _ => ?_)
      walk_at "rd"
      refine s_tyL (SqL.of (s9 _ _ el)) ?_
      walk_at "rd"
      refine s_ixT R.pr rfl ?_
      walk_at "rd"
      refine s_append (s9 _ _ el) (small1000 (by omega)) ?_
      walk_at "rd"
      have n96 : l9 ≠ l6 := (ne_of_none el n9).symm
      have hT2 : SqT K (upd H9 l6 (.lst (vs ++ [v]))) T [v, .ref l9] := Same.sqT (hid_same (S := [l6])) (by
        rw [hid_up List.mem_cons_self]
        exact SqT.avoid (s9 _ _ el) R.pr)
      refine s_ixT hT2 rfl ?_
      walk_at "rd"
      refine ⟨_, _, l9, r1, vs ++ [v], ts ++ [t], rfl, ?_, upd_same, ?_, (sm.trans hid_same).free n9, n96, ?_, ?_⟩
      · rw [hid_up List.mem_cons_self]
        exact sm.trans (Same.hid s9)
      · rw [hid_up List.mem_cons_self, List.map_append]
        exact dpApp (Dp.sameAll (Same.hid s9) _ _ dp) (dpOne (Dp.avoid (s9 _ _ el) _ _ (dTr_noL t) R.tr))
      · rw [upd_ne n96]
        exact R.rs
      · unfold parseK
        rw [ep]
        simp [e1]
    · walk_at "rd"
      refine br (fun _ => ?_) (fun z => absurd rfl z)
      walk_at "rd"
      exact qn (pn (i + 1) hi (by unfold parseK; rw [ep]; simp [e1])) _ (sm.trans ((Same.hid s9).trans hid_same))
  · rintro σ H8 ⟨z, y, b', us, vs, ts, rfl, sm, el, dp, nb, nb6, eb, ep⟩
    obtain ⟨k1, _, _⟩ := parseK_len _ ep
    have vl : vs.length = ts.length := by rw [DpAll.length dp, List.length_map]
    obtain ⟨t, e1, e2⟩ := pq ts us ep
    walk_at "rd"
    refine ⟨sz rfl, fun T1 n1 => ?_⟩
    have s9 := same_upd (o := .tup [.str x]) n1
    have eT1 : SqT K (upd H8 T1 (.tup [.str x])) T1 [.str x] := SqT.of upd_same
    generalize upd H8 T1 (.tup [.str x]) = H9 at s9 eT1 ⊢
    walk_at "rd"
    refine ⟨l6, vs, rfl, .inl ⟨SqL.of (s9 _ _ el), fun T2 n2 => ?_⟩⟩
    have s10 := same_upd (o := .tup vs) n2
    refine s_addT (Same.sqT s10 eT1) (SqT.of upd_same) (by simp) (fun e => by rw [e] at vl; rw [List.length_nil] at vl; omega) (by rw [List.length_singleton]; exact sz_of (by omega)) fun T3 n3 => ?_
    have s11 := same_upd (o := .tup ([.str x] ++ vs)) n3
    walk_at "rd"
    refine ⟨sz rfl, fun T4 n4 => ?_⟩
    have s12 := same_upd (o := .tup [.ref T3, .ref b']) n4
    have s8 := s9.trans (s10.trans (s11.trans s12))
    refine qs t us e1 _ T4 (.ref T3) b' ((sm.trans hid_same).trans s8) nb ⟨SqT.of upd_same, ?_, s8 _ _ eb⟩
    rw [e2]
    exact .tup (SqT.of (s12 _ _ upd_same)) (.cons (.str _) (Dp.sameAll (hid_same.trans s8) _ _ dp))
theorem ok_lread (D : DefAt K mg "_law_read" s_law_read ["_law_text_here"]) (B : Blt mg) (G_law_first : OkF P w K mg base CX0 22 "_law_first" ["_law_words"] (spFirst K 21)) :
    OkF P w K mg base CX0 23 "_law_read" ["_law_text_here"] (spLread K) := by
  refine D.ok sc_law_read len1 (fun f cdv A outer s H vs Q E hr h => ?_)
  obtain ⟨_, rfl, ws, m, rfl, ht, hm, qs, qn⟩ := h
  refine ⟨_, (pss_cons (ps_set (i := 1) sc_law_read.nd rfl (by first | exact .inl rfl | exact .inr rfl) (pe_split (pv 0) pe_str))
    (pss_cons (ps_set (i := 2) sc_law_read.nd rfl (by first | exact .inl rfl | exact .inr rfl) (u_call G_law_first (hr.mono (by omega)) pass0 (pa_cons (pe_slice (sl_u (K := K)) (pv 1) po_none (po_some pe_int)) pa_nil)))
    (pss_cons (ps_if (PW.pt (pw_or (pt_cmpR o_is (pv 2) pe_non (nomark _)) (pw_or (pt_cmpR (o_ne (K := K) hr.units) (pe_ix (u_ix (K := K)) (pv 2) pe_int (fun _ _ => rfl)) (pe_lst pa_nil) (nomark _)) (pw_or1 (pt_cmpR o_gt (pe_callB (u_len (K := K)) (by rfl) B.len (by decide +kernel) (pa_cons (pv 1) pa_nil)) pe_int (nomark _)))))) (pss_one (ps_ret pe_non)) pss_nil)
    (pss_one (ps_ret (pe_ix (u_ix (K := K)) (pv 2) pe_int (fun _ _ => rfl))))))), ?_⟩
  refine s_start (σ' := [some (.str (Txt.join blankS ws)), none, none]) rfl ?_
  walk_at "rd"
  have hl := ht.len
  have hle := ht.le
  refine ⟨_, _, rfl, rfl, rfl, by rw [sizeLine_eq]; omega, fun l nl => ?_⟩
  rw [show Txt.split (Txt.join blankS ws) (Str.ofString " ") = ws from split_blank ht.ne fun w hw => (ht.wd w hw).1]
  have s1 := same_upd (o := .lst (ws.map V.str)) nl
  have e1 : upd H l (.lst (ws.map V.str)) l = some (.lst (ws.map V.str)) := upd_same
  generalize upd H l (.lst (ws.map V.str)) = H1 at s1 e1 ⊢
  walk_at "rd"
  refine s_slL (SqL.of e1) fun l2 n2 => ?_
  rw [show cutV (ws.map V.str) none (some 20) = (ws.take 20).map V.str from (cutV_take (ws.map V.str) 20).trans (List.map_take ..).symm]
  have s2 := same_upd (o := .lst ((ws.take 20).map V.str)) n2
  have e2 : upd H1 l2 (.lst ((ws.take 20).map V.str)) l2 = some (.lst ((ws.take 20).map V.str)) := upd_same
  generalize upd H1 l2 (.lst ((ws.take 20).map V.str)) = H2 at s2 e2 ⊢
  walk_at "rd"
  refine ⟨l2, ws.take 20, rfl, SqL.of e2, by rw [List.length_take]; omega, by decide, fun w h => ⟨Nat.le_trans (ht.wd w (List.mem_of_mem_take h)).2.1 (by decide), (ht.wd w (List.mem_of_mem_take h)).2.2⟩, fun t r ep H3 T v l3 s3 n3 R => ?_, fun ep H3 s3 => ?_⟩
  · walk_at "rd"
    refine br (fun z => nomatch z) (fun _ => ?_)
    walk_at "rd"
    refine s_ixT R.pr rfl ?_
    walk_at "rd"
    refine ⟨sz rfl, fun l4 n4 => ?_⟩
    have s4 := same_upd (o := .lst []) n4
    have hwr : ∀ w ∈ r, PyData.strOk w = true := fun w h => (ht.wd w (List.mem_of_mem_take (by rw [(parse_spec _ _ _ _ ep).2]; exact List.mem_append_right _ h))).2.2
    refine s_neD (.lst (SqL.of (s4 _ _ R.rs)) (dpStrs r)) (.lst (SqL.of upd_same) .nil) (shaped_strs hwr) rfl ?_
    walk_at "rd"
    have s04 := s1.trans (s2.trans (s3.trans s4))
    cases r with
    | cons x r =>
      walk_at "rd"
      refine qn ?_ _ s04
      unfold readW
      rw [ep]
      exact if_neg fun z => nomatch z.1
    | nil =>
      refine iteF ?_
      walk_at "rd"
      refine s_lenL (SqL.of (s4 _ _ (s3 _ _ (s2 _ _ e1)))) ?_
      walk_at "rd"
      rw [List.length_map]
      refine br (fun c => ?_) (fun c => ?_)
      · walk_at "rd"
        refine qn ?_ _ s04
        unfold readW
        rw [ep]
        exact if_neg fun z => by have := z.2; omega
      · walk_at "rd"
        refine s_ixT (Same.sqT s4 R.pr) rfl ?_
        refine qs t ?_ _ _ s04 (Dp.same s4 _ _ R.tr)
        unfold readW
        rw [ep]
        exact if_pos ⟨rfl, by omega⟩
  · walk_at "rd"
    refine br (fun _ => ?_) (fun z => absurd rfl z)
    refine iteT ?_
    walk_at "rd"
    refine qn ?_ _ (s1.trans (s2.trans s3))
    unfold readW
    rw [ep]
theorem ok_take (D : DefAt K mg "_law_take" s_law_take ["_law_draw", "_law_sides"]) (B : Blt mg) : OkF P w K mg base CX0 1 "_law_take" ["_law_draw", "_law_sides"] spTake := by
  refine D.ok sc_law_take len2 (fun f cdv A outer s H vs Q E hr h => ?_)
  obtain ⟨_, _, rfl, p, a, n, rfl, rfl, n0, n1, ⟨ns, c, h, t, e, hS, ap, hl, c0, h0, t0, t1⟩, q⟩ := h
  refine ⟨_, (pss_cons (ps_if (PW.pt (pw_and (pt_cmpR o_lt (pe_ix (u_ix (K := K)) (pv 0) pe_int (fun _ _ => rfl)) (pv 1) (nomark _)) (pw_and1 (pt_cmpR o_lt (pe_ix (u_ix (K := K)) (pv 0) pe_int (fun _ _ => rfl)) (pe_callB (u_len (K := K)) (by rfl) B.len (by decide +kernel) (pa_cons (pe_ix (u_ix (K := K)) (pv 0) pe_int (fun _ _ => rfl)) pa_nil)) (nomark _))))) (pss_cons (ps_set (i := 2) sc_law_take.nd rfl (by first | exact .inl rfl | exact .inr rfl) (pe_ix (u_ix (K := K)) (pe_ix (u_ix (K := K)) (pv 0) pe_int (fun _ _ => rfl)) (pe_ix (u_ix (K := K)) (pv 0) pe_int (fun _ _ => rfl)) (fun _ _ => rfl)))
    (pss_cons (ps_asg (pe_op (o_add (K := K)) (pe_ix (u_ix (K := K)) (pv 0) pe_int (fun _ _ => rfl)) pe_int) (pg_sub (pv 0) pe_int set_list))
    (pss_cons (ps_asg pe_int (pg_sub (pv 0) pe_int set_list))
    (pss_one (ps_if (pt_cmpR o_ge (pe_callB call_abs (by rfl) B.abs (by decide +kernel) (pa_cons (pv 2) pa_nil)) (pe_op o_pow pe_int pe_int) (nomark _)) (pss_one (ps_asg (pe_callB call_abs (by rfl) B.abs (by decide +kernel) (pa_cons (pv 2) pa_nil)) (pg_sub (pv 0) pe_int set_list))) (pss_one (ps_asg (pe_op o_mod (pe_op (o_add (K := K)) (pe_op (o_add (K := K)) (pe_op o_mul (pe_ix (u_ix (K := K)) (pv 0) pe_int (fun _ _ => rfl)) pe_int) (pe_op o_mul (pe_op o_mod (pv 2) pe_int) pe_int)) pe_int) pe_int) (pg_sub (pv 0) pe_int set_list)))))))) pss_nil)
    (pss_cons (ps_if (pt_cmpR o_ge (pe_ix (u_ix (K := K)) (pv 0) pe_int (fun _ _ => rfl)) (pv 1) (nomark _)) (pss_cons (ps_set (i := 3) sc_law_take.nd rfl (by first | exact .inl rfl | exact .inr rfl) (pe_op o_mod (pe_ix (u_ix (K := K)) (pv 0) pe_int (fun _ _ => rfl)) (pv 1)))
    (pss_cons (ps_asg (pe_op o_div (pe_ix (u_ix (K := K)) (pv 0) pe_int (fun _ _ => rfl)) (pv 1)) (pg_sub (pv 0) pe_int set_list))
    (pss_one (ps_ret (pv 3))))) pss_nil)
    (pss_cons (ps_asg (pe_op o_mod (pe_op (o_add (K := K)) (pe_op (o_add (K := K)) (pe_op o_mul (pe_op o_mod (pe_op o_mul (pe_ix (u_ix (K := K)) (pv 0) pe_int (fun _ _ => rfl)) (pe_ix (u_ix (K := K)) (pv 0) pe_int (fun _ _ => rfl))) pe_int) pe_int) (pe_op o_mul (pe_ix (u_ix (K := K)) (pv 0) pe_int (fun _ _ => rfl)) pe_int)) pe_int) pe_int) (pg_sub (pv 0) pe_int set_list))
    (pss_one (ps_ret (pe_op o_mod (pe_op (o_add (K := K)) (pe_op o_div (pe_ix (u_ix (K := K)) (pv 0) pe_int (fun _ _ => rfl)) pe_int) (pe_op o_mul (pe_op o_mod (pe_ix (u_ix (K := K)) (pv 0) pe_int (fun _ _ => rfl)) pe_int) pe_int)) (pv 1))))))), ?_⟩
  refine s_start (σ' := [some (.ref p), some (.int n), none, none]) rfl ?_
  refine s_seqJ (fun σ' H' => ∃ x c h t, σ' = [some (.ref p), some (.int n), x, none] ∧ H' p = some (.lst [.ref a, .int c, .int h, .int t]) ∧ Keep p H H' ∧ 0 ≤ c ∧ 0 ≤ h ∧ 0 ≤ t ∧ t < 2147483647) (fun σ' H' hJ => ?_) (fun nx J => ?_)
  · obtain ⟨x, c, h, t, rfl, e, kp, c0, h0, t0, t1⟩ := hJ
    have fin : ∀ H'' c h t r, H'' p = some (.lst [.ref a, .int c, .int h, .int t]) → Keep p H' H'' → 0 ≤ c → 0 ≤ h → 0 ≤ t → t < 2147483647 → 0 ≤ r → r < n → Q (.int r) H'' := fun H'' c h t r e2 k2 a1 a2 a3 a4 r0 r1 =>
      q H'' r (kp.trans k2) ⟨ns, c, h, t, e2, (kp.trans k2) _ _ ap hS, ap, hl, a1, a2, a3, a4⟩ r0 r1
    walk_at "rd"
    refine s_ixL (SqL.of e) rfl ?_
    walk_at "rd"
    refine br (fun b1 => ?_) (fun b1 => ?_)
    · walk_at "rd"
      refine s_ixL (SqL.of e) rfl ?_
      walk_at "rd"
      refine s_mod (by omega) ?_
      walk_at "rd"
      refine s_ixL (SqL.of e) rfl ?_
      walk_at "rd"
      refine s_div ⟨by omega, by omega⟩ ?_
      walk_at "rd"
      refine s_setL e rfl ?_
      walk_at "rd"
      exact fin _ c (h.fdiv n) t _ upd_same Keep.upd c0 (Int.fdiv_nonneg h0 (by omega)) t0 t1 (Int.fmod_nonneg_of_pos _ n0) (Int.fmod_lt_of_pos _ n0)
    · walk_at "rd"
      refine s_ixL (SqL.of e) rfl ?_
      walk_at "rd"
      refine s_ixL (SqL.of e) rfl ?_
      refine s_mul (.inl ⟨by omega, by omega⟩) ?_
      walk_at "rd"
      refine s_mod (by decide) ?_
      walk_at "rd"
      have f1 := Int.fmod_nonneg_of_pos (t * t) (show (0 : Int) < 2147483629 by decide)
      have f2 := Int.fmod_lt_of_pos (t * t) (show (0 : Int) < 2147483629 by decide)
      refine s_mul (.inl ⟨by omega, by omega⟩) ?_
      walk_at "rd"
      refine s_ixL (SqL.of e) rfl ?_
      walk_at "rd"
      refine s_mul (.inl ⟨by omega, by omega⟩) ?_
      walk_at "rd"
      refine s_mod (by decide) ?_
      walk_at "rd"
      refine s_setL e rfl ?_
      walk_at "rd"
      have f3 := Int.fmod_nonneg_of_pos ((t * t).fmod 2147483629 * 5 + t * 16811 + 2531011) (show (0 : Int) < 2147483647 by decide)
      have f4 := Int.fmod_lt_of_pos ((t * t).fmod 2147483629 * 5 + t * 16811 + 2531011) (show (0 : Int) < 2147483647 by decide)
      generalize ((t * t).fmod 2147483629 * 5 + t * 16811 + 2531011).fmod 2147483647 = t' at f3 f4 ⊢
      refine s_ixL (SqL.of upd_same) rfl ?_
      walk_at "rd"
      refine s_div ⟨by decide, by decide⟩ ?_
      walk_at "rd"
      refine s_ixL (SqL.of upd_same) rfl ?_
      walk_at "rd"
      refine s_mod (by decide) ?_
      walk_at "rd"
      have f5 := Int.fmod_nonneg_of_pos t' (show (0 : Int) < 8191 by decide)
      have f6 := Int.fmod_lt_of_pos t' (show (0 : Int) < 8191 by decide)
      refine s_mul (.inl ⟨by omega, by omega⟩) ?_
      walk_at "rd"
      refine s_mod (by omega) ?_
      exact fin _ c h t' _ upd_same Keep.upd c0 h0 f3 f4 (Int.fmod_nonneg_of_pos _ n0) (Int.fmod_lt_of_pos _ n0)
  · have no := fun H' x c h t e1 e2 e3 e4 e5 e6 => J [some (.ref p), some (.int n), x, none] H' ⟨x, c, h, t, rfl, e1, e2, e3, e4, e5, e6⟩
    walk_at "rd"
    refine s_ixL (SqL.of e) rfl ?_
    walk_at "rd"
    refine br (fun b1 => ?_) (fun b1 => ?_)
    · walk_at "rd"
      refine s_ixL (SqL.of e) rfl ?_
      walk_at "rd"
      refine s_ixL (SqL.of e) rfl ?_
      walk_at "rd"
      refine s_lenL (SqL.of hS) ?_
      walk_at "rd"
      refine br (fun b2 => ?_) (fun b2 => ?_)
      · rw [List.length_map] at b2
        obtain ⟨cell, hc⟩ : ∃ z, ns[c.toNat]? = some z := ⟨_, List.getElem?_eq_getElem (show c.toNat < ns.length by omega)⟩
        have hc2 : atI (ns.map V.int) c = some (.int cell) := at_of (j := c.toNat) (by omega) (by rw [List.getElem?_map, hc]; rfl)
        walk_at "rd"
        refine s_ixL (SqL.of e) rfl ?_
        walk_at "rd"
        refine s_ixL (SqL.of e) rfl ?_
        refine s_ixL (SqL.of hS) hc2 ?_
        walk_at "rd"
        refine s_ixL (SqL.of e) rfl ?_
        walk_at "rd"
        refine s_setL e rfl ?_
        walk_at "rd"
        refine s_setL upd_same rfl ?_
        walk_at "rd"
        rw [upd_upd]
        refine s_pow ⟨by decide, by decide, by decide⟩ ?_
        walk_at "rd"
        refine br (fun b3 => ?_) (fun b3 => ?_)
        · walk_at "rd"
          refine s_setL upd_same rfl ?_
          walk_at "rd"
          rw [upd_upd]
          refine no _ _ (c + 1) (if cell < 0 then -cell else cell) t upd_same Keep.upd (by omega) ?_ t0 t1
          split <;> omega
        · walk_at "rd"
          refine s_ixL (SqL.of upd_same) rfl ?_
          walk_at "rd"
          refine s_mul (.inl ⟨by omega, by omega⟩) ?_
          walk_at "rd"
          refine s_mod (by decide) ?_
          walk_at "rd"
          refine s_mul (.inr ⟨by decide, by decide⟩) ?_
          walk_at "rd"
          refine s_mod (by decide) ?_
          walk_at "rd"
          refine s_setL upd_same rfl ?_
          walk_at "rd"
          rw [upd_upd]
          exact no _ _ (c + 1) 0 _ upd_same Keep.upd (by omega) (by omega) (Int.fmod_nonneg_of_pos _ (by decide)) (Int.fmod_lt_of_pos _ (by decide))
      · walk_at "rd"
        exact no _ _ c h t e (Keep.refl _ _) c0 h0 t0 t1
    · walk_at "rd"
      exact no _ _ c h t e (Keep.refl _ _) c0 h0 t0 t1
theorem ok_begin (D : DefAt K mg "_law_begin" s_law_begin ["_law_script"]) (B : Blt mg) : OkF P w K mg base CX0 1 "_law_begin" ["_law_script"] (spBegin K) := by
  refine D.ok sc_law_begin len1 (fun f cdv A outer s H vs Q E hr h => ?_)
  obtain ⟨_, rfl, a, ns, rfl, hS, hl, q⟩ := h
  refine ⟨_, (pss_one (ps_ret (pe_lst (pa_cons (pe_callTy (call_listU (K := K) rfl) (by rfl) B.list (by decide +kernel) (pa_cons (pe_slice (sl_u (K := K)) (pv 0) po_none (po_some pe_int)) pa_nil)) (pa_cons pe_int (pa_cons pe_int (pa_cons pe_int pa_nil))))))), ?_⟩
  refine s_start (σ' := [some (.ref a)]) rfl ?_
  walk_at "rd"
  obtain ⟨ms, em, lm⟩ : ∃ ms : List Int, cutV (ns.map V.int) none (some 63) = ms.map V.int ∧ ms.length ≤ 1000 := by
    refine ⟨(ns.drop (HT.sIx (ns.map V.int).length 0 none)).take (HT.sIx (ns.map V.int).length (ns.map V.int).length (some 63) - HT.sIx (ns.map V.int).length 0 none), ?_, ?_⟩
    · unfold cutV
      rw [List.map_take, List.map_drop]
    · rw [List.length_take, List.length_drop]
      omega
  refine s_slL hS fun l1 n1 => ?_
  rw [em]
  walk_at "rd"
  refine s_listL (.inl (SqL.of upd_same)) fun l2 n2 => ?_
  walk_at "rd"
  refine ⟨sz rfl, fun p n3 => ?_⟩
  walk_at "rd"
  have s1 := same_upd (o := .lst (ms.map V.int)) n1
  have s2 := same_upd (o := .lst (ms.map V.int)) n2
  have s3 := same_upd (o := .lst [.ref l2, .int 0, .int 0, .int 29]) n3
  refine q _ p l2 (s1.trans (s2.trans s3)) ((s1.trans s2).free n3) ⟨ms, 0, 0, 29, upd_same, s3 _ _ upd_same, ?_, lm, by decide, by decide, by decide, by decide⟩
  intro e
  rw [e, upd_same] at n3
  cases n3
theorem ok_one (D : DefAt K mg "_law_one" s_law_one ["_law_draw", "_law_row"]) (B : Blt mg) (G_law_take : OkF P w K mg base CX0 1 "_law_take" ["_law_draw", "_law_sides"] spTake) : OkF P w K mg base CX0 2 "_law_one" ["_law_draw", "_law_row"] (spOne K) := by
  refine D.ok sc_law_one len2 (fun f cdv A outer s H vs Q E hr h => ?_)
  obtain ⟨_, _, rfl, p, a, b, xs, rfl, rfl, ap, hS, h0, h1, d, q⟩ := h
  refine ⟨_, (pss_one (ps_ret (pe_ix (u_ix (K := K)) (pv 1) (u_call G_law_take (hr.mono (by omega)) pass0 (pa_cons (pv 0) (pa_cons (pe_callB (u_len (K := K)) (by rfl) B.len (by decide +kernel) (pa_cons (pv 1) pa_nil)) pa_nil))) (fun _ _ => rfl)))), ?_⟩
  refine s_start (σ' := [some (.ref p), some (.ref b)]) rfl ?_
  walk_at "rd"
  refine s_lenL hS ?_
  walk_at "rd"
  refine ⟨p, a, xs.length, rfl, rfl, by omega, by omega, d, fun H' r kp d' r0 r1 => ?_⟩
  obtain ⟨v, hv⟩ : ∃ v, xs[r.toNat]? = some v := ⟨_, List.getElem?_eq_getElem (show r.toNat < xs.length by omega)⟩
  refine s_ixL (kp.sqL ap hS) (at_of (j := r.toNat) (by omega) hv) ?_
  exact q H' v kp d' (List.mem_of_getElem? hv)
theorem ok_same (D : DefAt K mg "_law_same" s_law_same ["_law_found", "_law_due"]) (B : Blt mg) : ∀ n, OkF P w K mg base CX0 n "_law_same" ["_law_found", "_law_due"] (spSame K n) := by
  intro n
  induction n with
  | zero =>
    refine D.okNo fun vs H Q E h => ?_
    obtain ⟨_, _, _, d, _, _, z, _⟩ := h
    exact z
  | succ n G_law_same =>
  refine D.ok sc_law_same len2 (fun f cdv A outer s H vs Q E hr h => ?_)
  obtain ⟨x, y, rfl, d, hx, hy, hd, q⟩ := h
  refine ⟨_, (pss_cons (ps_if (u_truth (K := K) (pe_callB (u_isiT (K := K)) (by rfl) B.isinstance (by decide +kernel) (pa_cons (pv 1) (pa_cons (pe_tup (pa_cons (pe_bltn (v := .ty "list") (by rfl) B.list (by decide +kernel) rfl) (pa_cons (pe_bltn (v := .ty "tuple") (by rfl) B.tuple (by decide +kernel) rfl) pa_nil))) pa_nil)))) (pss_cons (ps_if (PW.pt (pw_or (pt_cmpR (o_ne (K := K) hr.units) (pe_callB (u_isi (K := K)) (by rfl) B.isinstance (by decide +kernel) (pa_cons (pv 0) (pa_cons (pe_bltn (v := .ty "list") (by rfl) B.list (by decide +kernel) rfl) pa_nil))) (pe_callB (u_isi (K := K)) (by rfl) B.isinstance (by decide +kernel) (pa_cons (pv 1) (pa_cons (pe_bltn (v := .ty "list") (by rfl) B.list (by decide +kernel) rfl) pa_nil))) (nomark _)) (pw_or1 (pt_not (u_truth (K := K) (pe_callB (u_isiT (K := K)) (by rfl) B.isinstance (by decide +kernel) (pa_cons (pv 0) (pa_cons (pe_tup (pa_cons (pe_bltn (v := .ty "list") (by rfl) B.list (by decide +kernel) rfl) (pa_cons (pe_bltn (v := .ty "tuple") (by rfl) B.tuple (by decide +kernel) rfl) pa_nil))) pa_nil)))))))) (pss_one (ps_ret pe_bl)) pss_nil)
    (pss_cons (ps_if (pt_cmpR (o_ne (K := K) hr.units) (pe_callB (u_len (K := K)) (by rfl) B.len (by decide +kernel) (pa_cons (pv 0) pa_nil)) (pe_callB (u_len (K := K)) (by rfl) B.len (by decide +kernel) (pa_cons (pv 1) pa_nil)) (nomark _)) (pss_one (ps_ret pe_bl)) pss_nil)
    (pss_one (ps_ret (pe_callB (u_all (K := K) rfl) (by rfl) B.all (by decide +kernel) (pa_cons (pe_lc (own := [("_law_one_here", 2), ("_law_other", 3)]) (g := (gTup K 2 (gCons (gName 2) (gCons (gName 3) gNil)))) (tt := tYes) rfl sc_law_same.nd (pi_zipA (by rfl) B.zip (pa_cons (pv 0) (pa_cons (pv 1) pa_nil))) (blkOk_by (N := ["_law_found", "_law_due", "_law_one_here", "_law_other"]) (sc := defScope s_law_same) (own := [("_law_one_here", 2), ("_law_other", 3)]) (by decide +kernel)) (fun _ _ _ _ _ => (u_tup (K := K) rfl (pgs_cons (pg_name (i := 2) sc_law_same.nd rfl (by first | exact .inl rfl | exact .inr rfl)) (pgs_cons (pg_name (i := 3) sc_law_same.nd rfl (by first | exact .inl rfl | exact .inr rfl)) pgs_nil)))) (fun _ _ _ _ _ => pts_nil) (fun _ _ _ _ _ => (u_call G_law_same (hr.mono (by omega)) pass0 (pa_cons (pv 2) (pa_cons (pv 3) pa_nil))))) pa_nil)))))) pss_nil)
    (pss_cons (ps_if (pt_cmpR o_is (pv 1) pe_non (nomark _)) (pss_one (ps_ret (pe_cmpR o_is (pv 0) pe_non (nomark _)))) pss_nil)
    (pss_cons (ps_if (pt_cmpR (o_ne (K := K) hr.units) (pe_callB (u_isi (K := K)) (by rfl) B.isinstance (by decide +kernel) (pa_cons (pv 0) (pa_cons (pe_bltn (v := .ty "bool") (by rfl) B.bool (by decide +kernel) rfl) pa_nil))) (pe_callB (u_isi (K := K)) (by rfl) B.isinstance (by decide +kernel) (pa_cons (pv 1) (pa_cons (pe_bltn (v := .ty "bool") (by rfl) B.bool (by decide +kernel) rfl) pa_nil))) (nomark _)) (pss_one (ps_ret pe_bl)) pss_nil)
    (pss_one (ps_ret (pe_and (pe_cmpR (o_eq (K := K) hr.units) (pe_callB (u_isi (K := K)) (by rfl) B.isinstance (by decide +kernel) (pa_cons (pv 0) (pa_cons (pe_bltn (v := .ty "str") (by rfl) B.str (by decide +kernel) rfl) pa_nil))) (pe_callB (u_isi (K := K)) (by rfl) B.isinstance (by decide +kernel) (pa_cons (pv 1) (pa_cons (pe_bltn (v := .ty "str") (by rfl) B.str (by decide +kernel) rfl) pa_nil))) (nomark _)) (pe_one (pe_cmpR (o_eq (K := K) hr.units) (pv 0) (pv 1) (nomark _))))))))), ?_⟩
  refine s_start (σ' := [some x, some y, none, none]) rfl ?_
  walk_at "rd"
  refine ⟨sz rfl, fun p1 n1 => ?_⟩
  walk_at "rd"
  have s1 := same_upd (o := .tup [.ty "list", .ty "tuple"]) n1
  have hx1 := Dp.same s1 d _ hx
  have hy1 := Dp.same s1 d _ hy
  refine s_isiLT hy1 upd_same ?_
  walk_at "rd"
  refine brB (fun b1 => ?_) (fun b1 => ?_)
  · walk_at "rd"
    refine s_isiL hx1 ?_
    walk_at "rd"
    refine s_isiL hy1 ?_
    refine s_ne rfl ?_
    walk_at "rd"
    refine brN (fun z => absurd rfl z) (fun _ => ?_)
    walk_at "rd"
    refine ⟨sz rfl, fun p2 n2 => ?_⟩
    walk_at "rd"
    have s2 := s1.trans (same_upd (o := .tup [.ty "list", .ty "tuple"]) n2)
    have hx2 := Dp.same s2 d _ hx
    have hy2 := Dp.same s2 d _ hy
    refine s_isiLT hx2 upd_same ?_
    rw [b1]
    walk_at "rd"
    refine iteF ?_
    walk_at "rd"
    cases d with
    | list ds =>
      obtain ⟨hn, hk⟩ := hd
      cases hx2 with
      | @lst ax xs _ hsx hax =>
      cases hy2 with
      | @lst ay ys _ hsy hay =>
      have lx := DpAll.length hax
      have ly := DpAll.length hay
      refine s_lenL hsx ?_
      walk_at "rd"
      refine s_lenL hsy ?_
      walk_at "rd"
      refine s_ne rfl ?_
      walk_at "rd"
      rw [lx, ly]
      refine brN (fun z => absurd rfl z) (fun _ => ?_)
      walk_at "rd"
      refine ⟨ax, ay, xs, ys, rfl, .inl ⟨hsx, hsy, ?_⟩⟩
      generalize upd (upd H p1 _) p2 _ = H1 at s2 hsx hsy hax hay
      refine lcB_of ds.length (fun D i acc H' => Same H1 H' ∧ acc = (List.replicate i true).map V.bl) (fun D hD => ⟨same_upd hD, rfl⟩)
        (fun D i acc H' _ hi hS => ⟨xs, ys, _, _, hS.1.seq hsx, hS.1.seq hsy, List.getElem?_eq_getElem (by omega), List.getElem?_eq_getElem (by omega)⟩)
        (fun D acc H' _ hS => ⟨xs, ys, hS.1.seq hsx, hS.1.seq hsy, .inl (by omega)⟩) ?_ ?_
      · rintro D i acc H' _ H'' hD hi ha hl ⟨sm, ea⟩ ⟨T, u, v, rfl, nT, rfl, hu, hv⟩
        have sT := same_upd (o := .tup [u, v]) nT
        obtain ⟨d1, e1, k1⟩ := DpAll.get hax (hu _ (sm.seq hsx))
        obtain ⟨d2, e2, k2⟩ := DpAll.get hay (hv _ (sm.seq hsy))
        rw [e1] at e2
        cases e2
        refine s_gTup (SqT.of upd_same) rfl (s_gCons (s_gName (s_gCons (s_gName (s_gNil ⟨rfl, ?_⟩)))))
        walk_at "rd"
        refine ⟨d1, Dp.same (sm.trans sT) _ _ k1, Dp.same (sm.trans sT) _ _ k2, hk d1 (List.mem_of_getElem? e1), fun H3 s3 => ?_⟩
        have aD := s3 _ _ (sT _ _ ha)
        refine LcPost.mk aD hl (by omega) ⟨fun b o e => ?_, ?_⟩
        · rw [upd_ne (ne_of_none e hD)]
          exact s3 _ _ (sT _ _ (sm _ _ e))
        · rw [ea, List.replicate_succ', List.map_append]
          rfl
      · rintro D acc H' hD ha hl ⟨sm, ea⟩
        walk_at "rd"
        refine ⟨D, _, rfl, SqL.of (ha.trans (by rw [ea])), ?_⟩
        have : (List.replicate ds.length true).all id = true := by simp
        rw [this]
        exact q _ (s2.trans sm)
    | tuple ds =>
      obtain ⟨hn, hk⟩ := hd
      cases hx2 with
      | @tup ax xs _ hsx hax =>
      cases hy2 with
      | @tup ay ys _ hsy hay =>
      have lx := DpAll.length hax
      have ly := DpAll.length hay
      refine s_lenT hsx ?_
      walk_at "rd"
      refine s_lenT hsy ?_
      walk_at "rd"
      refine s_ne rfl ?_
      walk_at "rd"
      rw [lx, ly]
      refine brN (fun z => absurd rfl z) (fun _ => ?_)
      walk_at "rd"
      refine ⟨ax, ay, xs, ys, rfl, .inr ⟨hsx, hsy, ?_⟩⟩
      generalize upd (upd H p1 _) p2 _ = H1 at s2 hsx hsy hax hay
      refine lcB_of ds.length (fun D i acc H' => Same H1 H' ∧ acc = (List.replicate i true).map V.bl) (fun D hD => ⟨same_upd hD, rfl⟩)
        (fun D i acc H' _ hi hS => ⟨xs, ys, _, _, Same.sqT hS.1 hsx, Same.sqT hS.1 hsy, List.getElem?_eq_getElem (by omega), List.getElem?_eq_getElem (by omega)⟩)
        (fun D acc H' _ hS => ⟨xs, ys, Same.sqT hS.1 hsx, Same.sqT hS.1 hsy, .inl (by omega)⟩) ?_ ?_
      · rintro D i acc H' _ H'' hD hi ha hl ⟨sm, ea⟩ ⟨T, u, v, rfl, nT, rfl, hu, hv⟩
        have sT := same_upd (o := .tup [u, v]) nT
        obtain ⟨d1, e1, k1⟩ := DpAll.get hax (hu _ (Same.sqT sm hsx))
        obtain ⟨d2, e2, k2⟩ := DpAll.get hay (hv _ (Same.sqT sm hsy))
        rw [e1] at e2
        cases e2
        refine s_gTup (SqT.of upd_same) rfl (s_gCons (s_gName (s_gCons (s_gName (s_gNil ⟨rfl, ?_⟩)))))
        walk_at "rd"
        refine ⟨d1, Dp.same (sm.trans sT) _ _ k1, Dp.same (sm.trans sT) _ _ k2, hk d1 (List.mem_of_getElem? e1), fun H3 s3 => ?_⟩
        have aD := s3 _ _ (sT _ _ ha)
        refine LcPost.mk aD hl (by omega) ⟨fun b o e => ?_, ?_⟩
        · rw [upd_ne (ne_of_none e hD)]
          exact s3 _ _ (sT _ _ (sm _ _ e))
        · rw [ea, List.replicate_succ', List.map_append]
          rfl
      · rintro D acc H' hD ha hl ⟨sm, ea⟩
        walk_at "rd"
        refine ⟨D, _, rfl, SqL.of (ha.trans (by rw [ea])), ?_⟩
        have : (List.replicate ds.length true).all id = true := by simp
        rw [this]
        exact q _ (s2.trans sm)
    | _ => exact absurd b1 (by simp [isSeq])
  · walk_at "rd"
    cases d with
    | list ds => exact absurd b1 (by simp [isSeq])
    | tuple ds => exact absurd b1 (by simp [isSeq])
    | dict ds => exact hd.elim
    | none =>
      cases hx1
      cases hy1
      refine br (fun _ => ?_) (fun z => absurd rfl z)
      walk_at "rd"
      exact q _ s1
    | bool b =>
      cases hx1
      cases hy1
      refine br (fun z => nomatch z) (fun _ => ?_)
      walk_at "rd"
      refine s_isiB (.bl b) ?_
      walk_at "rd"
      refine s_isiB (.bl b) ?_
      refine s_ne rfl ?_
      walk_at "rd"
      refine brN (fun z => absurd rfl z) (fun _ => ?_)
      walk_at "rd"
      refine s_isiS (.bl b) ?_
      walk_at "rd"
      refine s_isiS (.bl b) ?_
      refine s_eq rfl (s_bln (decide_eq_true rfl) (iteT ?_))
      walk_at "rd"
      refine s_eq rfl ?_
      rw [decide_eq_true rfl]
      exact q _ s1
    | int b =>
      cases hx1
      cases hy1
      refine br (fun z => nomatch z) (fun _ => ?_)
      walk_at "rd"
      refine s_isiB (.int b) ?_
      walk_at "rd"
      refine s_isiB (.int b) ?_
      refine s_ne rfl ?_
      walk_at "rd"
      refine brN (fun z => absurd rfl z) (fun _ => ?_)
      walk_at "rd"
      refine s_isiS (.int b) ?_
      walk_at "rd"
      refine s_isiS (.int b) ?_
      refine s_eq rfl (s_bln (decide_eq_true rfl) (iteT ?_))
      walk_at "rd"
      refine s_eq rfl ?_
      rw [decide_eq_true rfl]
      exact q _ s1
    | str b =>
      cases hx1
      cases hy1
      refine br (fun z => nomatch z) (fun _ => ?_)
      walk_at "rd"
      refine s_isiB (.str b) ?_
      walk_at "rd"
      refine s_isiB (.str b) ?_
      refine s_ne rfl ?_
      walk_at "rd"
      refine brN (fun z => absurd rfl z) (fun _ => ?_)
      walk_at "rd"
      refine s_isiS (.str b) ?_
      walk_at "rd"
      refine s_isiS (.str b) ?_
      refine s_eq rfl (s_bln (decide_eq_true rfl) (iteT ?_))
      walk_at "rd"
      refine s_eq rfl ?_
      rw [decide_eq_true rfl]
      exact q _ s1
theorem ok_ltree (D : DefAt K mg "_law_tree" s_law_tree ["_law_draw", "_law_names", "_law_deep"]) (B : Blt mg) (G_law_take : OkF P w K mg base CX0 1 "_law_take" ["_law_draw", "_law_sides"] spTake) (G_law_one : OkF P w K mg base CX0 2 "_law_one" ["_law_draw", "_law_row"] (spOne K)) :
    ∀ n, OkF P w K mg base CX0 (n + 3) "_law_tree" ["_law_draw", "_law_names", "_law_deep"] (spTree K n) := by
  intro n
  induction n with
  | zero =>
    refine D.okNo fun vs H Q E h => ?_
    obtain ⟨_, _, _, _, p, a, b, nms, k, _, _, _, z, _⟩ := h
    exact absurd z (Nat.not_lt_zero _)
  | succ n G_law_tree =>
  refine D.ok sc_law_tree len3 (fun f cdv A outer s H vs Q E hr h => ?_)
  obtain ⟨_, _, _, rfl, p, a, b, nms, k, rfl, rfl, rfl, hk, hn, bp, hS, n0, nl, nok, d, q⟩ := h
  refine ⟨_, (pss_cons (ps_set (i := 3) sc_law_tree.nd rfl (by first | exact .inl rfl | exact .inr rfl) (u_call G_law_take (hr.mono (by omega)) pass0 (pa_cons (pv 0) (pa_cons pe_int pa_nil))))
    (pss_cons (ps_if (PW.pt (pw_or (pt_cmpR o_lt (pv 2) pe_int (nomark _)) (pw_or1 (pt_cmpR o_lt (pv 3) pe_int (nomark _))))) (pss_cons (ps_if (pt_cmpR (o_eq (K := K) hr.units) (u_call G_law_take (hr.mono (by omega)) pass0 (pa_cons (pv 0) (pa_cons pe_int pa_nil))) pe_int (nomark _)) (pss_one (ps_ret (pe_tup (pa_cons pe_str (pa_cons (u_call G_law_one (hr.mono (by omega)) pass0 (pa_cons (pv 0) (pa_cons (pe_lst (pa_cons pe_int (pa_cons pe_int (pa_cons pe_int (pa_cons pe_int (pa_cons pe_int (pa_cons pe_int (pa_cons pe_int (pa_cons pe_int pa_nil))))))))) pa_nil))) pa_nil))))) pss_nil)
    (pss_one (ps_ret (pe_tup (pa_cons pe_str (pa_cons (u_call G_law_one (hr.mono (by omega)) pass0 (pa_cons (pv 0) (pa_cons (pv 1) pa_nil))) pa_nil)))))) pss_nil)
    (pss_cons (ps_if (pt_cmpR (o_eq (K := K) hr.units) (pv 3) pe_int (nomark _)) (pss_one (ps_ret (pe_tup (pa_cons (u_call G_law_one (hr.mono (by omega)) pass0 (pa_cons (pv 0) (pa_cons (pe_lst (pa_cons pe_str (pa_cons pe_str pa_nil))) pa_nil))) (pa_cons (u_call G_law_tree (hr.mono (by omega)) pass0 (pa_cons (pv 0) (pa_cons (pv 1) (pa_cons (pe_op o_sub (pv 2) pe_int) pa_nil)))) pa_nil))))) pss_nil)
    (pss_cons (ps_set (i := 4) sc_law_tree.nd rfl (by first | exact .inl rfl | exact .inr rfl) (u_call G_law_one (hr.mono (by omega)) pass0 (pa_cons (pv 0) (pa_cons (pe_lst (pa_cons pe_str (pa_cons pe_str (pa_cons pe_str (pa_cons pe_str (pa_cons pe_str (pa_cons pe_str (pa_cons pe_str (pa_cons pe_str (pa_cons pe_str (pa_cons pe_str (pa_cons pe_str pa_nil)))))))))))) pa_nil))))
    (pss_one (ps_ret (pe_tup (pa_cons (pv 4) (pa_cons (u_call G_law_tree (hr.mono (by omega)) pass0 (pa_cons (pv 0) (pa_cons (pv 1) (pa_cons (pe_op o_sub (pv 2) pe_int) pa_nil)))) (pa_cons (u_call G_law_tree (hr.mono (by omega)) pass0 (pa_cons (pv 0) (pa_cons (pv 1) (pa_cons (pe_op o_sub (pv 2) pe_int) pa_nil)))) pa_nil)))))))))), ?_⟩
  refine s_start (σ' := [some (.ref p), some (.ref b), some (.int (k : Nat)), none, none]) rfl ?_
  walk_at "rd"
  refine ⟨p, a, 8, rfl, rfl, by decide, by decide, d, fun H1 c k1 d1 c0 c1 => ?_⟩
  have hS1 := k1.sqL bp hS
  walk_at "rd"
  have pw : 1 ≤ 2 ^ (k + 1) := Nat.one_le_two_pow
  have leaf : ∀ (D : Ends), D.rt = Q → tSeq (tIfS (tTest (tOp (rEqU K) (tCall spTake [] E0 (tCons (tVar 0) (tCons (tC (.int 3)) tNil))) (tC (.int 0)))) (tRet (tTup (tCons (tC (.str "number")) (tCons (tCall (spOne K) [] E0 (tCons (tVar 0) (tCons (tLst (tCons (tC (.int 0)) (tCons (tC (.int 1)) (tCons (tC (.int 2)) (tCons (tC (.int 3)) (tCons (tC (.int 5)) (tCons (tC (.int 15)) (tCons (tC (.int 16)) (tCons (tC (.int 999999)) tNil))))))))) tNil))) tNil)))) tNext)
      (tRet (tTup (tCons (tC (.str "name")) (tCons (tCall (spOne K) [] E0 (tCons (tVar 0) (tCons (tVar 1) tNil))) tNil)))) D [some (.ref p), some (.ref b), some (.int (k : Nat)), some (.int c), none] H1 := by
    rintro ⟨nx, rt, bk, ct⟩ rfl
    walk_at "rd"
    refine ⟨p, a, 3, rfl, rfl, by decide, by decide, d1, fun H2 c2 k2 d2 _ _ => ?_⟩
    have hS2 := k2.sqL bp hS1
    refine s_eq rfl ?_
    walk_at "rd"
    refine br (fun _ => ?_) (fun _ => ?_)
    · walk_at "rd"
      refine ⟨sz rfl, fun l3 n3 => ?_⟩
      have s3 := same_upd (o := .lst (treeNums.map V.int)) n3
      walk_at "rd"
      refine ⟨p, a, l3, treeNums.map V.int, rfl, rfl, d2.ne n3, SqL.of upd_same, by decide, by decide, d2.same s3, fun H4 v k4 d4 hv => ?_⟩
      obtain ⟨z, hz, rfl⟩ := List.mem_map.mp hv
      obtain ⟨m, rfl, hm⟩ := treeNums_ok z hz
      walk_at "rd"
      refine ⟨sz rfl, fun l5 n5 => ?_⟩
      have s5 := same_upd (o := .tup [.str "number", .int (m : Nat)]) n5
      refine q _ _ (.nu m) (k1.trans (k2.trans ((Same.keep s3).trans (k4.trans (Same.keep s5))))) (d4.same s5) (.tup (SqT.of ?_) (.cons (.str _) (.cons (.int _) .nil))) hm (Nat.zero_le _) ?_
      · rw [hid_get (by simpa using d4.ne n5)]
        exact upd_same
      · have : 2 ^ 1 ≤ 2 ^ (k + 1) := Nat.pow_le_pow_right (by decide) (by omega)
        exact this
    · walk_at "rd"
      refine ⟨p, a, b, nms.map V.str, rfl, rfl, bp, hS2, ?_, ?_, d2, fun H4 v k4 d4 hv => ?_⟩
      · rw [List.length_map]
        exact List.length_pos_iff.mpr n0
      · rw [List.length_map]
        omega
      obtain ⟨x, hx, rfl⟩ := List.mem_map.mp hv
      walk_at "rd"
      refine ⟨sz rfl, fun l5 n5 => ?_⟩
      have s5 := same_upd (o := .tup [.str "name", .str x]) n5
      refine q _ _ (.nm x) (k1.trans (k2.trans (k4.trans (Same.keep s5)))) (d4.same s5) (.tup (SqT.of ?_) (.cons (.str _) (.cons (.str _) .nil))) (nok x hx) (Nat.zero_le _) ?_
      · rw [hid_get (by simpa using d4.ne n5)]
        exact upd_same
      · have : 2 ^ 1 ≤ 2 ^ (k + 1) := Nat.pow_le_pow_right (by decide) (by omega)
        exact this
  refine br (fun b1 => ?_) (fun b1 => ?_)
  · refine iteT ?_
    exact leaf _ rfl
  have k0 : 0 < k := by omega
  walk_at "rd"
  refine br (fun b2 => ?_) (fun b2 => ?_)
  · exact leaf _ rfl
  walk_at "rd"
  refine s_eq rfl ?_
  walk_at "rd"
  have sub : ∀ H0 (QQ : VK), Draw H0 p a → SqL K H0 b (nms.map V.str) → (∀ H' v t, Keep p H0 H' → Draw H' p a → Dp K (hid [p] H') v (dTr t) → TrOk t → dep t ≤ k - 1 → (tw t).length + 1 ≤ 2 ^ k → QQ v H') → pTree K n (.ref p) (.ref b) (.int ((k : Nat) - 1 : Int)) H0 QQ E0 := fun H0 QQ d0 h0 hq =>
    ⟨p, a, b, nms, k - 1, rfl, rfl, congrArg V.int (by omega), by omega, by omega, bp, h0, n0, nl, nok, d0, fun H' v t e1 e2 e3 e4 e5 e6 => hq H' v t e1 e2 e3 e4 e5 (by rw [show k - 1 + 1 = k by omega] at e6; exact e6)⟩
  have e2 : 2 ^ (k + 1) = 2 ^ k + 2 ^ k := by rw [Nat.pow_succ]; omega
  have e1 : 1 ≤ 2 ^ k := Nat.one_le_two_pow
  refine br (fun b3 => ?_) (fun b3 => ?_)
  · walk_at "rd"
    refine ⟨sz rfl, fun l3 n3 => ?_⟩
    have s3 := same_upd (o := .lst (oneL.map V.str)) n3
    walk_at "rd"
    refine ⟨p, a, l3, oneL.map V.str, rfl, rfl, d1.ne n3, SqL.of upd_same, by decide, by decide, d1.same s3, fun H4 v k4 d4 hv => ?_⟩
    obtain ⟨x, hx, rfl⟩ := List.mem_map.mp hv
    walk_at "rd"
    refine sub _ _ d4 (k4.sqL bp (s3.seq hS1)) fun H5 v5 t k5 d5 hv ht hd hl => ?_
    walk_at "rd"
    refine ⟨sz rfl, fun l6 n6 => ?_⟩
    have s6 := same_upd (o := .tup [.str x, v5]) n6
    refine q _ _ (.one x t) (k1.trans ((Same.keep s3).trans (k4.trans (k5.trans (Same.keep s6))))) (d5.same s6) (.tup (SqT.of ?_) (.cons (.str _) (.cons (Dp.same (Same.hid s6) _ _ hv) .nil))) ⟨hx, ht⟩ ?_ ?_
    · rw [hid_get (by simpa using d5.ne n6)]
      exact upd_same
    · show dep t + 1 ≤ k
      omega
    · show (tw t).length + 1 + 1 ≤ 2 ^ (k + 1)
      omega
  · walk_at "rd"
    refine ⟨sz rfl, fun l3 n3 => ?_⟩
    have s3 := same_upd (o := .lst (treeSigns.map V.str)) n3
    walk_at "rd"
    refine ⟨p, a, l3, treeSigns.map V.str, rfl, rfl, d1.ne n3, SqL.of upd_same, by decide, by decide, d1.same s3, fun H4 v k4 d4 hv => ?_⟩
    obtain ⟨x, hx, rfl⟩ := List.mem_map.mp hv
    have hS4 := k4.sqL bp (s3.seq hS1)
    walk_at "rd"
    refine sub _ _ d4 hS4 fun H5 v5 t k5 d5 hv ht hd hl => ?_
    walk_at "rd"
    refine sub _ _ d5 (k5.sqL bp hS4) fun H6 v6 t2 k6 d6 hv2 ht2 hd2 hl2 => ?_
    walk_at "rd"
    refine ⟨sz rfl, fun l7 n7 => ?_⟩
    have s7 := same_upd (o := .tup [.str x, v5, v6]) n7
    refine q _ _ (.two x t t2) (k1.trans ((Same.keep s3).trans (k4.trans (k5.trans (k6.trans (Same.keep s7)))))) (d6.same s7) (.tup (SqT.of ?_) (.cons (.str _) (.cons (Dp.same ((Keep.hid k6 (by simp)).trans (Same.hid s7)) _ _ hv) (.cons (Dp.same (Same.hid s7) _ _ hv2) .nil)))) ⟨treeSigns_ok x hx, ht, ht2⟩ ?_ ?_
    · rw [hid_get (by simpa using d6.ne n7)]
      exact upd_same
    · show max (dep t) (dep t2) + 1 ≤ k
      omega
    · show (tw t ++ tw t2).length + 1 + 1 ≤ 2 ^ (k + 1)
      rw [List.length_append]
      omega
theorem ok_bentw (D : DefAt K mg "_law_bent_words" s_law_bent_words ["_law_draw", "_law_text_here"]) (B : Blt mg) (G_law_take : OkF P w K mg base CX0 1 "_law_take" ["_law_draw", "_law_sides"] spTake) (G_law_one : OkF P w K mg base CX0 2 "_law_one" ["_law_draw", "_law_row"] (spOne K)) :
    OkF P w K mg base CX0 3 "_law_bent_words" ["_law_draw", "_law_text_here"] spBentWords := by
  refine D.ok sc_law_bent_words len2 (fun f cdv A outer s H vs Q E hr h => ?_)
  obtain ⟨_, _, rfl, p, a, ws, m, rfl, rfl, ht, hm, d, q⟩ := h
  refine ⟨_, (pss_cons (ps_set (i := 2) sc_law_bent_words.nd rfl (by first | exact .inl rfl | exact .inr rfl) (pe_split (pv 1) pe_str))
    (pss_cons (ps_set (i := 3) sc_law_bent_words.nd rfl (by first | exact .inl rfl | exact .inr rfl) (pe_lst (pa_cons pe_str (pa_cons pe_str (pa_cons pe_str (pa_cons pe_str (pa_cons pe_str (pa_cons pe_str (pa_cons pe_str (pa_cons pe_str (pa_cons pe_str (pa_cons pe_str (pa_cons pe_str (pa_cons pe_str pa_nil))))))))))))))
    (pss_cons (ps_expr (u_bm (K := K) PySem.F.plainAttrs_list PySem.F.slot_list_extend PySem.F.type_list_extend mt_extend (pv 3) (pa_cons (pe_lst (pa_cons pe_str (pa_cons pe_str (pa_cons pe_str (pa_cons pe_str (pa_cons pe_str pa_nil)))))) pa_nil)))
    (pss_cons (ps_set (i := 4) sc_law_bent_words.nd rfl (by first | exact .inl rfl | exact .inr rfl) (u_call G_law_take (hr.mono (by omega)) pass0 (pa_cons (pv 0) (pa_cons (pe_callB (u_len (K := K)) (by rfl) B.len (by decide +kernel) (pa_cons (pv 2) pa_nil)) pa_nil))))
    (pss_cons (ps_set (i := 5) sc_law_bent_words.nd rfl (by first | exact .inl rfl | exact .inr rfl) (u_call G_law_take (hr.mono (by omega)) pass0 (pa_cons (pv 0) (pa_cons pe_int pa_nil))))
    (pss_cons (ps_if (pt_cmpR (o_eq (K := K) hr.units) (pv 5) pe_int (nomark _)) (pss_one (ps_asg (u_call G_law_one (hr.mono (by omega)) pass0 (pa_cons (pv 0) (pa_cons (pv 3) pa_nil))) (pg_sub (pv 2) (pv 4) set_list))) pss_nil)
    (pss_cons (ps_if (pt_cmpR (o_eq (K := K) hr.units) (pv 5) pe_int (nomark _)) (pss_one (ps_expr (u_bm (K := K) PySem.F.plainAttrs_list PySem.F.slot_list_insert PySem.F.type_list_insert mt_insert (pv 2) (pa_cons (pv 4) (pa_cons (u_call G_law_one (hr.mono (by omega)) pass0 (pa_cons (pv 0) (pa_cons (pv 3) pa_nil))) pa_nil))))) pss_nil)
    (pss_cons (ps_if (pt_cmpR (o_eq (K := K) hr.units) (pv 5) pe_int (nomark _)) (pss_one (ps_expr (u_bm (K := K) PySem.F.plainAttrs_list PySem.F.slot_list_pop PySem.F.type_list_pop mt_popAt (pv 2) (pa_cons (pv 4) pa_nil)))) pss_nil)
    (pss_cons (ps_if (pt_cmpR (o_eq (K := K) hr.units) (pv 5) pe_int (nomark _)) (pss_one (ps_set (i := 2) sc_law_bent_words.nd rfl (by first | exact .inl rfl | exact .inr rfl) (pe_op (o_add (K := K)) (pv 2) (pe_slice (sl_u (K := K)) (pv 2) (po_some (pv 4)) po_none)))) pss_nil)
    (pss_one (ps_ret (u_join (K := K) pe_str (pv 2))))))))))))), ?_⟩
  refine s_start (σ' := [some (.ref p), some (.str (Txt.join blankS ws)), none, none, none, none]) rfl ?_
  walk_at "rd"
  have hl := ht.len
  have hle := ht.le
  have hl0 : 0 < ws.length := List.length_pos_iff.mpr ht.ne
  refine ⟨_, _, rfl, rfl, rfl, by rw [sizeLine_eq]; omega, fun l nl => ?_⟩
  rw [show Txt.split (Txt.join blankS ws) (Str.ofString " ") = ws from split_blank ht.ne fun w hw => (ht.wd w hw).1]
  have s1 := same_upd (o := .lst (ws.map V.str)) nl
  have e1 : upd H l (.lst (ws.map V.str)) l = some (.lst (ws.map V.str)) := upd_same
  have lp : l ≠ p := d.ne nl
  have la : l ≠ a := d.ne2 nl
  have d1 := d.same s1
  generalize upd H l (.lst (ws.map V.str)) = H1 at s1 e1 d1 ⊢
  walk_at "rd"
  rw [show ([.str "+", .str "not", .str "at", .str "x", .str "7", .str "", .str "07", .str "1000000", .str "div", .str "end", .str "main", .str "X"] : List V) = (oddL.take 12).map V.str from rfl]
  refine ⟨sz rfl, fun o no => ?_⟩
  have s2 := s1.trans (same_upd (o := .lst ((oddL.take 12).map V.str)) no)
  have e2 : upd H1 o (.lst ((oddL.take 12).map V.str)) o = some (.lst ((oddL.take 12).map V.str)) := upd_same
  have op : o ≠ p := d1.ne no
  have oa : o ≠ a := d1.ne2 no
  have ol : o ≠ l := (ne_of_none e1 no).symm
  have d2 := d1.same (same_upd (o := .lst ((oddL.take 12).map V.str)) no)
  have e12 := same_upd (o := .lst ((oddL.take 12).map V.str)) no _ _ e1
  have no0 : H o = none := s1.free no
  generalize upd H1 o (.lst ((oddL.take 12).map V.str)) = H2 at s2 e2 d2 e12 ⊢
  walk_at "rd"
  refine s_tyL (SqL.of e2) ?_
  walk_at "rd"
  rw [show ([.str "abcdefghi", .str "-1", .str "=", .str "a1", .str "\n"] : List V) = (oddL.drop 12).map V.str from rfl]
  refine ⟨sz rfl, fun o2 n3 => ?_⟩
  have s3 := same_upd (o := .lst ((oddL.drop 12).map V.str)) n3
  walk_at "rd"
  refine s_extend (s3 _ _ e2) upd_same (sz rfl) ?_
  rw [show (oddL.take 12).map V.str ++ (oddL.drop 12).map V.str = oddL.map V.str by rw [← List.map_append, List.take_append_drop]]
  have d4 := (d2.same s3).updN (o := .lst (oddL.map V.str)) op oa
  have e4 : upd (upd H2 o2 (.lst ((oddL.drop 12).map V.str))) o (.lst (oddL.map V.str)) o = some (.lst (oddL.map V.str)) := upd_same
  have e14 : upd (upd H2 o2 (.lst ((oddL.drop 12).map V.str))) o (.lst (oddL.map V.str)) l = some (.lst (ws.map V.str)) := by
    rw [upd_ne ol.symm]
    exact s3 _ _ e12
  have s4 : Same H (upd (upd H2 o2 (.lst ((oddL.drop 12).map V.str))) o (.lst (oddL.map V.str))) := fun b u e => by
    rw [upd_ne (ne_of_none e no0)]
    exact s3 _ _ (s2 _ _ e)
  generalize upd (upd H2 o2 (.lst ((oddL.drop 12).map V.str))) o (.lst (oddL.map V.str)) = H4 at d4 e4 e14 s4 ⊢
  walk_at "rd"
  refine s_lenL (SqL.of e14) ?_
  walk_at "rd"
  rw [List.length_map]
  refine ⟨p, a, ws.length, rfl, rfl, by omega, by omega, d4, fun H5 i k5 d5 i0 i1 => ?_⟩
  obtain ⟨i, rfl⟩ : ∃ j : Nat, i = j := ⟨i.toNat, by omega⟩
  have hi : i < ws.length := by omega
  walk_at "rd"
  refine ⟨p, a, 5, rfl, rfl, by decide, by decide, d5, fun H6 c k6 d6 c0 c1 => ?_⟩
  have e6 := k6 _ _ op (k5 _ _ op e4)
  have e16 := k6 _ _ lp (k5 _ _ lp e14)
  have kp6 : Keep p H H6 := (Same.keep s4).trans (k5.trans k6)
  have nl0 : H l = none := nl
  have hnew : ∀ (us : List Str), (∀ w ∈ us, w ∈ ws ∨ w ∈ oddL) → ∀ w ∈ us, 32 ∉ tl w ∧ w.length ≤ 10 ∧ PyData.strOk w = true := fun us h w hw => by
    rcases h w hw with z | z
    · exact ht.wd w z
    · exact oddL_ok w z
  -- the end
  have fin : ∀ (σ : St) H7 (l' : Addr) (us : List Str), Keep p H H7 → Draw H7 p a → H7 l' = some (.lst (us.map V.str)) → us.length ≤ 2 * m + 1 → (∀ w ∈ us, w ∈ ws ∨ w ∈ oddL) → σ[2]? = some (some (.ref l')) →
      tRet (tM1 (fun x xs H Q => ∃ a p, ∃ ys : List Str, x = .str a ∧ xs = [.ref p] ∧ (SqL K H p (ys.map V.str) ∨ SqT K H p (ys.map V.str)) ∧ (ys.map (·.length)).sum + ys.length * a.length ≤ 16777216 ∧ Q (.str (Txt.join a ys)) H) (tC (.str " ")) (tVar 2)) ⟨fun _ H' => Q .non H', Q, fun _ _ => False, fun _ _ => False⟩ σ H7 := by
    intro σ H7 l' us k7 d7 e7 ul uw hσ
    with_reducible refine s_ret ?_
    with_reducible refine s_m1 ?_
    with_reducible refine s_c ?_
    with_reducible refine s_isStr ?_
    refine s_var hσ ?_
    have hu := hnew us uw
    have h1 := sum_le 10 us fun w h => (hu w h).2.1
    refine ⟨_, l', us, rfl, rfl, .inl (SqL.of e7), by rw [show (Str.ofString " ").length = 1 from rfl]; omega, ?_⟩
    obtain ⟨us', t1, t2⟩ := TxOk.bent ul (by omega) hu
    rw [show Txt.join (Str.ofString " ") us = Txt.join blankS us' from t2.symm]
    exact q _ us' k7 d7 t1
  have upK : ∀ H7 u, Keep p H H7 → Keep p H (upd H7 l u) := fun H7 u k b o n e => by
    rw [upd_ne (ne_of_none e nl0)]
    exact k b o n e
  walk_at "rd"
  refine s_eq rfl ?_
  walk_at "rd"
  -- 0
  refine br (fun b0 => ?_) (fun b0 => ?_)
  · walk_at "rd"
    refine ⟨p, a, o, oddL.map V.str, rfl, rfl, op, SqL.of e6, by decide, by decide, d6, fun H7 v k7 d7 hv => ?_⟩
    obtain ⟨x, hx, rfl⟩ := List.mem_map.mp hv
    walk_at "rd"
    refine s_setL (k7 _ _ lp e16) (n := i) (by unfold ixN; rw [if_pos (by omega), List.length_map, if_pos (by omega)]; rfl) ?_
    rw [← List.map_set]
    have d8 := d7.updN (o := .lst ((ws.set i x).map V.str)) lp la
    have k8 := upK H7 (.lst ((ws.set i x).map V.str)) (kp6.trans k7)
    have e8 : upd H7 l (.lst ((ws.set i x).map V.str)) l = some (.lst ((ws.set i x).map V.str)) := upd_same
    generalize upd H7 l (.lst ((ws.set i x).map V.str)) = H8 at d8 k8 e8 ⊢
    obtain rfl := V.int.inj b0
    walk_at "rd"
    refine s_eq rfl ?_
    walk_at "rd"
    refine br (fun z => nomatch z) (fun _ => ?_)
    walk_at "rd"
    refine s_eq rfl ?_
    walk_at "rd"
    refine br (fun z => nomatch z) (fun _ => ?_)
    walk_at "rd"
    refine s_eq rfl ?_
    walk_at "rd"
    refine br (fun z => nomatch z) (fun _ => ?_)
    refine fin _ H8 l (ws.set i x) k8 d8 e8 (by rw [List.length_set]; omega) (fun w hw => ?_) (by rfl)
    rcases List.mem_or_eq_of_mem_set hw with z | rfl
    · exact .inl z
    · exact .inr hx
  walk_at "rd"
  refine s_eq rfl ?_
  walk_at "rd"
  refine br (fun b1 => ?_) (fun b1 => ?_)
  · walk_at "rd"
    refine s_tyL (SqL.of e16) ?_
    walk_at "rd"
    refine ⟨p, a, o, oddL.map V.str, rfl, rfl, op, SqL.of e6, by decide, by decide, d6, fun H7 v k7 d7 hv => ?_⟩
    obtain ⟨x, hx, rfl⟩ := List.mem_map.mp hv
    walk_at "rd"
    refine ⟨l, ws.map V.str, i, .str x, rfl, rfl, k7 _ _ lp e16, small1000 (by rw [List.length_map]; omega), by omega, by omega, ?_⟩
    rw [show (ws.map V.str).take (i : Int).toNat ++ [V.str x] ++ (ws.map V.str).drop (i : Int).toNat = (ws.take i ++ [x] ++ ws.drop i).map V.str by rw [Int.toNat_natCast, List.map_append, List.map_append, List.map_take, List.map_drop]; rfl]
    have d8 := d7.updN (o := .lst ((ws.take i ++ [x] ++ ws.drop i).map V.str)) lp la
    have k8 := upK H7 (.lst ((ws.take i ++ [x] ++ ws.drop i).map V.str)) (kp6.trans k7)
    have e8 : upd H7 l (.lst ((ws.take i ++ [x] ++ ws.drop i).map V.str)) l = some (.lst ((ws.take i ++ [x] ++ ws.drop i).map V.str)) := upd_same
    generalize upd H7 l (.lst ((ws.take i ++ [x] ++ ws.drop i).map V.str)) = H8 at d8 k8 e8 ⊢
    obtain rfl := V.int.inj b1
    walk_at "rd"
    refine s_eq rfl ?_
    walk_at "rd"
    refine br (fun z => nomatch z) (fun _ => ?_)
    walk_at "rd"
    refine s_eq rfl ?_
    walk_at "rd"
    refine br (fun z => nomatch z) (fun _ => ?_)
    refine fin _ H8 l (ws.take i ++ [x] ++ ws.drop i) k8 d8 e8 (by rw [List.length_append, List.length_append, List.length_take, List.length_drop, List.length_singleton]; omega) (fun w hw => ?_) (by rfl)
    rcases List.mem_append.mp hw with z | z
    · rcases List.mem_append.mp z with z | z
      · exact .inl (List.mem_of_mem_take z)
      · rw [List.mem_singleton.mp z]
        exact .inr hx
    · exact .inl (List.mem_of_mem_drop z)
  walk_at "rd"
  refine s_eq rfl ?_
  walk_at "rd"
  refine br (fun b2 => ?_) (fun b2 => ?_)
  · walk_at "rd"
    refine s_tyL (SqL.of e16) ?_
    walk_at "rd"
    obtain ⟨x, hx⟩ : ∃ x, (ws.map V.str)[i]? = some x := ⟨_, List.getElem?_eq_getElem (by rw [List.length_map]; exact hi)⟩
    refine ⟨l, ws.map V.str, i, i, x, rfl, rfl, e16, by omega, by omega, ?_, hx, ?_⟩
    · unfold seqIndex?
      rw [List.length_map]
      simp
      omega
    rw [show (ws.map V.str).eraseIdx i = (ws.eraseIdx i).map V.str from (eraseIdx_map' ws i).symm]
    have d8 := d6.updN (o := .lst ((ws.eraseIdx i).map V.str)) lp la
    have k8 := upK H6 (.lst ((ws.eraseIdx i).map V.str)) kp6
    have e8 : upd H6 l (.lst ((ws.eraseIdx i).map V.str)) l = some (.lst ((ws.eraseIdx i).map V.str)) := upd_same
    generalize upd H6 l (.lst ((ws.eraseIdx i).map V.str)) = H8 at d8 k8 e8 ⊢
    obtain rfl := V.int.inj b2
    walk_at "rd"
    refine s_eq rfl ?_
    walk_at "rd"
    refine br (fun z => nomatch z) (fun _ => ?_)
    exact fin _ H8 l (ws.eraseIdx i) k8 d8 e8 (by have := List.length_eraseIdx_le ws i; omega) (fun w hw => .inl (List.mem_of_mem_eraseIdx hw)) (by rfl)
  walk_at "rd"
  refine s_eq rfl ?_
  walk_at "rd"
  refine br (fun b3 => ?_) (fun b3 => ?_)
  · walk_at "rd"
    refine s_slL (SqL.of e16) fun l7 n7 => ?_
    rw [show cutV (ws.map V.str) (some (i : Nat)) none = (ws.drop i).map V.str from (cutV_drop (ws.map V.str) i).trans (List.map_drop ..).symm]
    have s7 := same_upd (o := .lst ((ws.drop i).map V.str)) n7
    refine s_addL (s7 _ _ e16) upd_same (sz_of (by rw [List.length_map, List.length_map, List.length_drop]; omega)) fun l8 n8 => ?_
    rw [← List.map_append]
    have s8 := same_upd (o := .lst ((ws ++ ws.drop i).map V.str)) n8
    with_reducible refine s_gName ?_
    with_reducible refine s_nx ?_
    refine fin _ _ l8 (ws ++ ws.drop i) (kp6.trans (Same.keep (s7.trans s8))) (d6.same (s7.trans s8)) upd_same (by rw [List.length_append, List.length_drop]; omega) (fun w hw => ?_) (by rfl)
    rcases List.mem_append.mp hw with z | z
    · exact .inl z
    · exact .inl (List.mem_of_mem_drop z)
  · exact fin _ H6 l ws kp6 d6 e16 (by omega) (fun w hw => .inl hw) (by rfl)
end
end L2.U
namespace L2.U
open PySem PySem.Spec PyProof.Rows RZ TL
section
variable {P : Program} {w : World} {K : PySem.W.Frag} {mg : Str → Option Value} {base : Heap}
local macro_rules | `(tactic| walk_at "rd1") => `(tactic| first
  | with_reducible refine s_var (by with_unfolding_all exact rfl) ?_
  | with_reducible refine s_c ?_ | with_reducible refine s_op ?_ | with_reducible refine s_cons ?_ | with_reducible refine s_nil ?_
  | with_reducible refine s_nx ?_ | with_reducible refine s_rt ?_ | with_reducible refine s_seq ?_ | with_reducible refine s_test ?_ | with_reducible refine s_bl ?_
  | with_reducible refine s_add ?_ | with_reducible refine s_sub ?_ | with_reducible refine s_lt ?_ | with_reducible refine s_le ?_ | with_reducible refine s_ge ?_ | with_reducible refine s_gt ?_
  | with_reducible refine s_and ?_ | with_reducible refine s_or ?_ | with_reducible refine s_not ?_ | with_reducible refine s_cb ?_ | with_reducible refine s_ret ?_ | with_reducible refine s_ifS ?_ | with_reducible refine s_if ?_
  | with_reducible refine s_asg ?_ | with_reducible refine s_gName ?_ | with_reducible refine s_gSub ?_ | with_reducible refine s_drop ?_ | with_reducible refine s_next ?_
  | with_reducible refine s_abs ?_ | with_reducible refine s_call ?_ | with_reducible refine s_callD ?_ | with_reducible refine s_sp2d ?_ | with_reducible refine s_sp3d ?_ | with_reducible refine s_strS ?_ | with_reducible refine s_intI ?_ | with_reducible refine s_intB ?_ | with_reducible refine s_sp1 ?_ | with_reducible refine s_sp2 ?_ | with_reducible refine s_sp3 ?_
  | with_reducible refine s_tup ?_ | with_reducible refine s_lst ?_ | with_reducible refine s_sl ?_ | with_reducible refine s_noPart ?_ | with_reducible refine s_part ?_ | with_reducible refine s_partI ?_
  | with_reducible refine s_tr ?_ | with_reducible refine s_truB ?_ | with_reducible refine s_lc ?_ | with_reducible refine s_iStr ?_ | with_reducible refine s_str ?_ | with_reducible refine s_iRng1 ?_ | with_reducible refine s_iList ?_ | with_reducible refine s_iTup ?_ | with_reducible refine s_iZipA ?_
  | with_reducible refine s_for ?_ | with_reducible refine s_sp4 ?_ | with_reducible refine s_sq4 ?_ | with_reducible refine s_try ?_ | with_reducible refine s_lstRg ?_ | with_reducible refine s_prg1 ?_ | with_reducible refine s_enum ?_ | with_reducible refine s_bm ?_ | with_reducible refine s_bm0 ?_ | with_reducible refine s_callS ?_ | with_reducible refine s_sq1 ?_ | with_reducible refine s_sq2 ?_ | with_reducible refine s_sq3 ?_ | with_reducible refine s_ipI ?_ | with_reducible refine s_aug (by with_unfolding_all exact rfl) ?_ | with_reducible refine s_yes ?_ | with_reducible refine s_m1 ?_ | with_reducible refine s_m0 ?_ | with_reducible refine s_isStr ?_ | with_reducible refine s_isN ?_ | with_reducible refine s_notN ?_ | with_reducible refine s_chain ?_ | with_reducible refine s_andV ?_ | with_reducible refine s_orV ?_ | with_reducible refine s_notV ?_ | with_reducible refine s_un ?_ | with_reducible refine s_neg ?_)
local macro_rules | `(tactic| walk_at "rd") => `(tactic| repeat walk_at "rd1")
theorem ok_ltold {c_BadReckoning c_HindError : Addr} (D : DefAt K mg "_law_told" s_law_told ["_law_text_here"]) (B : Blt mg) (X_BadReckoning : ExcAt K mg "BadReckoning" c_BadReckoning) (X_HindError : ExcAt K mg "HindError" c_HindError) (Y : ExcC K c_BadReckoning)
    (mBB : PySem.W.exmOne K (.ref c_BadReckoning) (.ref c_BadReckoning) = some true) (k1 : PySem.W.kitOne K (.ref c_BadReckoning) (.ref c_HindError) = some true) (k2 : PySem.W.kitOne K (.ref c_BadReckoning) (.type "ValueError") = some true)
    (G_read_reckoning : OkF P w K mg base (L2.CX P w) 25 "read_reckoning" ["text"] (spRead K c_BadReckoning)) : OkF P w K mg base CX0 26 "_law_told" ["_law_text_here"] (spTold K) := by
  refine D.ok sc_law_told len1 (fun f cdv A outer s H vs Q E hr h => ?_)
  obtain ⟨_, rfl, ws, m, rfl, ht, hm, qs, qn⟩ := h
  refine ⟨_, (pss_one (u_try_as (K := K) (i := 1) rfl rfl sc_law_told.nd rfl rfl (names_own X_BadReckoning) takes0 (fun W pn xe tk po => (pss_one (ps_ret (u_callS G_read_reckoning (hr.mono (by omega)) tk (pa_cons (pv 0) pa_nil))))) (fun a_ oe_ cls_ d_ pn_ hz_ hf_ => (pss_one (ps_ret (pe_lst (pa_cons pe_str (pa_cons (pe_callB (u_isE (K := K) hz_ hf_) (by rfl) B.isinstance (by decide +kernel) (pa_cons (pv 1) (pa_cons (pe_glob (v := .ref c_HindError) (by rfl) X_HindError.g rfl) pa_nil))) (pa_cons (pe_callB (u_isE (K := K) hz_ hf_) (by rfl) B.isinstance (by decide +kernel) (pa_cons (pv 1) (pa_cons (pe_bltn (v := .ty "ValueError") (by rfl) B.ValueError (by decide +kernel) rfl) pa_nil))) pa_nil))))))))), ?_⟩
  refine s_start (σ' := [some (.str (Txt.join blankS ws)), none]) rfl ?_
  walk_at "rd"
  refine ⟨ws, m, rfl, ht, hm, fun t e H1 v s1 hv => ?_, fun e H1 s1 => ?_⟩
  · exact qs t e H1 v s1 hv
  · refine s_as mBB fun a na => ?_
    walk_at "rd"
    refine s_isEr Y k1 ?_
    walk_at "rd"
    refine s_isEt Y k2 ?_
    walk_at "rd"
    refine ⟨sz rfl, fun l nl => ?_⟩
    exact qn e _ l (s1.trans (same_upd (o := .lst [.str "bad", .bl true, .bl true]) nl)) (SqL.of upd_same)
theorem dBad_ok : OkD 40 dBad := ⟨by simp, by
  intro d hd
  simp at hd
  rcases hd with rfl | rfl <;> trivial⟩
theorem ok_law {fa : Addr} {fd : FuncData} (F : Fun K "law" "law" s_law fa fd) (B : Blt mg) (G_law_begin : OkF P w K mg base CX0 1 "_law_begin" ["_law_script"] (spBegin K)) (G_law_take : OkF P w K mg base CX0 1 "_law_take" ["_law_draw", "_law_sides"] spTake)
    (G_law_same : OkF P w K mg base CX0 40 "_law_same" ["_law_found", "_law_due"] (spSame K 40)) (G_law_tree : OkF P w K mg base CX0 8 "_law_tree" ["_law_draw", "_law_names", "_law_deep"] (spTree K 5)) (G_law_text : OkF P w K mg base CX0 31 "_law_text" ["_law_tree_here"] (spText K 30))
    (G_reckoning_text : OkF P w K mg base CX0 31 "reckoning_text" ["tree"] (spText K 30)) (G_law_bent_words : OkF P w K mg base CX0 3 "_law_bent_words" ["_law_draw", "_law_text_here"] spBentWords) (G_law_read : OkF P w K mg base CX0 23 "_law_read" ["_law_text_here"] (spLread K))
    (G_law_told : OkF P w K mg base CX0 26 "_law_told" ["_law_text_here"] (spTold K)) :
    FnOk P w K mg base CX0 41 fa fd ["_law_script"] (spLaw K) := by
  refine F.ok sc_law len1 (fun cdv A outer s H vs Q E hr h => ?_)
  obtain ⟨_, rfl, b, ns, rfl, hS, hl, q⟩ := h
  refine ⟨_, (pss_cons (ps_set (i := 1) sc_law.nd rfl (by first | exact .inl rfl | exact .inr rfl) (u_call G_law_begin (hr.mono (by omega)) pass0 (pa_cons (pv 0) pa_nil)))
    (pss_cons (ps_for PassesOwn.never (by rfl) (pi_range1 (by rfl) B.range (pa_cons pe_int pa_nil)) (pg_name (i := 2) sc_law.nd rfl (by first | exact .inl rfl | exact .inr rfl)) (pss_cons (ps_set (i := 3) sc_law.nd rfl (by first | exact .inl rfl | exact .inr rfl) (u_call G_law_text (hr.mono (by omega)) pass0 (pa_cons (u_call G_law_tree (hr.mono (by omega)) pass0 (pa_cons (pv 1) (pa_cons (pe_lst (pa_cons pe_str (pa_cons pe_str (pa_cons pe_str (pa_cons pe_str pa_nil))))) (pa_cons (pe_op (o_add (K := K)) pe_int (u_call G_law_take (hr.mono (by omega)) pass0 (pa_cons (pv 1) (pa_cons pe_int pa_nil)))) pa_nil)))) pa_nil)))
    (pss_cons (ps_for PassesOwn.never (by rfl) (pi_range1 (by rfl) B.range (pa_cons (u_call G_law_take (hr.mono (by omega)) pass0 (pa_cons (pv 1) (pa_cons pe_int pa_nil))) pa_nil)) (pg_name (i := 4) sc_law.nd rfl (by first | exact .inl rfl | exact .inr rfl)) (pss_one (ps_set (i := 3) sc_law.nd rfl (by first | exact .inl rfl | exact .inr rfl) (u_call G_law_bent_words (hr.mono (by omega)) pass0 (pa_cons (pv 1) (pa_cons (pv 3) pa_nil))))))
    (pss_cons (ps_set (i := 5) sc_law.nd rfl (by first | exact .inl rfl | exact .inr rfl) (u_call G_law_read (hr.mono (by omega)) pass0 (pa_cons (pv 3) pa_nil)))
    (pss_cons (ps_set (i := 6) sc_law.nd rfl (by first | exact .inl rfl | exact .inr rfl) (u_call G_law_told (hr.mono (by omega)) pass0 (pa_cons (pv 3) pa_nil)))
    (pss_cons (ps_if (pt_not (u_truth (K := K) (u_call G_law_same (hr.mono (by omega)) pass0 (pa_cons (pv 6) (pa_cons (pe_ifExp (pt_cmpR o_is (pv 5) pe_non (nomark _)) (pe_lst (pa_cons pe_str (pa_cons pe_bl (pa_cons pe_bl pa_nil)))) (pv 5)) pa_nil))))) (pss_one (ps_ret pe_bl)) pss_nil)
    (pss_one (ps_if (PW.pt (pw_and (pt_cmpR o_isNot (pv 5) pe_non (nomark _)) (pw_and1 (pt_cmpR (o_ne (K := K) hr.units) (u_call G_reckoning_text (hr.mono (by omega)) pass0 (pa_cons (pv 6) pa_nil)) (pv 3) (nomark _))))) (pss_one (ps_ret pe_bl)) pss_nil))))))))
    (pss_one (ps_ret (u_call G_law_same (hr.mono (by omega)) pass0 (pa_cons (u_call G_law_told (hr.mono (by omega)) pass0 (pa_cons pe_str pa_nil)) (pa_cons (pe_lst (pa_cons pe_str (pa_cons pe_bl (pa_cons pe_bl pa_nil)))) pa_nil))))))), ?_⟩
  refine s_start (σ' := [some (.ref b), none, none, none, none, none, none]) rfl ?_
  walk_at "rd"
  refine ⟨b, ns, rfl, hS, hl, fun H1 p a s1 n1 d1 => ?_⟩
  walk_at "rd"
  refine ⟨by decide, by decide, ?_⟩
  refine forB_range (n := 10) (fun i σ H' => ∃ x y z u v, σ = [some (.ref b), some (.ref p), x, y, z, u, v] ∧ Draw H' p a) ⟨none, none, none, none, none, rfl, d1⟩ ?_ ?_
  · rintro i σ H2 hi ⟨x, y, z, u, v, rfl, d2⟩
    walk_at "rd"
    refine ⟨sz rfl, fun l3 n3 => ?_⟩
    have s3 := same_upd (o := .lst (k02names.map V.str)) n3
    have e3 : upd H2 l3 (.lst (k02names.map V.str)) l3 = some (.lst (k02names.map V.str)) := upd_same
    have lp : l3 ≠ p := d2.ne n3
    have d3 := d2.same s3
    walk_at "rd"
    refine ⟨p, a, 4, rfl, rfl, by decide, by decide, d3, fun H4 c k4 d4 c0 c1 => ?_⟩
    walk_at "rd"
    refine ⟨p, a, l3, k02names, 1 + c.toNat, rfl, rfl, congrArg V.int (by omega), by omega, by decide, lp, SqL.of (k4 _ _ lp e3), by decide, by decide, by decide +kernel, d4, fun H5 v t k5 d5 hv ht hd hl => ?_⟩
    have hl31 : (tw t).length ≤ 64 := by
      have : 2 ^ (1 + c.toNat + 1) ≤ 2 ^ 5 := Nat.pow_le_pow_right (by decide) (by omega)
      omega
    walk_at "rd"
    refine ⟨t, Dp.same hid_same _ _ hv, by omega, ht, by omega, fun H6 s6 => ?_⟩
    walk_at "rd"
    have d6 := d5.same s6
    refine ⟨p, a, 3, rfl, rfl, by decide, by decide, d6, fun H7 m k7 d7 m0 m1 => ?_⟩
    walk_at "rd"
    refine ⟨by omega, by omega, ?_⟩
    refine forB_range (n := m.toNat) (fun j σ H' => ∃ (ws : List Str) (y u v : Option V) (kk : V), σ = [some (.ref b), some (.ref p), some kk, some (.str (Txt.join blankS ws)), y, u, v] ∧ Draw H' p a ∧ TxOk (65 * 2 ^ j - 1) ws) ⟨tw t, _, _, _, _, rfl, d7, TxOk.tw ht (by omega)⟩ ?_ ?_
    · rintro j σ H8 hj ⟨ws, y, u, v, kk, rfl, d8, tx⟩
      walk_at "rd"
      have hm : 65 * 2 ^ j - 1 ≤ 400 := by
        have : 2 ^ j ≤ 2 ^ 1 := Nat.pow_le_pow_right (by decide) (by omega)
        omega
      refine ⟨p, a, ws, 65 * 2 ^ j - 1, rfl, rfl, tx, hm, d8, fun H9 us k9 d9 tu => ?_⟩
      walk_at "rd"
      refine ⟨us, _, _, _, _, rfl, d9, ?_⟩
      rw [show 65 * 2 ^ (j + 1) - 1 = 2 * (65 * 2 ^ j - 1) + 1 by
        have : 1 ≤ 2 ^ j := Nat.one_le_two_pow
        rw [Nat.pow_succ]
        omega]
      exact tu
    · rintro σ H8 ⟨ws, y, u, v, kk, rfl, d8, tx⟩
      have hm : 65 * 2 ^ m.toNat - 1 ≤ 1000 := by
        have : 2 ^ m.toNat ≤ 2 ^ 2 := Nat.pow_le_pow_right (by decide) (by omega)
        omega
      walk_at "rd"
      refine ⟨ws, _, rfl, tx, hm, fun t2 er H9 v9 s9 hv9 => ?_, fun er H9 s9 => ?_⟩
      · walk_at "rd"
        refine ⟨ws, _, rfl, tx, hm, fun t3 er3 H10 v10 s10 hv10 => ?_, fun er3 => by rw [er] at er3; cases er3⟩
        rw [er] at er3
        cases er3
        obtain ⟨q1, q2, q3, q4⟩ := readW_some er
        have hdep := dep_tw t2
        walk_at "rd"
        have vn : v9 ≠ .non := fun e => by
          rw [e] at hv9
          obtain ⟨r, us, e2, _⟩ := dTr_ref hv9
          cases e2
        refine br (fun z => absurd z vn) (fun _ => ?_)
        walk_at "rd"
        refine ⟨dTr t2, hv10, Dp.same s10 _ _ hv9, okD_tr 40 t2 (by omega), fun H11 s11 => ?_⟩
        walk_at "rd"
        refine iteF ?_
        walk_at "rd"
        refine brN (fun _ => ?_) (fun z => absurd z vn)
        walk_at "rd"
        refine ⟨t2, Dp.same s11 _ _ hv10, by omega, q1, by omega, fun H12 s12 => ?_⟩
        walk_at "rd"
        refine s_ne rfl ?_
        walk_at "rd"
        rw [q2]
        refine brN (fun z => absurd rfl z) (fun _ => ?_)
        walk_at "rd"
        exact ⟨_, _, _, _, _, rfl, (d8.same (s9.trans (s10.trans s11))).same s12⟩
      · walk_at "rd"
        refine ⟨ws, _, rfl, tx, hm, fun t3 er3 => (by rw [er] at er3; cases er3), fun _ H10 l10 s10 e10 => ?_⟩
        walk_at "rd"
        refine br (fun _ => ?_) (fun z => absurd rfl z)
        walk_at "rd"
        refine ⟨sz rfl, fun l11 n11 => ?_⟩
        have s11 := same_upd (o := .lst [.str "bad", .bl true, .bl true]) n11
        walk_at "rd"
        refine ⟨dBad, .lst (s11.seq e10) (.cons (.str _) (.cons (.bl _) (.cons (.bl _) .nil))), .lst (SqL.of upd_same) (.cons (.str _) (.cons (.bl _) (.cons (.bl _) .nil))), dBad_ok, fun H12 s12 => ?_⟩
        walk_at "rd"
        refine iteF ?_
        walk_at "rd"
        refine brN (fun z => absurd rfl z) (fun _ => ?_)
        walk_at "rd"
        exact ⟨_, _, _, _, _, rfl, d8.same (s9.trans (s10.trans (s11.trans s12)))⟩
  · rintro σ H2 ⟨x, y, z, u, v, rfl, d2⟩
    walk_at "rd"
    refine ⟨[Str.ofString ""], 1, by decide +kernel, ⟨by simp, by simp, fun w h => by rw [List.mem_singleton.mp h]; decide +kernel⟩, by decide, fun t er => ?_, fun er H3 l3 s3 e3 => ?_⟩
    · exact absurd er (by rw [readW_blank List.mem_cons_self]; intro z; cases z)
    · walk_at "rd"
      refine ⟨sz rfl, fun l4 n4 => ?_⟩
      have s4 := same_upd (o := .lst [.str "bad", .bl true, .bl true]) n4
      walk_at "rd"
      refine ⟨dBad, .lst (s4.seq e3) (.cons (.str _) (.cons (.bl _) (.cons (.bl _) .nil))), .lst (SqL.of upd_same) (.cons (.str _) (.cons (.bl _) (.cons (.bl _) .nil))), dBad_ok, fun H5 s5 => ?_⟩
      exact q _
end
theorem all_mk {l : PySem.W.OpenLaw} {w : World} {K : PySem.W.Frag} {h : Heap} {mg : Str → Option Value} {fa f_is_name f_is_number f_words_of f_taken_off f_next_reckoning f_all_reckonings f_read_reckoning f_reckoning_text f_law_begin f_law_take f_law_same f_law_one f_law_tree f_law_text f_law_is_name f_law_is_figures f_law_first f_law_read f_law_bent_words f_law_told f_law : Addr} (X : K.In h) (G : h.Ns mainGlobals mg) (hfa : mg "law" = some (.ref fa))
    {od_is_name an_is_name : Option Addr} {sl_is_name : Array (Option Value)} {oc_is_name kV_is_name dc_is_name pm_is_name cd_is_name ct_is_name : Value}
    (a_is_name : PySem.W.nsIn K mainGlobals "is_name" = some (some (.ref f_is_name))) (l_is_name : K.lookup f_is_name = some ⟨oc_is_name, od_is_name, .func (PySem.W.fnOf "is_name" "is_name" (defArgs s_is_name) (defBody s_is_name) (defScope s_is_name) .none kV_is_name dc_is_name pm_is_name an_is_name cd_is_name ct_is_name), sl_is_name⟩) (c_is_name : PySem.W.codeIn K cd_is_name "is_name" = true) (k_is_name : PySem.W.keepIn K (.ref f_is_name) = true)
    {T_is_number : Addr} {td_is_number : Option Addr} {it_is_number : Array Value} {tm_is_number : Nat} {tu_is_number : Array (Option Value)}
    {od_is_number an_is_number : Option Addr} {sl_is_number : Array (Option Value)} {oc_is_number kV_is_number dc_is_number pm_is_number cd_is_number ct_is_number : Value}
    (a_is_number : PySem.W.nsIn K mainGlobals "is_number" = some (some (.ref f_is_number))) (l_is_number : K.lookup f_is_number = some ⟨oc_is_number, od_is_number, .func (PySem.W.fnOf "is_number" "is_number" (defArgs s_is_number) (defBody s_is_number) (defScope s_is_number) (.ref T_is_number) kV_is_number dc_is_number pm_is_number an_is_number cd_is_number ct_is_number), sl_is_number⟩) (c_is_number : PySem.W.codeIn K cd_is_number "is_number" = true) (k_is_number : PySem.W.keepIn K (.ref f_is_number) = true)
    (t_is_number : K.lookup T_is_number = some ⟨.type "tuple", td_is_number, .seq it_is_number tm_is_number, tu_is_number⟩) (v_is_number : Vals [.int 6] it_is_number.toList)
    {od_words_of an_words_of : Option Addr} {sl_words_of : Array (Option Value)} {oc_words_of kV_words_of dc_words_of pm_words_of cd_words_of ct_words_of : Value}
    (a_words_of : PySem.W.nsIn K mainGlobals "words_of" = some (some (.ref f_words_of))) (l_words_of : K.lookup f_words_of = some ⟨oc_words_of, od_words_of, .func (PySem.W.fnOf "words_of" "words_of" (defArgs s_words_of) (defBody s_words_of) (defScope s_words_of) .none kV_words_of dc_words_of pm_words_of an_words_of cd_words_of ct_words_of), sl_words_of⟩) (c_words_of : PySem.W.codeIn K cd_words_of "words_of" = true) (k_words_of : PySem.W.keepIn K (.ref f_words_of) = true)
    {od_taken_off an_taken_off : Option Addr} {sl_taken_off : Array (Option Value)} {oc_taken_off kV_taken_off dc_taken_off pm_taken_off cd_taken_off ct_taken_off : Value}
    (a_taken_off : PySem.W.nsIn K mainGlobals "taken_off" = some (some (.ref f_taken_off))) (l_taken_off : K.lookup f_taken_off = some ⟨oc_taken_off, od_taken_off, .func (PySem.W.fnOf "taken_off" "taken_off" (defArgs s_taken_off) (defBody s_taken_off) (defScope s_taken_off) .none kV_taken_off dc_taken_off pm_taken_off an_taken_off cd_taken_off ct_taken_off), sl_taken_off⟩) (c_taken_off : PySem.W.codeIn K cd_taken_off "taken_off" = true) (k_taken_off : PySem.W.keepIn K (.ref f_taken_off) = true)
    {od_next_reckoning an_next_reckoning : Option Addr} {sl_next_reckoning : Array (Option Value)} {oc_next_reckoning kV_next_reckoning dc_next_reckoning pm_next_reckoning cd_next_reckoning ct_next_reckoning : Value}
    (a_next_reckoning : PySem.W.nsIn K mainGlobals "next_reckoning" = some (some (.ref f_next_reckoning))) (l_next_reckoning : K.lookup f_next_reckoning = some ⟨oc_next_reckoning, od_next_reckoning, .func (PySem.W.fnOf "next_reckoning" "next_reckoning" (defArgs s_next_reckoning) (defBody s_next_reckoning) (defScope s_next_reckoning) .none kV_next_reckoning dc_next_reckoning pm_next_reckoning an_next_reckoning cd_next_reckoning ct_next_reckoning), sl_next_reckoning⟩) (c_next_reckoning : PySem.W.codeIn K cd_next_reckoning "next_reckoning" = true) (k_next_reckoning : PySem.W.keepIn K (.ref f_next_reckoning) = true)
    {od_all_reckonings an_all_reckonings : Option Addr} {sl_all_reckonings : Array (Option Value)} {oc_all_reckonings kV_all_reckonings dc_all_reckonings pm_all_reckonings cd_all_reckonings ct_all_reckonings : Value}
    (a_all_reckonings : PySem.W.nsIn K mainGlobals "all_reckonings" = some (some (.ref f_all_reckonings))) (l_all_reckonings : K.lookup f_all_reckonings = some ⟨oc_all_reckonings, od_all_reckonings, .func (PySem.W.fnOf "all_reckonings" "all_reckonings" (defArgs s_all_reckonings) (defBody s_all_reckonings) (defScope s_all_reckonings) .none kV_all_reckonings dc_all_reckonings pm_all_reckonings an_all_reckonings cd_all_reckonings ct_all_reckonings), sl_all_reckonings⟩) (c_all_reckonings : PySem.W.codeIn K cd_all_reckonings "all_reckonings" = true) (k_all_reckonings : PySem.W.keepIn K (.ref f_all_reckonings) = true)
    {od_read_reckoning an_read_reckoning : Option Addr} {sl_read_reckoning : Array (Option Value)} {oc_read_reckoning kV_read_reckoning dc_read_reckoning pm_read_reckoning cd_read_reckoning ct_read_reckoning : Value}
    (a_read_reckoning : PySem.W.nsIn K mainGlobals "read_reckoning" = some (some (.ref f_read_reckoning))) (l_read_reckoning : K.lookup f_read_reckoning = some ⟨oc_read_reckoning, od_read_reckoning, .func (PySem.W.fnOf "read_reckoning" "read_reckoning" (defArgs s_read_reckoning) (defBody s_read_reckoning) (defScope s_read_reckoning) .none kV_read_reckoning dc_read_reckoning pm_read_reckoning an_read_reckoning cd_read_reckoning ct_read_reckoning), sl_read_reckoning⟩) (c_read_reckoning : PySem.W.codeIn K cd_read_reckoning "read_reckoning" = true) (k_read_reckoning : PySem.W.keepIn K (.ref f_read_reckoning) = true)
    {od_reckoning_text an_reckoning_text : Option Addr} {sl_reckoning_text : Array (Option Value)} {oc_reckoning_text kV_reckoning_text dc_reckoning_text pm_reckoning_text cd_reckoning_text ct_reckoning_text : Value}
    (a_reckoning_text : PySem.W.nsIn K mainGlobals "reckoning_text" = some (some (.ref f_reckoning_text))) (l_reckoning_text : K.lookup f_reckoning_text = some ⟨oc_reckoning_text, od_reckoning_text, .func (PySem.W.fnOf "reckoning_text" "reckoning_text" (defArgs s_reckoning_text) (defBody s_reckoning_text) (defScope s_reckoning_text) .none kV_reckoning_text dc_reckoning_text pm_reckoning_text an_reckoning_text cd_reckoning_text ct_reckoning_text), sl_reckoning_text⟩) (c_reckoning_text : PySem.W.codeIn K cd_reckoning_text "reckoning_text" = true) (k_reckoning_text : PySem.W.keepIn K (.ref f_reckoning_text) = true)
    {od_law_begin an_law_begin : Option Addr} {sl_law_begin : Array (Option Value)} {oc_law_begin kV_law_begin dc_law_begin pm_law_begin cd_law_begin ct_law_begin : Value}
    (a_law_begin : PySem.W.nsIn K mainGlobals "_law_begin" = some (some (.ref f_law_begin))) (l_law_begin : K.lookup f_law_begin = some ⟨oc_law_begin, od_law_begin, .func (PySem.W.fnOf "_law_begin" "_law_begin" (defArgs s_law_begin) (defBody s_law_begin) (defScope s_law_begin) .none kV_law_begin dc_law_begin pm_law_begin an_law_begin cd_law_begin ct_law_begin), sl_law_begin⟩) (c_law_begin : PySem.W.codeIn K cd_law_begin "_law_begin" = true) (k_law_begin : PySem.W.keepIn K (.ref f_law_begin) = true)
    {od_law_take an_law_take : Option Addr} {sl_law_take : Array (Option Value)} {oc_law_take kV_law_take dc_law_take pm_law_take cd_law_take ct_law_take : Value}
    (a_law_take : PySem.W.nsIn K mainGlobals "_law_take" = some (some (.ref f_law_take))) (l_law_take : K.lookup f_law_take = some ⟨oc_law_take, od_law_take, .func (PySem.W.fnOf "_law_take" "_law_take" (defArgs s_law_take) (defBody s_law_take) (defScope s_law_take) .none kV_law_take dc_law_take pm_law_take an_law_take cd_law_take ct_law_take), sl_law_take⟩) (c_law_take : PySem.W.codeIn K cd_law_take "_law_take" = true) (k_law_take : PySem.W.keepIn K (.ref f_law_take) = true)
    {od_law_same an_law_same : Option Addr} {sl_law_same : Array (Option Value)} {oc_law_same kV_law_same dc_law_same pm_law_same cd_law_same ct_law_same : Value}
    (a_law_same : PySem.W.nsIn K mainGlobals "_law_same" = some (some (.ref f_law_same))) (l_law_same : K.lookup f_law_same = some ⟨oc_law_same, od_law_same, .func (PySem.W.fnOf "_law_same" "_law_same" (defArgs s_law_same) (defBody s_law_same) (defScope s_law_same) .none kV_law_same dc_law_same pm_law_same an_law_same cd_law_same ct_law_same), sl_law_same⟩) (c_law_same : PySem.W.codeIn K cd_law_same "_law_same" = true) (k_law_same : PySem.W.keepIn K (.ref f_law_same) = true)
    {od_law_one an_law_one : Option Addr} {sl_law_one : Array (Option Value)} {oc_law_one kV_law_one dc_law_one pm_law_one cd_law_one ct_law_one : Value}
    (a_law_one : PySem.W.nsIn K mainGlobals "_law_one" = some (some (.ref f_law_one))) (l_law_one : K.lookup f_law_one = some ⟨oc_law_one, od_law_one, .func (PySem.W.fnOf "_law_one" "_law_one" (defArgs s_law_one) (defBody s_law_one) (defScope s_law_one) .none kV_law_one dc_law_one pm_law_one an_law_one cd_law_one ct_law_one), sl_law_one⟩) (c_law_one : PySem.W.codeIn K cd_law_one "_law_one" = true) (k_law_one : PySem.W.keepIn K (.ref f_law_one) = true)
    {od_law_tree an_law_tree : Option Addr} {sl_law_tree : Array (Option Value)} {oc_law_tree kV_law_tree dc_law_tree pm_law_tree cd_law_tree ct_law_tree : Value}
    (a_law_tree : PySem.W.nsIn K mainGlobals "_law_tree" = some (some (.ref f_law_tree))) (l_law_tree : K.lookup f_law_tree = some ⟨oc_law_tree, od_law_tree, .func (PySem.W.fnOf "_law_tree" "_law_tree" (defArgs s_law_tree) (defBody s_law_tree) (defScope s_law_tree) .none kV_law_tree dc_law_tree pm_law_tree an_law_tree cd_law_tree ct_law_tree), sl_law_tree⟩) (c_law_tree : PySem.W.codeIn K cd_law_tree "_law_tree" = true) (k_law_tree : PySem.W.keepIn K (.ref f_law_tree) = true)
    {od_law_text an_law_text : Option Addr} {sl_law_text : Array (Option Value)} {oc_law_text kV_law_text dc_law_text pm_law_text cd_law_text ct_law_text : Value}
    (a_law_text : PySem.W.nsIn K mainGlobals "_law_text" = some (some (.ref f_law_text))) (l_law_text : K.lookup f_law_text = some ⟨oc_law_text, od_law_text, .func (PySem.W.fnOf "_law_text" "_law_text" (defArgs s_law_text) (defBody s_law_text) (defScope s_law_text) .none kV_law_text dc_law_text pm_law_text an_law_text cd_law_text ct_law_text), sl_law_text⟩) (c_law_text : PySem.W.codeIn K cd_law_text "_law_text" = true) (k_law_text : PySem.W.keepIn K (.ref f_law_text) = true)
    {od_law_is_name an_law_is_name : Option Addr} {sl_law_is_name : Array (Option Value)} {oc_law_is_name kV_law_is_name dc_law_is_name pm_law_is_name cd_law_is_name ct_law_is_name : Value}
    (a_law_is_name : PySem.W.nsIn K mainGlobals "_law_is_name" = some (some (.ref f_law_is_name))) (l_law_is_name : K.lookup f_law_is_name = some ⟨oc_law_is_name, od_law_is_name, .func (PySem.W.fnOf "_law_is_name" "_law_is_name" (defArgs s_law_is_name) (defBody s_law_is_name) (defScope s_law_is_name) .none kV_law_is_name dc_law_is_name pm_law_is_name an_law_is_name cd_law_is_name ct_law_is_name), sl_law_is_name⟩) (c_law_is_name : PySem.W.codeIn K cd_law_is_name "_law_is_name" = true) (k_law_is_name : PySem.W.keepIn K (.ref f_law_is_name) = true)
    {od_law_is_figures an_law_is_figures : Option Addr} {sl_law_is_figures : Array (Option Value)} {oc_law_is_figures kV_law_is_figures dc_law_is_figures pm_law_is_figures cd_law_is_figures ct_law_is_figures : Value}
    (a_law_is_figures : PySem.W.nsIn K mainGlobals "_law_is_figures" = some (some (.ref f_law_is_figures))) (l_law_is_figures : K.lookup f_law_is_figures = some ⟨oc_law_is_figures, od_law_is_figures, .func (PySem.W.fnOf "_law_is_figures" "_law_is_figures" (defArgs s_law_is_figures) (defBody s_law_is_figures) (defScope s_law_is_figures) .none kV_law_is_figures dc_law_is_figures pm_law_is_figures an_law_is_figures cd_law_is_figures ct_law_is_figures), sl_law_is_figures⟩) (c_law_is_figures : PySem.W.codeIn K cd_law_is_figures "_law_is_figures" = true) (k_law_is_figures : PySem.W.keepIn K (.ref f_law_is_figures) = true)
    {od_law_first an_law_first : Option Addr} {sl_law_first : Array (Option Value)} {oc_law_first kV_law_first dc_law_first pm_law_first cd_law_first ct_law_first : Value}
    (a_law_first : PySem.W.nsIn K mainGlobals "_law_first" = some (some (.ref f_law_first))) (l_law_first : K.lookup f_law_first = some ⟨oc_law_first, od_law_first, .func (PySem.W.fnOf "_law_first" "_law_first" (defArgs s_law_first) (defBody s_law_first) (defScope s_law_first) .none kV_law_first dc_law_first pm_law_first an_law_first cd_law_first ct_law_first), sl_law_first⟩) (c_law_first : PySem.W.codeIn K cd_law_first "_law_first" = true) (k_law_first : PySem.W.keepIn K (.ref f_law_first) = true)
    {od_law_read an_law_read : Option Addr} {sl_law_read : Array (Option Value)} {oc_law_read kV_law_read dc_law_read pm_law_read cd_law_read ct_law_read : Value}
    (a_law_read : PySem.W.nsIn K mainGlobals "_law_read" = some (some (.ref f_law_read))) (l_law_read : K.lookup f_law_read = some ⟨oc_law_read, od_law_read, .func (PySem.W.fnOf "_law_read" "_law_read" (defArgs s_law_read) (defBody s_law_read) (defScope s_law_read) .none kV_law_read dc_law_read pm_law_read an_law_read cd_law_read ct_law_read), sl_law_read⟩) (c_law_read : PySem.W.codeIn K cd_law_read "_law_read" = true) (k_law_read : PySem.W.keepIn K (.ref f_law_read) = true)
    {od_law_bent_words an_law_bent_words : Option Addr} {sl_law_bent_words : Array (Option Value)} {oc_law_bent_words kV_law_bent_words dc_law_bent_words pm_law_bent_words cd_law_bent_words ct_law_bent_words : Value}
    (a_law_bent_words : PySem.W.nsIn K mainGlobals "_law_bent_words" = some (some (.ref f_law_bent_words))) (l_law_bent_words : K.lookup f_law_bent_words = some ⟨oc_law_bent_words, od_law_bent_words, .func (PySem.W.fnOf "_law_bent_words" "_law_bent_words" (defArgs s_law_bent_words) (defBody s_law_bent_words) (defScope s_law_bent_words) .none kV_law_bent_words dc_law_bent_words pm_law_bent_words an_law_bent_words cd_law_bent_words ct_law_bent_words), sl_law_bent_words⟩) (c_law_bent_words : PySem.W.codeIn K cd_law_bent_words "_law_bent_words" = true) (k_law_bent_words : PySem.W.keepIn K (.ref f_law_bent_words) = true)
    {od_law_told an_law_told : Option Addr} {sl_law_told : Array (Option Value)} {oc_law_told kV_law_told dc_law_told pm_law_told cd_law_told ct_law_told : Value}
    (a_law_told : PySem.W.nsIn K mainGlobals "_law_told" = some (some (.ref f_law_told))) (l_law_told : K.lookup f_law_told = some ⟨oc_law_told, od_law_told, .func (PySem.W.fnOf "_law_told" "_law_told" (defArgs s_law_told) (defBody s_law_told) (defScope s_law_told) .none kV_law_told dc_law_told pm_law_told an_law_told cd_law_told ct_law_told), sl_law_told⟩) (c_law_told : PySem.W.codeIn K cd_law_told "_law_told" = true) (k_law_told : PySem.W.keepIn K (.ref f_law_told) = true)
    {od_law an_law : Option Addr} {sl_law : Array (Option Value)} {oc_law kV_law dc_law pm_law cd_law ct_law : Value}
    (a_law : PySem.W.nsIn K mainGlobals "law" = some (some (.ref f_law))) (l_law : K.lookup f_law = some ⟨oc_law, od_law, .func (PySem.W.fnOf "law" "law" (defArgs s_law) (defBody s_law) (defScope s_law) .none kV_law dc_law pm_law an_law cd_law ct_law), sl_law⟩) (c_law : PySem.W.codeIn K cd_law "law" = true) (k_law : PySem.W.keepIn K (.ref f_law) = true)
    (z_ValueError : PySem.W.nsIn K mainGlobals "ValueError" = some none)
    (z_abs : PySem.W.nsIn K mainGlobals "abs" = some none)
    (z_all : PySem.W.nsIn K mainGlobals "all" = some none)
    (z_bool : PySem.W.nsIn K mainGlobals "bool" = some none)
    (z_int : PySem.W.nsIn K mainGlobals "int" = some none)
    (z_isinstance : PySem.W.nsIn K mainGlobals "isinstance" = some none)
    (z_len : PySem.W.nsIn K mainGlobals "len" = some none)
    (z_list : PySem.W.nsIn K mainGlobals "list" = some none)
    (z_range : PySem.W.nsIn K mainGlobals "range" = some none)
    (z_str : PySem.W.nsIn K mainGlobals "str" = some none)
    (z_tuple : PySem.W.nsIn K mainGlobals "tuple" = some none)
    (z_zip : PySem.W.nsIn K mainGlobals "zip" = some none)
    {c_HindError : Addr} (g_HindError : PySem.W.nsIn K mainGlobals "HindError" = some (some (.ref c_HindError))) (e_HindError : PySem.W.excIn K c_HindError [.type "ValueError", .type "Exception", .type "BaseException", .type "object"] "ValueError.__new__" = true) (q_HindError : PySem.W.keepIn K (.ref c_HindError) = true) (s_HindError : PySem.W.subIn K (.ref c_HindError) (.type "BaseException") = some true) (y_HindError : PySem.W.typeIn K (.ref c_HindError) = some (.type "type"))
    {c_BadReckoning : Addr} (g_BadReckoning : PySem.W.nsIn K mainGlobals "BadReckoning" = some (some (.ref c_BadReckoning))) (e_BadReckoning : PySem.W.excIn K c_BadReckoning [.type "ValueError", .type "Exception", .type "BaseException", .type "object"] "ValueError.__new__" = true) (q_BadReckoning : PySem.W.keepIn K (.ref c_BadReckoning) = true) (s_BadReckoning : PySem.W.subIn K (.ref c_BadReckoning) (.type "BaseException") = some true) (y_BadReckoning : PySem.W.typeIn K (.ref c_BadReckoning) = some (.type "type"))
    (m_BadReckoning_BadReckoning : PySem.W.subIn K (.ref c_BadReckoning) (.ref c_BadReckoning) = some true)
    (h_BadReckoning : PySem.W.hasDictIn K c_BadReckoning = true)
    (ec1_BadReckoning : PySem.W.findIn K (.ref c_BadReckoning) "__getattribute__" = some (some (.builtin "BaseException.__getattribute__"))) (ec2_BadReckoning : PySem.W.findIn K (.ref c_BadReckoning) "__getattr__" = some none) (ec3_BadReckoning : PySem.W.hasDictIn K c_BadReckoning = true) (ec4_BadReckoning : PySem.W.findIn K (.ref c_BadReckoning) "__class__" = some (some (.builtin "object.__class__"))) (ec7_BadReckoning : PySem.W.mroIn K c_BadReckoning (.type "object") = some true)
    (ec5 : PySem.W.specialIn K (.builtin "object.__class__") "__get__" = some (some (.builtin "getset_descriptor.__get__"))) (ec6 : PySem.W.takesIn K (.builtin "object.__class__") = some true)
    (kt_BadReckoning_HindError : PySem.W.kitOne K (.ref c_BadReckoning) (Value.ref c_HindError) = some true)
    (kt_BadReckoning_ValueError : PySem.W.kitOne K (.ref c_BadReckoning) (.type "ValueError") = some true)
    {t_LETTERS : Tok} (n_LETTERS : PySem.W.nsIn K mainGlobals "LETTERS" = some (some (.str (Str.ofString "abcdefghijklmnopqrstuvwxyz") t_LETTERS)))
    {t_FIGURES : Tok} (n_FIGURES : PySem.W.nsIn K mainGlobals "FIGURES" = some (some (.str (Str.ofString "0123456789") t_FIGURES)))
    {t_WORDS : Tok} (n_WORDS : PySem.W.nsIn K mainGlobals "WORDS" = some (some (.int (20) t_WORDS)))
    {a_TAKEN : Addr} (n_TAKEN : PySem.W.nsIn K mainGlobals "TAKEN" = some (some (.ref a_TAKEN))) {d_TAKEN : Option Addr} {i_TAKEN : Array Value} {m_TAKEN : Nat} {u_TAKEN : Array (Option Value)} (l_TAKEN : K.lookup a_TAKEN = some ⟨.type "tuple", d_TAKEN, .seq i_TAKEN m_TAKEN, u_TAKEN⟩) (v_TAKEN : Vals (takenL.map V.str) i_TAKEN.toList)
    {a_ONE : Addr} (n_ONE : PySem.W.nsIn K mainGlobals "ONE" = some (some (.ref a_ONE))) {d_ONE : Option Addr} {i_ONE : Array Value} {m_ONE : Nat} {u_ONE : Array (Option Value)} (l_ONE : K.lookup a_ONE = some ⟨.type "tuple", d_ONE, .seq i_ONE m_ONE, u_ONE⟩) (v_ONE : Vals (oneL.map V.str) i_ONE.toList)
    {a_TWO : Addr} (n_TWO : PySem.W.nsIn K mainGlobals "TWO" = some (some (.ref a_TWO))) {d_TWO : Option Addr} {i_TWO : Array Value} {m_TWO : Nat} {u_TWO : Array (Option Value)} (l_TWO : K.lookup a_TWO = some ⟨.type "tuple", d_TWO, .seq i_TWO m_TWO, u_TWO⟩) (v_TWO : Vals (twoL.map V.str) i_TWO.toList)
    : ∃ fd : FuncData, (∀ (s : Shared) (v : Value), BindsTo s fd ⟨[v], []⟩ [("_law_script", v)]) ∧ ∀ base : Heap, K.In base → base.Ns mainGlobals mg → FnOk l.prog w K mg base CX0 41 fa fd ["_law_script"] (spLaw K) := by
  have e := hfa.symm.trans (PySem.W.mg_of X G a_law)
  cases e
  have F_is_name := fun_mk (st := s_is_name) l_is_name c_is_name k_is_name
  have D_is_name : DefAt K mg "is_name" s_is_name ["text"] := ⟨_, _, F_is_name, PySem.W.mg_of X G a_is_name, F_is_name.binds (ps := ["text"]) fun _ _ _ _ _ _ us hl => match us, hl with | [_], _ => rfl⟩
  have F_is_number : FunD K "is_number" "is_number" (defArgs s_is_number) (defBody s_is_number) (defScope s_is_number) [.int 6] [] f_is_number _ := ⟨⟨_, _, _, _, _, _, _, _, _, _, rfl, l_is_number, c_is_number, .inr ⟨by simp, T_is_number, _, it_is_number.toList, tm_is_number, rfl, t_is_number, (by simp), v_is_number⟩, .inl rfl⟩, k_is_number⟩
  obtain ⟨ds_is_number_1, vd_is_number_1, bd_is_number_1⟩ := F_is_number.binds1 (ps := ["text", "most"]) 1 0 (by simp) rfl (fun T kV doc pm an cdv ct us its h1 h2 => match us, its, h1, h2 with | [_], [_], _, _ => ⟨_, rfl, rfl⟩)
  have D_is_number_1 : DefD K mg "is_number" s_is_number ["text", "most"] (List.drop 0 [.int 6]) := ⟨_, _, _, F_is_number, PySem.W.mg_of X G a_is_number, vd_is_number_1, bd_is_number_1⟩
  have F_words_of := fun_mk (st := s_words_of) l_words_of c_words_of k_words_of
  have D_words_of : DefAt K mg "words_of" s_words_of ["row"] := ⟨_, _, F_words_of, PySem.W.mg_of X G a_words_of, F_words_of.binds (ps := ["row"]) fun _ _ _ _ _ _ us hl => match us, hl with | [_], _ => rfl⟩
  have F_taken_off := fun_mk (st := s_taken_off) l_taken_off c_taken_off k_taken_off
  have D_taken_off : DefAt K mg "taken_off" s_taken_off ["words"] := ⟨_, _, F_taken_off, PySem.W.mg_of X G a_taken_off, F_taken_off.binds (ps := ["words"]) fun _ _ _ _ _ _ us hl => match us, hl with | [_], _ => rfl⟩
  have F_next_reckoning := fun_mk (st := s_next_reckoning) l_next_reckoning c_next_reckoning k_next_reckoning
  have D_next_reckoning : DefAt K mg "next_reckoning" s_next_reckoning ["words"] := ⟨_, _, F_next_reckoning, PySem.W.mg_of X G a_next_reckoning, F_next_reckoning.binds (ps := ["words"]) fun _ _ _ _ _ _ us hl => match us, hl with | [_], _ => rfl⟩
  have F_all_reckonings := fun_mk (st := s_all_reckonings) l_all_reckonings c_all_reckonings k_all_reckonings
  have D_all_reckonings : DefAt K mg "all_reckonings" s_all_reckonings ["words", "many"] := ⟨_, _, F_all_reckonings, PySem.W.mg_of X G a_all_reckonings, F_all_reckonings.binds (ps := ["words", "many"]) fun _ _ _ _ _ _ us hl => match us, hl with | [_, _], _ => rfl⟩
  have F_read_reckoning := fun_mk (st := s_read_reckoning) l_read_reckoning c_read_reckoning k_read_reckoning
  have D_read_reckoning : DefAt K mg "read_reckoning" s_read_reckoning ["text"] := ⟨_, _, F_read_reckoning, PySem.W.mg_of X G a_read_reckoning, F_read_reckoning.binds (ps := ["text"]) fun _ _ _ _ _ _ us hl => match us, hl with | [_], _ => rfl⟩
  have F_reckoning_text := fun_mk (st := s_reckoning_text) l_reckoning_text c_reckoning_text k_reckoning_text
  have D_reckoning_text : DefAt K mg "reckoning_text" s_reckoning_text ["tree"] := ⟨_, _, F_reckoning_text, PySem.W.mg_of X G a_reckoning_text, F_reckoning_text.binds (ps := ["tree"]) fun _ _ _ _ _ _ us hl => match us, hl with | [_], _ => rfl⟩
  have F_law_begin := fun_mk (st := s_law_begin) l_law_begin c_law_begin k_law_begin
  have D_law_begin : DefAt K mg "_law_begin" s_law_begin ["_law_script"] := ⟨_, _, F_law_begin, PySem.W.mg_of X G a_law_begin, F_law_begin.binds (ps := ["_law_script"]) fun _ _ _ _ _ _ us hl => match us, hl with | [_], _ => rfl⟩
  have F_law_take := fun_mk (st := s_law_take) l_law_take c_law_take k_law_take
  have D_law_take : DefAt K mg "_law_take" s_law_take ["_law_draw", "_law_sides"] := ⟨_, _, F_law_take, PySem.W.mg_of X G a_law_take, F_law_take.binds (ps := ["_law_draw", "_law_sides"]) fun _ _ _ _ _ _ us hl => match us, hl with | [_, _], _ => rfl⟩
  have F_law_same := fun_mk (st := s_law_same) l_law_same c_law_same k_law_same
  have D_law_same : DefAt K mg "_law_same" s_law_same ["_law_found", "_law_due"] := ⟨_, _, F_law_same, PySem.W.mg_of X G a_law_same, F_law_same.binds (ps := ["_law_found", "_law_due"]) fun _ _ _ _ _ _ us hl => match us, hl with | [_, _], _ => rfl⟩
  have F_law_one := fun_mk (st := s_law_one) l_law_one c_law_one k_law_one
  have D_law_one : DefAt K mg "_law_one" s_law_one ["_law_draw", "_law_row"] := ⟨_, _, F_law_one, PySem.W.mg_of X G a_law_one, F_law_one.binds (ps := ["_law_draw", "_law_row"]) fun _ _ _ _ _ _ us hl => match us, hl with | [_, _], _ => rfl⟩
  have F_law_tree := fun_mk (st := s_law_tree) l_law_tree c_law_tree k_law_tree
  have D_law_tree : DefAt K mg "_law_tree" s_law_tree ["_law_draw", "_law_names", "_law_deep"] := ⟨_, _, F_law_tree, PySem.W.mg_of X G a_law_tree, F_law_tree.binds (ps := ["_law_draw", "_law_names", "_law_deep"]) fun _ _ _ _ _ _ us hl => match us, hl with | [_, _, _], _ => rfl⟩
  have F_law_text := fun_mk (st := s_law_text) l_law_text c_law_text k_law_text
  have D_law_text : DefAt K mg "_law_text" s_law_text ["_law_tree_here"] := ⟨_, _, F_law_text, PySem.W.mg_of X G a_law_text, F_law_text.binds (ps := ["_law_tree_here"]) fun _ _ _ _ _ _ us hl => match us, hl with | [_], _ => rfl⟩
  have F_law_is_name := fun_mk (st := s_law_is_name) l_law_is_name c_law_is_name k_law_is_name
  have D_law_is_name : DefAt K mg "_law_is_name" s_law_is_name ["_law_word"] := ⟨_, _, F_law_is_name, PySem.W.mg_of X G a_law_is_name, F_law_is_name.binds (ps := ["_law_word"]) fun _ _ _ _ _ _ us hl => match us, hl with | [_], _ => rfl⟩
  have F_law_is_figures := fun_mk (st := s_law_is_figures) l_law_is_figures c_law_is_figures k_law_is_figures
  have D_law_is_figures : DefAt K mg "_law_is_figures" s_law_is_figures ["_law_word", "_law_upto"] := ⟨_, _, F_law_is_figures, PySem.W.mg_of X G a_law_is_figures, F_law_is_figures.binds (ps := ["_law_word", "_law_upto"]) fun _ _ _ _ _ _ us hl => match us, hl with | [_, _], _ => rfl⟩
  have F_law_first := fun_mk (st := s_law_first) l_law_first c_law_first k_law_first
  have D_law_first : DefAt K mg "_law_first" s_law_first ["_law_words"] := ⟨_, _, F_law_first, PySem.W.mg_of X G a_law_first, F_law_first.binds (ps := ["_law_words"]) fun _ _ _ _ _ _ us hl => match us, hl with | [_], _ => rfl⟩
  have F_law_read := fun_mk (st := s_law_read) l_law_read c_law_read k_law_read
  have D_law_read : DefAt K mg "_law_read" s_law_read ["_law_text_here"] := ⟨_, _, F_law_read, PySem.W.mg_of X G a_law_read, F_law_read.binds (ps := ["_law_text_here"]) fun _ _ _ _ _ _ us hl => match us, hl with | [_], _ => rfl⟩
  have F_law_bent_words := fun_mk (st := s_law_bent_words) l_law_bent_words c_law_bent_words k_law_bent_words
  have D_law_bent_words : DefAt K mg "_law_bent_words" s_law_bent_words ["_law_draw", "_law_text_here"] := ⟨_, _, F_law_bent_words, PySem.W.mg_of X G a_law_bent_words, F_law_bent_words.binds (ps := ["_law_draw", "_law_text_here"]) fun _ _ _ _ _ _ us hl => match us, hl with | [_, _], _ => rfl⟩
  have F_law_told := fun_mk (st := s_law_told) l_law_told c_law_told k_law_told
  have D_law_told : DefAt K mg "_law_told" s_law_told ["_law_text_here"] := ⟨_, _, F_law_told, PySem.W.mg_of X G a_law_told, F_law_told.binds (ps := ["_law_text_here"]) fun _ _ _ _ _ _ us hl => match us, hl with | [_], _ => rfl⟩
  have F_law := fun_mk (st := s_law) l_law c_law k_law
  have D_law : DefAt K mg "law" s_law ["_law_script"] := ⟨_, _, F_law, PySem.W.mg_of X G a_law, F_law.binds (ps := ["_law_script"]) fun _ _ _ _ _ _ us hl => match us, hl with | [_], _ => rfl⟩
  have B : Blt mg := ⟨PySem.W.mg_none_of X G z_ValueError, PySem.W.mg_none_of X G z_abs, PySem.W.mg_none_of X G z_all, PySem.W.mg_none_of X G z_bool, PySem.W.mg_none_of X G z_int, PySem.W.mg_none_of X G z_isinstance, PySem.W.mg_none_of X G z_len, PySem.W.mg_none_of X G z_list, PySem.W.mg_none_of X G z_range, PySem.W.mg_none_of X G z_str, PySem.W.mg_none_of X G z_tuple, PySem.W.mg_none_of X G z_zip⟩
  have M_BadReckoning_BadReckoning : PySem.W.exmOne K (.ref c_BadReckoning) (.ref c_BadReckoning) = some true := PySem.W.exm_ref s_BadReckoning h_BadReckoning y_BadReckoning m_BadReckoning_BadReckoning
  have Y_BadReckoning : ExcC K c_BadReckoning := ⟨ec1_BadReckoning, ec2_BadReckoning, s_BadReckoning, ec3_BadReckoning, ec4_BadReckoning, ec5, ec6, ec7_BadReckoning⟩
  have X_BadReckoning : ExcAt K mg "BadReckoning" c_BadReckoning := ⟨PySem.W.mg_of X G g_BadReckoning, ⟨_, _, _, _, PySem.F.excBase_ValueError, e_BadReckoning⟩, q_BadReckoning, s_BadReckoning, y_BadReckoning⟩
  have X_HindError : ExcAt K mg "HindError" c_HindError := ⟨PySem.W.mg_of X G g_HindError, ⟨_, _, _, _, PySem.F.excBase_ValueError, e_HindError⟩, q_HindError, s_HindError, y_HindError⟩
  have g_LETTERS := PySem.W.mg_of X G n_LETTERS
  have g_FIGURES := PySem.W.mg_of X G n_FIGURES
  have g_WORDS := PySem.W.mg_of X G n_WORDS
  have g_TAKEN := PySem.W.mg_of X G n_TAKEN
  have S_TAKEN : ∀ H, SqT K H a_TAKEN (takenL.map V.str) := fun H => .inr ⟨_, _, _, l_TAKEN, rfl, rfl, (show i_TAKEN.toList.length ≤ sizeLine from (show (takenL.map V.str).length = i_TAKEN.toList.length from v_TAKEN.length) ▸ sz rfl), v_TAKEN⟩
  have g_ONE := PySem.W.mg_of X G n_ONE
  have S_ONE : ∀ H, SqT K H a_ONE (oneL.map V.str) := fun H => .inr ⟨_, _, _, l_ONE, rfl, rfl, (show i_ONE.toList.length ≤ sizeLine from (show (oneL.map V.str).length = i_ONE.toList.length from v_ONE.length) ▸ sz rfl), v_ONE⟩
  have g_TWO := PySem.W.mg_of X G n_TWO
  have S_TWO : ∀ H, SqT K H a_TWO (twoL.map V.str) := fun H => .inr ⟨_, _, _, l_TWO, rfl, rfl, (show i_TWO.toList.length ≤ sizeLine from (show (twoL.map V.str).length = i_TWO.toList.length from v_TWO.length) ▸ sz rfl), v_TWO⟩
  refine ⟨PySem.W.fnOf "law" "law" (defArgs s_law) (defBody s_law) (defScope s_law) .none kV_law dc_law pm_law an_law cd_law ct_law, fun s v => .of_eq rfl, fun base _ _ => ?_⟩
  have T := ok_take (P := l.prog) (w := w) (base := base) D_law_take B
  have O := ok_one D_law_one B T
  have N := ok_is_name (P := l.prog) (w := w) (base := base) D_is_name B g_LETTERS g_TAKEN S_TAKEN
  have I := ok_is_number (P := l.prog) (w := w) (base := base) D_is_number_1 B g_FIGURES
  have W := ok_words_of (P := l.prog) (w := w) (base := base) D_words_of B
  have R1 := ok_next D_next_reckoning B g_WORDS (ok_taken D_taken_off B g_ONE S_ONE g_TWO S_TWO X_BadReckoning I N 21)
  have R := ok_read D_read_reckoning B X_BadReckoning W (ok_all D_all_reckonings B X_BadReckoning R1)
  exact ok_law F_law B (ok_begin D_law_begin B) T (ok_same D_law_same B 40) (ok_ltree D_law_tree B T O 5) (ok_law_text D_law_text B 30) (ok_reckoning_text D_reckoning_text B 30) (ok_bentw D_law_bent_words B T O)
    (ok_lread D_law_read B (ok_lfirst D_law_first B (ok_lfig D_law_is_figures B) (ok_lname D_law_is_name B) 21)) (ok_ltold D_law_told B X_BadReckoning X_HindError Y_BadReckoning M_BadReckoning_BadReckoning kt_BadReckoning_HindError kt_BadReckoning_ValueError R)
end L2.U
open PySem PySem.W PyProof.Rows
set_option maxHeartbeats 0 in
theorem PySem.Challenge.cw_hindstep_k02_reckonings_read_holds : PySem.Challenge.rw_hindstep_k02_reckonings_read.Holds := by
  w_on; o_law; k_head; (case hw => w_witness2)
  k_fill
  refine L2.walk_of (l := PySem.Challenge.rw_hindstep_k02_reckonings_read) (n := 63) (k := 41) (x := "_law_script") (CX := fun _ => L2.CX0) (sp := fun w => L2.U.spLaw _) rfl (by decide) rfl ⟨rfl, by decide, by decide⟩ (fun w h Y => PySem.W.kIn_of Y) ?F (fun _ _ a ns hl _ hS => ⟨_, rfl, a, ns, rfl, hS, hl, fun _ => rfl⟩) (fun _ _ _ _ _ h => h)
  case F =>
    intro w mg fa h KX G hmg
    refine' L2.U.all_mk KX G hmg ?a_is_name ?l_is_name ?c_is_name ?k_is_name ?a_is_number ?l_is_number ?c_is_number ?k_is_number ?t_is_number ?v_is_number ?a_words_of ?l_words_of ?c_words_of ?k_words_of ?a_taken_off ?l_taken_off ?c_taken_off ?k_taken_off ?a_next_reckoning ?l_next_reckoning ?c_next_reckoning ?k_next_reckoning ?a_all_reckonings ?l_all_reckonings ?c_all_reckonings ?k_all_reckonings ?a_read_reckoning ?l_read_reckoning ?c_read_reckoning ?k_read_reckoning ?a_reckoning_text ?l_reckoning_text ?c_reckoning_text ?k_reckoning_text ?a_law_begin ?l_law_begin ?c_law_begin ?k_law_begin ?a_law_take ?l_law_take ?c_law_take ?k_law_take ?a_law_same ?l_law_same ?c_law_same ?k_law_same ?a_law_one ?l_law_one ?c_law_one ?k_law_one ?a_law_tree ?l_law_tree ?c_law_tree ?k_law_tree ?a_law_text ?l_law_text ?c_law_text ?k_law_text ?a_law_is_name ?l_law_is_name ?c_law_is_name ?k_law_is_name ?a_law_is_figures ?l_law_is_figures ?c_law_is_figures ?k_law_is_figures ?a_law_first ?l_law_first ?c_law_first ?k_law_first ?a_law_read ?l_law_read ?c_law_read ?k_law_read ?a_law_bent_words ?l_law_bent_words ?c_law_bent_words ?k_law_bent_words ?a_law_told ?l_law_told ?c_law_told ?k_law_told ?a_law ?l_law ?c_law ?k_law ?z_ValueError ?z_abs ?z_all ?z_bool ?z_int ?z_isinstance ?z_len ?z_list ?z_range ?z_str ?z_tuple ?z_zip ?g_HindError ?e_HindError ?q_HindError ?s_HindError ?y_HindError ?g_BadReckoning ?e_BadReckoning ?q_BadReckoning ?s_BadReckoning ?y_BadReckoning ?m_BadReckoning_BadReckoning ?h_BadReckoning ?ec1_BadReckoning ?ec2_BadReckoning ?ec3_BadReckoning ?ec4_BadReckoning ?ec7_BadReckoning ?ec5 ?ec6 ?kt_BadReckoning_HindError ?kt_BadReckoning_ValueError ?n_LETTERS ?n_FIGURES ?n_WORDS ?n_TAKEN ?l_TAKEN ?v_TAKEN ?n_ONE ?l_ONE ?v_ONE ?n_TWO ?l_TWO ?v_TWO
    (case a_is_name => k_is)
    (case l_is_name => k_is)
    (case c_is_name => k_is)
    (case k_is_name => k_is)
    (case a_is_number => k_is)
    (case l_is_number => k_is)
    (case c_is_number => k_is)
    (case k_is_number => k_is)
    (case t_is_number => k_is)
    (case v_is_number => exact (.cons ⟨_, rfl⟩ .nil))
    (case a_words_of => k_is)
    (case l_words_of => k_is)
    (case c_words_of => k_is)
    (case k_words_of => k_is)
    (case a_taken_off => k_is)
    (case l_taken_off => k_is)
    (case c_taken_off => k_is)
    (case k_taken_off => k_is)
    (case a_next_reckoning => k_is)
    (case l_next_reckoning => k_is)
    (case c_next_reckoning => k_is)
    (case k_next_reckoning => k_is)
    (case a_all_reckonings => k_is)
    (case l_all_reckonings => k_is)
    (case c_all_reckonings => k_is)
    (case k_all_reckonings => k_is)
    (case a_read_reckoning => k_is)
    (case l_read_reckoning => k_is)
    (case c_read_reckoning => k_is)
    (case k_read_reckoning => k_is)
    (case a_reckoning_text => k_is)
    (case l_reckoning_text => k_is)
    (case c_reckoning_text => k_is)
    (case k_reckoning_text => k_is)
    (case a_law_begin => k_is)
    (case l_law_begin => k_is)
    (case c_law_begin => k_is)
    (case k_law_begin => k_is)
    (case a_law_take => k_is)
    (case l_law_take => k_is)
    (case c_law_take => k_is)
    (case k_law_take => k_is)
    (case a_law_same => k_is)
    (case l_law_same => k_is)
    (case c_law_same => k_is)
    (case k_law_same => k_is)
    (case a_law_one => k_is)
    (case l_law_one => k_is)
    (case c_law_one => k_is)
    (case k_law_one => k_is)
    (case a_law_tree => k_is)
    (case l_law_tree => k_is)
    (case c_law_tree => k_is)
    (case k_law_tree => k_is)
    (case a_law_text => k_is)
    (case l_law_text => k_is)
    (case c_law_text => k_is)
    (case k_law_text => k_is)
    (case a_law_is_name => k_is)
    (case l_law_is_name => k_is)
    (case c_law_is_name => k_is)
    (case k_law_is_name => k_is)
    (case a_law_is_figures => k_is)
    (case l_law_is_figures => k_is)
    (case c_law_is_figures => k_is)
    (case k_law_is_figures => k_is)
    (case a_law_first => k_is)
    (case l_law_first => k_is)
    (case c_law_first => k_is)
    (case k_law_first => k_is)
    (case a_law_read => k_is)
    (case l_law_read => k_is)
    (case c_law_read => k_is)
    (case k_law_read => k_is)
    (case a_law_bent_words => k_is)
    (case l_law_bent_words => k_is)
    (case c_law_bent_words => k_is)
    (case k_law_bent_words => k_is)
    (case a_law_told => k_is)
    (case l_law_told => k_is)
    (case c_law_told => k_is)
    (case k_law_told => k_is)
    (case a_law => k_is)
    (case l_law => k_is)
    (case c_law => k_is)
    (case k_law => k_is)
    (case z_ValueError => k_is)
    (case z_abs => k_is)
    (case z_all => k_is)
    (case z_bool => k_is)
    (case z_int => k_is)
    (case z_isinstance => k_is)
    (case z_len => k_is)
    (case z_list => k_is)
    (case z_range => k_is)
    (case z_str => k_is)
    (case z_tuple => k_is)
    (case z_zip => k_is)
    (case g_HindError => k_is)
    (case e_HindError => k_exc)
    (case q_HindError => k_is)
    (case s_HindError => k_is)
    (case y_HindError => k_is)
    (case g_BadReckoning => k_is)
    (case e_BadReckoning => k_exc)
    (case q_BadReckoning => k_is)
    (case s_BadReckoning => k_is)
    (case y_BadReckoning => k_is)
    (case m_BadReckoning_BadReckoning => k_is)
    (case h_BadReckoning => k_is)
    (case ec1_BadReckoning => k_is)
    (case ec2_BadReckoning => k_is)
    (case ec3_BadReckoning => k_is)
    (case ec4_BadReckoning => k_is)
    (case ec7_BadReckoning => k_is)
    (case ec5 => k_is)
    (case ec6 => k_is)
    (case kt_BadReckoning_HindError => kit_is)
    (case kt_BadReckoning_ValueError => kit_is)
    (case n_LETTERS => k_is)
    (case n_FIGURES => k_is)
    (case n_WORDS => k_is)
    (case n_TAKEN => k_is)
    (case l_TAKEN => k_is)
    (case v_TAKEN => exact .cons ⟨_, rfl⟩ (.cons ⟨_, rfl⟩ (.cons ⟨_, rfl⟩ (.cons ⟨_, rfl⟩ (.cons ⟨_, rfl⟩ (.cons ⟨_, rfl⟩ (.cons ⟨_, rfl⟩ (.cons ⟨_, rfl⟩ (.cons ⟨_, rfl⟩ (.cons ⟨_, rfl⟩ (.cons ⟨_, rfl⟩ (.cons ⟨_, rfl⟩ (.cons ⟨_, rfl⟩ (.cons ⟨_, rfl⟩ (.cons ⟨_, rfl⟩ (.cons ⟨_, rfl⟩ (.cons ⟨_, rfl⟩ (.cons ⟨_, rfl⟩ (.cons ⟨_, rfl⟩ (.cons ⟨_, rfl⟩ (.nil)))))))))))))))))))))
    (case n_ONE => k_is)
    (case l_ONE => k_is)
    (case v_ONE => exact .cons ⟨_, rfl⟩ (.cons ⟨_, rfl⟩ (.nil)))
    (case n_TWO => k_is)
    (case l_TWO => k_is)
    (case v_TWO => exact .cons ⟨_, rfl⟩ (.cons ⟨_, rfl⟩ (.cons ⟨_, rfl⟩ (.cons ⟨_, rfl⟩ (.cons ⟨_, rfl⟩ (.cons ⟨_, rfl⟩ (.cons ⟨_, rfl⟩ (.cons ⟨_, rfl⟩ (.cons ⟨_, rfl⟩ (.nil))))))))))
#print axioms PySem.Challenge.cw_hindstep_k02_reckonings_read_holds
