import PyProof.Rows.All
import Wide.All
import OpenK.AllK
import Wide.FinOn
import HandS.ForMost
import HandS.ForExc
import HandS.IsInst
import HandS.Zip
import PySem.Challenge.RW_hindstep_k01_words_that_are_names
set_option Elab.async false
set_option linter.all false
set_option maxRecDepth 100000
/-! U: rules that ask no kind of their parts (the union of the layer's), and steps that read them. Own text. -/
namespace L2.U
open PySem PySem.Spec PyProof.Rows
/-! ### unions -/
section
variable {X : Cx}
def rAddU (K : PySem.W.Frag) : R2 := fun x y H Q => rI0 (fun i j => .int (i + j)) x y H Q ∨ (∃ i j, x = .str i ∧ y = .str j ∧ i.length + j.length ≤ sizeLine ∧ Q (.str (i ++ j)) H) ∨ rCat x y H Q ∨ rCatT K x y H Q
theorem o_add {K : PySem.W.Frag} (h : X.K = K := by rfl) : OpR X (binaryOp .Add) (rAddU K) := h ▸ op_add.or (op_add_str.or (op_cat.or op_catT))
def rMulU : R2 := fun x y H Q => rI CMul (fun i j => .int (i * j)) x y H Q ∨ rRep x y H Q
theorem o_mul : OpR X (binaryOp .Mult) rMulU := op_mul.or op_rep
def rSubU : R2 := rI0 (fun i j => .int (i - j))
theorem o_sub : OpR X (binaryOp .Sub) rSubU := op_sub
def rDivU : R2 := rI CDivN fun i j => .int (i.fdiv j)
theorem o_div : OpR X (binaryOp .FloorDiv) rDivU := op_fdivN
def rModU : R2 := rI (fun _ j => j ≠ 0) fun i j => .int (i.fmod j)
theorem o_mod : OpR X (binaryOp .Mod) rModU := op_modN
def rPowU : R2 := rI CPow fun i j => .int (i ^ j.toNat)
theorem o_pow : OpR X (binaryOp .Pow) rPowU := op_pow
def rEqU (K : PySem.W.Frag) : R2 := fun x y H Q => rEq x y H Q ∨ rEqD K x y H Q
theorem o_eq {K : PySem.W.Frag} (hu : X.A.units + 64 < cLine) (h : X.K = K := by rfl) : OpR X (compareOp .Eq) (rEqU K) := h ▸ op_eq.or (op_eqD hu)
def rNeU (K : PySem.W.Frag) : R2 := fun x y H Q => rNe x y H Q ∨ rNeD K x y H Q
theorem o_ne {K : PySem.W.Frag} (hu : X.A.units + 64 < cLine) (h : X.K = K := by rfl) : OpR X (compareOp .NotEq) (rNeU K) := h ▸ op_ne.or (op_neD hu)
def rLtU : R2 := rI0 fun i j => .bl (decide (i < j))
theorem o_lt : OpR X (compareOp .Lt) rLtU := op_lt
def rLeU : R2 := rI0 fun i j => .bl (decide (i ≤ j))
theorem o_le : OpR X (compareOp .LtE) rLeU := op_le
def rGtU : R2 := rI0 fun i j => .bl (decide (j < i))
theorem o_gt : OpR X (compareOp .Gt) rGtU := op_gt
def rGeU : R2 := rI0 fun i j => .bl (decide (j ≤ i))
theorem o_ge : OpR X (compareOp .GtE) rGeU := op_ge
def rSgn (neg : Bool) : R2 := fun x y H Q => ∃ (c : Nat) (z : Str), x = .str ⟨#[c]⟩ ∧ y = .str z ∧ Q (.bl (if neg then !decide (c ∈ z.cps.toList) else decide (c ∈ z.cps.toList))) H
def rSub (neg : Bool) : R2 := fun x y H Q => ∃ i j, x = .str i ∧ y = .str j ∧ Q (.bl (if neg then !(!(Builtin.Str.occurrences j i 0 j.length 1).isEmpty) else !(Builtin.Str.occurrences j i 0 j.length 1).isEmpty)) H
def rInU (K : PySem.W.Frag) (neg : Bool) : R2 := fun x y H Q => rSgn neg x y H Q ∨ rIn K neg x y H Q ∨ rSub neg x y H Q
theorem o_in {K : PySem.W.Frag} (h : X.K = K := by rfl) : OpR X (compareOp .In) (rInU K false) := h ▸ OpR.or (r := rSgn false) op_in_sign (OpR.or op_in_seq (r' := rSub false) op_in_str)
theorem o_notIn {K : PySem.W.Frag} (h : X.K = K := by rfl) : OpR X (compareOp .NotIn) (rInU K true) := h ▸ OpR.or (r := rSgn true) op_notIn_sign (OpR.or op_notIn_seq (r' := rSub true) op_notin_str)
def rIsU (neg : Bool) : R2 := fun x y H Q => y = .non ∧ Q (.bl (if neg then !decide (x = .non) else decide (x = .non))) H
theorem o_is : OpR X (compareOp .Is) (rIsU false) := op_isN
theorem o_isNot : OpR X (compareOp .IsNot) (rIsU true) := op_notN
def rSlU (K : PySem.W.Frag) : V → Option Int → Option Int → Hp → VK → Prop := fun x lo hi H Q => rSlL K x lo hi H Q ∨ rSlT K x lo hi H Q ∨ rSlS x lo hi H Q
theorem sl_u {K : PySem.W.Frag} (h : X.K = K := by rfl) : SlR X (rSlU K) := h ▸ sl_list.or (sl_tup.or sl_str)
theorem u_ix {K : PySem.W.Frag} (h : X.K = K := by rfl) : IxR X (rIx K) := h ▸ ix_seq
theorem u_len {K : PySem.W.Frag} (h : X.K = K := by rfl) : CallR X (.builtin "len") (fun xs H Q => ∃ x n, xs = [x] ∧ LenV K x H n ∧ Q (.int n) H) := h ▸ call_len
theorem u_all {K : PySem.W.Frag} (hc : X.calm = true) (h : X.K = K := by rfl) : CallR X (.builtin "all") (rAll K) := h ▸ cr_all hc
theorem u_any {K : PySem.W.Frag} (hc : X.calm = true) (h : X.K = K := by rfl) : CallR X (.builtin "any") (rAny K) := h ▸ cr_any hc
theorem u_sum {K : PySem.W.Frag} (hc : X.calm = true) (h : X.K = K := by rfl) : CallR X (.builtin "sum") (rSum K) := h ▸ cr_sum hc
theorem u_isi {K : PySem.W.Frag} (h : X.K = K := by rfl) : CallR X (.builtin "isinstance") (rIsi K) := h ▸ call_isi
theorem u_isiT {K : PySem.W.Frag} (h : X.K = K := by rfl) : CallR X (.builtin "isinstance") (rIsiT K) := h ▸ call_isiT
theorem u_join {K : PySem.W.Frag} {o e : Expr} {to te : TE} {apos pos : Pos} (ho : PE X o to) (he : PE X e te) (h : X.K = K := by rfl) (hs : starEach [e] X.env = [(false, eval e X.env)] := by rfl) (hbase : attributeBase o "join" X.env (eval o X.env) = eval o X.env := by rfl) (hline : (apos.endLine == pos.line) = true := by rfl) :
    PE X (.Call (.Attribute o "join" apos) [e] [] pos) (tM1 (fun x xs H Q => ∃ a p, ∃ ys : List Str, x = .str a ∧ xs = [.ref p] ∧ (SqL K H p (ys.map V.str) ∨ SqT K H p (ys.map V.str)) ∧
      (ys.map (·.length)).sum + ys.length * a.length ≤ 16777216 ∧ Q (.str (Txt.join a ys)) H) to te) := h ▸ pe_join ho he hs hbase hline
theorem u_iList {K : PySem.W.Frag} {tg l : Expr} {tl : TE} (hl : PE X l tl) (h : X.K = K := by rfl) : PI X tg l (iList K tl) := h ▸ pi_list hl
theorem u_iTup {K : PySem.W.Frag} {tg l : Expr} {tl : TE} (hl : PE X l tl) (h : X.K = K := by rfl) : PI X tg l (iTup K tl) := h ▸ pi_tup hl
end
theorem vals_of_get : ∀ {xs : List V} {us : List Value}, xs.length = us.length → (∀ (i : Nat) x u, xs[i]? = some x → us[i]? = some u → RelV x u) → Vals xs us
  | [], [], _, _ => .nil
  | [], _ :: _, h, _ => by simp at h
  | _ :: _, [], h, _ => by simp at h
  | x :: xs, u :: us, h, k => .cons (k 0 x u rfl rfl) (vals_of_get (by simpa using h) fun i y w a b => k (i + 1) y w (by simpa using a) (by simpa using b))
section
variable {X : Cx}
/-- list(text): its signs -/
def signsV (x : Str) : List V := x.cps.toList.map fun c => .str ⟨#[c]⟩
theorem call_listS (hc : X.calm = true) : CallR X (.type "list") (fun xs H Q => ∃ x, xs = [.str x] ∧ x.length ≤ sizeLine ∧ ∀ l, H l = none → Q (.ref l) (upd H l (.lst (signsV x)))) := by
  intro pins s σ H xs us Q I r h
  obtain ⟨x, rfl, hx, q⟩ := h
  obtain ⟨u, rfl, t, rfl⟩ := vals1 r
  refine call_list_str (I.ok.hd hc) x t (fun h' tk acc' c' hk hS hacc => ?_) hx
  have hv : Vals (signsV x) acc'.toList := vals_of_get (by unfold signsV; rw [List.length_map, Array.length_toList, Array.length_toList, hacc.1]) fun i y w a b => by
    unfold signsV at a
    rw [List.getElem?_map] at a
    obtain ⟨c, hc1, e⟩ := Option.map_eq_some_iff.mp a
    obtain ⟨c', u', hc2, rfl⟩ := hacc.2 i w (by rw [← Array.getElem?_toList]; exact b)
    rw [← Array.getElem?_toList, hc1] at hc2
    cases hc2
    rw [← e]
    exact ⟨u', rfl⟩
  exact ⟨.ref s.heap.objs.size, _, I.laid (t' := tk) hk (Nat.le_refl _) (show ObjOk X.prog X.w _ h' _ (.lst (signsV x)) from ⟨by unfold signsV; rw [List.length_map, Array.length_toList]; exact hx, acc'.toList, c', hv, hS⟩), rfl, q _ (I.hok.fresh (Nat.le_refl _))⟩
def rListU (K : PySem.W.Frag) : List V → Hp → VK → Prop := fun xs H Q => (∃ p ys, xs = [.ref p] ∧ (SqL K H p ys ∨ SqT K H p ys) ∧ ∀ l, H l = none → Q (.ref l) (upd H l (.lst ys))) ∨ (∃ x, xs = [.str x] ∧ x.length ≤ sizeLine ∧ ∀ l, H l = none → Q (.ref l) (upd H l (.lst (signsV x))))
theorem call_listU {K : PySem.W.Frag} (hc : X.calm = true) (h : X.K = K := by rfl) : CallR X (.type "list") (rListU K) := h ▸ CallR.or call_list_of (call_listS hc)
end
/-! ### defs -/
structure OkF (P : Program) (w : World) (K : PySem.W.Frag) (mg : Str → Option Value) (base : Heap) (CX : CXT) (k : Nat) (x : Str) (ps : List Str) (sp : Sp) : Prop where
  ex : ∃ (f : Addr) (fd : FuncData), mg x = some (.ref f) ∧ PySem.W.keepIn K (.ref f) = true ∧ Binds K fd ps [] ∧ FnOk P w K mg base CX k f fd ps sp
structure DefAt (K : PySem.W.Frag) (mg : Str → Option Value) (x : Str) (st : Stmt) (ps : List Str) : Prop where
  ex : ∃ (f : Addr) (fd : FuncData), Fun K x x st f fd ∧ mg x = some (.ref f) ∧ Binds K fd ps []
section
variable {P : Program} {w : World} {K : PySem.W.Frag} {mg : Str → Option Value} {base : Heap} {x : Str} {st : Stmt} {N ps : List Str} {k : Nat} {sp : Sp}
theorem DefAt.ok (D : DefAt K mg x st ps) (S : FnScope N ps (defScope st)) (len : ∀ vs H Q E, sp vs H Q E → vs.length = ps.length)
    (hbody : ∀ (f : Addr) (cdv : Value) (A : Around) (outer : List Env) (s : Shared) (H : Hp) (vs : List V) (Q : VK) (E : XK), Room k (A.deeper (envOfC x (defScope st) s.heap.objs.size f cdv)) → sp vs H Q E →
      ∃ t, PSs (cxOf CX0 P w K mg base N x (defScope st) f cdv A outer s H E).nox (defBody st) t ∧ t { nx := fun _ H' => Q .non H', rt := Q } (start N vs) H) : OkF P w K mg base CX0 (k + 1) x ps sp := by
  obtain ⟨f, fd, F, g, b⟩ := D.ex
  exact ⟨f, fd, g, F.kp, b, F.ok S len fun cdv A outer s H vs Q E hr h => hbody f cdv A outer s H vs Q E hr h⟩
theorem DefAt.okX (D : DefAt K mg x st ps) (S : FnScope N ps (defScope st)) (len : ∀ vs H Q E, sp vs H Q E → vs.length = ps.length)
    (hbody : ∀ (f : Addr) (cdv : Value) (A : Around) (outer : List Env) (s : Shared) (H : Hp) (vs : List V) (Q : VK) (E : XK), Room k (A.deeper (envOfC x (defScope st) s.heap.objs.size f cdv)) → sp vs H Q E →
      ∃ t, PSs (cxOf (L2.CX P w) P w K mg base N x (defScope st) f cdv A outer s H E) (defBody st) t ∧ t { nx := fun _ H' => Q .non H', rt := Q } (start N vs) H) : OkF P w K mg base (L2.CX P w) (k + 1) x ps sp := by
  obtain ⟨f, fd, F, g, b⟩ := D.ex
  exact ⟨f, fd, g, F.kp, b, F.okX S len fun cdv A outer s H vs Q E hr h => hbody f cdv A outer s H vs Q E hr h⟩
theorem DefAt.okNo {CX : CXT} (D : DefAt K mg x st ps) (h : ∀ vs H Q E, ¬ sp vs H Q E) : OkF P w K mg base CX k x ps sp := by
  obtain ⟨f, fd, F, g, b⟩ := D.ex
  exact ⟨f, fd, g, F.kp, b, fun vs H Q E z => (h _ _ _ _ z).elim, fun A outer s H args us vs Q E _ _ _ _ z => (h _ _ _ _ z).elim⟩
theorem OkF.mono {CX : CXT} {j : Nat} (O : OkF P w K mg base CX j x ps sp) (h : j ≤ k) : OkF P w K mg base CX k x ps sp := by
  obtain ⟨f, fd, a, b, c, d⟩ := O.ex
  exact ⟨f, fd, a, b, c, d.mono h⟩
end
section
variable {X : Cx} {CX : CXT} {k : Nat} {x : Str} {ps : List Str} {sp : Sp} {E : XK} {p pos : Pos} {e : Expr} {es : List Expr} {t : TA}
theorem u_call (O : OkF X.prog X.w X.K X.mg X.base CX k x ps sp) (hr : Room k X.A) (hx : Passes CX X E) (ha : PA X (e :: es) t) (hg : Gl X x := by rfl) (hdb : (x == ("__debug__" : Str)) = false := by decide)
    (he : starEach (e :: es) X.env = (false, eval e X.env) :: starEach es X.env := by rfl) (hpl : (backTo pos (starEach es X.env)).any (·.1) = false := by rfl) :
    PE X (.Call (.Name x p) (e :: es) [] pos) (tCall sp [] E t) := by
  obtain ⟨f, fd, hm, hk, hb, F⟩ := O.ex
  exact pe_call F hr hg hm hk hb .nil hx ha hdb he hpl
theorem u_call0 (O : OkF X.prog X.w X.K X.mg X.base CX k x ps sp) (hr : Room k X.A) (hx : Passes CX X E) (hg : Gl X x := by rfl) (hdb : (x == ("__debug__" : Str)) = false := by decide) :
    PE X (.Call (.Name x p) [] [] pos) (tCall sp [] E tNil) := by
  obtain ⟨f, fd, hm, hk, hb, F⟩ := O.ex
  exact pe_call0 F hr hg hm hk hb .nil hx hdb
end
/-! ### promises by the number of arguments -/
def sp1 (p : V → Hp → VK → XK → Prop) : Sp := fun vs H Q E => ∃ a, vs = [a] ∧ p a H Q E
def sp2 (p : V → V → Hp → VK → XK → Prop) : Sp := fun vs H Q E => ∃ a b, vs = [a, b] ∧ p a b H Q E
def sp3 (p : V → V → V → Hp → VK → XK → Prop) : Sp := fun vs H Q E => ∃ a b c, vs = [a, b, c] ∧ p a b c H Q E
theorem len1 {p} : ∀ vs H Q E, sp1 p vs H Q E → vs.length = 1 := by
  rintro _ _ _ _ ⟨_, rfl, _⟩
  rfl
theorem len2 {p} : ∀ vs H Q E, sp2 p vs H Q E → vs.length = 2 := by
  rintro _ _ _ _ ⟨_, _, rfl, _⟩
  rfl
theorem len3 {p} : ∀ vs H Q E, sp3 p vs H Q E → vs.length = 3 := by
  rintro _ _ _ _ ⟨_, _, _, rfl, _⟩
  rfl
/-! ### truth -/
def tTr (K : PySem.W.Frag) (ta : TE) : TT := fun σ H Q => ta σ H fun x H' => ∃ k, TruV K x H' k ∧ Q k H'
theorem u_truth {X : Cx} {a : Expr} {ta : TE} (ha : PE X a ta) {K : PySem.W.Frag} (he : ∀ whole, isTrue a X.env whole = (do let v ← whole; standAt a.pos; holding [v] (truthy v)) := by intro _; rfl) (h : X.K = K := by rfl) : PT X a (tTr K ta) := h ▸ pt_truth ha he
theorem sz {n : Nat} (h : Nat.ble n 16777216 = true) : n ≤ sizeLine := by
  rw [show sizeLine = 16777216 from sizeLine_eq]
  exact Nat.le_of_ble_eq_true h
/-! ### steps of a reading -/
section
variable {σ : St} {H : Hp} {Q : VK} {QB : Bool → Hp → Prop} {QA : List V → Hp → Prop} {v x y : V} {i j : Int} {n m : Nat} {a b : Str} {p q : Addr} {xs ys : List V} {ta tb tc : TE} {tt uu : TT} {tr : TA} {K : PySem.W.Frag} {D : Ends} {ts us : TS} {o : HO} {E : XK} {k : Bool}
theorem s_var (h : σ[n]? = some (some v)) (z : Q v H) : tVar n σ H Q := ⟨v, h, z⟩
theorem s_c (z : Q v H) : tC v σ H Q := z
theorem s_op {r : R2} (z : ta σ H fun x H1 => tb σ H1 fun y H2 => r x y H2 Q) : tOp r ta tb σ H Q := z
theorem s_un {r : V → Hp → VK → Prop} (z : ta σ H fun x H1 => r x H1 Q) : tUn r ta σ H Q := z
theorem s_neg (z : Q (.int (-i)) H) : rU (fun i => .int (-i)) (.int i) H Q := ⟨i, rfl, z⟩
theorem s_test (z : ta σ H fun x H' => ∃ k, x = .bl k ∧ QB k H') : tTest ta σ H QB := z
theorem s_tB (z : ta σ H fun x H' => ∃ k, x = .bl k ∧ QB k H') : tB ta σ H QB := z
theorem s_bl {R : Bool → Prop} (z : R k) : ∃ k', V.bl k = .bl k' ∧ R k' := ⟨k, rfl, z⟩
theorem s_add (z : Q (.int (i + j)) H) : rAddU K (.int i) (.int j) H Q := .inl ⟨i, j, rfl, rfl, z⟩
theorem s_addS (h : a.length + b.length ≤ sizeLine) (z : Q (.str (a ++ b)) H) : rAddU K (.str a) (.str b) H Q := .inr (.inl ⟨a, b, rfl, rfl, h, z⟩)
theorem s_addL (h1 : H p = some (.lst xs)) (h2 : H q = some (.lst ys)) (h : xs.length + ys.length ≤ sizeLine) (z : ∀ l, H l = none → Q (.ref l) (upd H l (.lst (xs ++ ys)))) : rAddU K (.ref p) (.ref q) H Q :=
  .inr (.inr (.inl ⟨p, q, xs, ys, rfl, rfl, h1, h2, h, z⟩))
theorem s_mul (h : CMul i j) (z : Q (.int (i * j)) H) : rMulU (.int i) (.int j) H Q := .inl ⟨i, j, rfl, rfl, h, z⟩
theorem s_rep (h : H p = some (.lst xs)) (h1 : -(2 ^ 63) ≤ j) (h2 : j < 2 ^ 63) (h3 : xs.length * j.toNat ≤ sizeLine) (z : ∀ l, H l = none → Q (.ref l) (upd H l (.lst (List.replicate j.toNat xs).flatten))) : rMulU (.ref p) (.int j) H Q :=
  .inr ⟨p, j, xs, rfl, rfl, h, h1, h2, h3, z⟩
theorem s_sub (z : Q (.int (i - j)) H) : rSubU (.int i) (.int j) H Q := ⟨i, j, rfl, rfl, z⟩
theorem s_div (h : CDivN i j) (z : Q (.int (i.fdiv j)) H) : rDivU (.int i) (.int j) H Q := ⟨i, j, rfl, rfl, h, z⟩
theorem s_mod (h : j ≠ 0) (z : Q (.int (i.fmod j)) H) : rModU (.int i) (.int j) H Q := ⟨i, j, rfl, rfl, h, z⟩
theorem s_pow (h : CPow i j) (z : Q (.int (i ^ j.toNat)) H) : rPowU (.int i) (.int j) H Q := ⟨i, j, rfl, rfl, h, z⟩
theorem s_lt (z : Q (.bl (decide (i < j))) H) : rLtU (.int i) (.int j) H Q := ⟨i, j, rfl, rfl, z⟩
theorem s_le (z : Q (.bl (decide (i ≤ j))) H) : rLeU (.int i) (.int j) H Q := ⟨i, j, rfl, rfl, z⟩
theorem s_gt (z : Q (.bl (decide (j < i))) H) : rGtU (.int i) (.int j) H Q := ⟨i, j, rfl, rfl, z⟩
theorem s_ge (z : Q (.bl (decide (j ≤ i))) H) : rGeU (.int i) (.int j) H Q := ⟨i, j, rfl, rfl, z⟩
theorem s_eq (h : scal x y = true) (z : Q (.bl (decide (x = y))) H) : rEqU K x y H Q := .inl ⟨h, z⟩
theorem s_ne (h : scal x y = true) (z : Q (.bl (!decide (x = y))) H) : rNeU K x y H Q := .inl ⟨h, z⟩
theorem s_isN (z : Q (.bl (decide (x = .non))) H) : rIsU false x .non H Q := ⟨rfl, z⟩
theorem s_notN (z : Q (.bl (!decide (x = .non))) H) : rIsU true x .non H Q := ⟨rfl, z⟩
theorem s_inS {c : Nat} (z : Q (.bl (decide (c ∈ a.cps.toList))) H) : rInU K false (.str ⟨#[c]⟩) (.str a) H Q := .inl ⟨c, a, rfl, rfl, z⟩
theorem s_notInS {c : Nat} (z : Q (.bl (!decide (c ∈ a.cps.toList))) H) : rInU K true (.str ⟨#[c]⟩) (.str a) H Q := .inl ⟨c, a, rfl, rfl, z⟩
theorem s_inL (h : SqL K H p xs ∨ SqT K H p xs) (h1 : flatV x = true) (h2 : xs.all flatV = true) (z : Q (.bl (inV x xs)) H) : rInU K false x (.ref p) H Q := .inr (.inl ⟨p, xs, rfl, h, h1, h2, z⟩)
theorem s_notInL (h : SqL K H p xs ∨ SqT K H p xs) (h1 : flatV x = true) (h2 : xs.all flatV = true) (z : Q (.bl (!inV x xs)) H) : rInU K true x (.ref p) H Q := .inr (.inl ⟨p, xs, rfl, h, h1, h2, z⟩)
theorem s_ixL (h : SqL K H p xs) (h1 : atI xs i = some v) (z : Q v H) : rIx K (.ref p) (.int i) H Q := .inl ⟨p, xs, i, v, rfl, rfl, h, h1, z⟩
theorem s_ixT (h : SqT K H p xs) (h1 : atI xs i = some v) (z : Q v H) : rIx K (.ref p) (.int i) H Q := .inr (.inl ⟨p, xs, i, v, rfl, rfl, h, h1, z⟩)
theorem s_ixS {c : Nat} (h : a.length ≤ sizeLine) (h1 : atI a.cps.toList i = some c) (z : Q (.str ⟨#[c]⟩) H) : rIx K (.str a) (.int i) H Q := .inr (.inr ⟨a, i, c, rfl, rfl, h, h1, z⟩)
theorem s_sl {r : V → Option Int → Option Int → Hp → VK → Prop} {tl th : TO} (z : ta σ H fun x H1 => tl σ H1 fun l H2 => th σ H2 fun u H3 => r x l u H3 Q) : tSl r ta tl th σ H Q := z
theorem s_noPart {QO : Option Int → Hp → Prop} (z : QO none H) : tNoPart σ H QO := z
theorem s_part {QO : Option Int → Hp → Prop} (z : ta σ H fun x H1 => ∃ i, x = .int i ∧ QO (some i) H1) : tPart ta σ H QO := z
theorem s_partI {R : Int → Prop} (z : R i) : ∃ i', V.int i = .int i' ∧ R i' := ⟨i, rfl, z⟩
theorem s_slS {lo hi : Option Int} (h : a.length ≤ sizeLine) (z : Q (.str (cutS a lo hi)) H) : rSlU K (.str a) lo hi H Q := .inr (.inr ⟨a, rfl, h, z⟩)
theorem s_slL {lo hi : Option Int} (h : SqL K H p xs) (z : ∀ l, H l = none → Q (.ref l) (upd H l (.lst (cutV xs lo hi)))) : rSlU K (.ref p) lo hi H Q := .inl ⟨p, xs, rfl, h, z⟩
theorem s_nil (z : QA [] H) : tNil σ H QA := z
theorem s_cons (z : ta σ H fun x H1 => tr σ H1 fun xs H2 => QA (x :: xs) H2) : tCons ta tr σ H QA := z
theorem s_tup (z : tr σ H fun xs H1 => xs.length ≤ sizeLine ∧ ∀ p, H1 p = none → Q (.ref p) (upd H1 p (.tup xs))) : tTup tr σ H Q := z
theorem s_lst (z : tr σ H fun xs H1 => xs.length ≤ sizeLine ∧ ∀ p, H1 p = none → Q (.ref p) (upd H1 p (.lst xs))) : tLst tr σ H Q := z
theorem s_new {C : Prop} (h : n ≤ 1000) (z : C) : n ≤ sizeLine ∧ C := ⟨Nat.le_of_lt (small1000 h), z⟩
theorem s_call {sp : Sp} (z : tr σ H fun vs H1 => sp (vs ++ []) H1 Q E) : tCall sp [] E tr σ H Q := z
theorem s_sp1 {P : V → Hp → VK → XK → Prop} (z : P x H Q E) : sp1 P ([x] ++ []) H Q E := ⟨x, rfl, z⟩
theorem s_sp2 {P : V → V → Hp → VK → XK → Prop} (z : P x y H Q E) : sp2 P ([x, y] ++ []) H Q E := ⟨x, y, rfl, z⟩
theorem s_sp3 {P : V → V → V → Hp → VK → XK → Prop} (z : P x y v H Q E) : sp3 P ([x, y, v] ++ []) H Q E := ⟨x, y, v, rfl, z⟩
theorem s_cb {r : List V → Hp → VK → Prop} (z : tr σ H fun vs H1 => r vs H1 Q) : tCB r tr σ H Q := z
theorem s_len {R : Nat → Prop} (h : LenV K x H n) (z : R n) : ∃ x' n', [x] = [x'] ∧ LenV K x' H n' ∧ R n' := ⟨x, n, rfl, h, z⟩
theorem s_and (z : tt σ H fun c H1 => if c = true then uu σ H1 QB else QB false H1) : tAnd tt uu σ H QB := z
theorem s_or (z : tt σ H fun c H1 => if c = true then QB true H1 else uu σ H1 QB) : tOr tt uu σ H QB := z
theorem s_not (z : tt σ H fun c H1 => QB (!c) H1) : tNot tt σ H QB := z
theorem s_andV (z : ta σ H fun x H1 => ∃ c, x = .bl c ∧ if c = true then tb σ H1 Q else Q (.bl false) H1) : tAndV ta tb σ H Q := z
theorem s_orV (z : ta σ H fun x H1 => ∃ c, x = .bl c ∧ if c = true then Q (.bl true) H1 else tb σ H1 Q) : tOrV ta tb σ H Q := z
theorem s_notV (z : ta σ H fun x H1 => ∃ c, x = .bl c ∧ Q (.bl (!c)) H1) : tNotV ta σ H Q := z
theorem s_bln {R : Bool → Prop} (e : k = true) (z : R true) : ∃ k', V.bl k = .bl k' ∧ R k' := ⟨true, by rw [e], z⟩
theorem s_if (z : tt σ H fun c H1 => if c = true then ta σ H1 Q else tb σ H1 Q) : tIf tt ta tb σ H Q := z
theorem s_chain {r r' : R2} (z : ta σ H fun x H1 => tb σ H1 fun y H2 => r x y H2 fun z H3 => ∃ k, z = .bl k ∧ (if k = true then tc σ H3 fun w' H4 => r' y w' H4 Q else Q (.bl false) H3)) : tChain r r' ta tb tc σ H Q := z
theorem s_tr (z : ta σ H fun x H' => ∃ k, TruV K x H' k ∧ QB k H') : tTr K ta σ H QB := z
theorem s_truB {R : Bool → Prop} (z : R k) : ∃ k', TruV K (.bl k) H k' ∧ R k' := ⟨k, rfl, z⟩
theorem s_truL {R : Bool → Prop} (h : SqL K H p xs) (z : R (!xs.isEmpty)) : ∃ k', TruV K (.ref p) H k' ∧ R k' := ⟨_, .inl ⟨xs, h, rfl⟩, z⟩
theorem s_listL (h : SqL K H p xs ∨ SqT K H p xs) (z : ∀ l, H l = none → Q (.ref l) (upd H l (.lst xs))) : rListU K [.ref p] H Q := .inl ⟨p, xs, rfl, h, z⟩
theorem s_listS (h : a.length ≤ sizeLine) (z : ∀ l, H l = none → Q (.ref l) (upd H l (.lst (signsV a)))) : rListU K [.str a] H Q := .inr ⟨a, rfl, h, z⟩
theorem s_m1 {r : V → List V → Hp → VK → Prop} (z : ta σ H fun x H1 => (∃ a, x = .str a) ∧ tb σ H1 fun y H2 => r x [y] H2 Q) : tM1 r ta tb σ H Q := z
theorem s_m0 {r : V → List V → Hp → VK → Prop} (z : ta σ H fun x H1 => (∃ a, x = .str a) ∧ r x [] H1 Q) : tM0 r ta σ H Q := z
theorem s_isStr {C : Prop} (z : C) : (∃ b, V.str a = .str b) ∧ C := ⟨⟨a, rfl⟩, z⟩
/-! statements -/
theorem s_start {σ' : St} (e : σ = σ') (z : ts D σ' H) : ts D σ H := e ▸ z
theorem s_seq {nx : St → Hp → Prop} {rt : VK} {bk ct : St → Hp → Prop} (z : ts ⟨us ⟨nx, rt, bk, ct⟩, rt, bk, ct⟩ σ H) : tSeq ts us ⟨nx, rt, bk, ct⟩ σ H := z
theorem s_next (z : D.nx σ H) : tNext D σ H := z
theorem s_brk (z : D.bk σ H) : tBreak D σ H := z
theorem s_cont (z : D.ct σ H) : tCont D σ H := z
theorem s_drop (z : ta σ H fun _ H1 => D.nx σ H1) : tDrop ta D σ H := z
theorem s_ret (z : ta σ H D.rt) : tRet ta D σ H := z
theorem s_ifS (z : tt σ H fun b H1 => if b = true then ts D σ H1 else us D σ H1) : tIfS tt ts us D σ H := z
theorem s_asg {g : TG} (z : ta σ H fun x H1 => g x σ H1 D.nx) : tAsg ta g D σ H := z
theorem s_gName {R : St → Hp → Prop} (z : R (σ.set n (some v)) H) : gName n v σ H R := z
theorem s_gSub {R : St → Hp → Prop} {to ti : TE} {t : TSet} (z : to σ H fun o H1 => ti σ H1 fun i H2 => t o i v H2 fun H3 => R σ H3) : gSub to ti t v σ H R := z
theorem s_setL {R : Hp → Prop} (h : H p = some (.lst xs)) (h1 : ixN xs.length i = some n) (z : R (upd H p (.lst (xs.set n v)))) : rSetL (.ref p) (.int i) v H R := ⟨p, xs, i, n, rfl, rfl, h, h1, z⟩
theorem s_gTup {R : St → Hp → Prop} {t : TGs} (h : SqT K H p xs) (h1 : xs.length = n) (z : t xs σ H R) : gTup K n t (.ref p) σ H R := ⟨p, xs, rfl, h, h1, z⟩
theorem s_gCons {R : St → Hp → Prop} {t : TG} {u : TGs} (z : t x σ H fun σ' H' => u xs σ' H' R) : gCons t u (x :: xs) σ H R := ⟨x, xs, rfl, z⟩
theorem s_gNil {R : St → Hp → Prop} (z : R σ H) : gNil [] σ H R := ⟨rfl, z⟩
theorem s_nx {nx : St → Hp → Prop} {rt : VK} {bk ct : St → Hp → Prop} (z : nx σ H) : Ends.nx ⟨nx, rt, bk, ct⟩ σ H := z
theorem s_rt {nx : St → Hp → Prop} {rt : VK} {bk ct : St → Hp → Prop} (z : rt v H) : Ends.rt ⟨nx, rt, bk, ct⟩ v H := z
theorem s_bk {nx : St → Hp → Prop} {rt : VK} {bk ct : St → Hp → Prop} (z : bk σ H) : Ends.bk ⟨nx, rt, bk, ct⟩ σ H := z
theorem s_ct {nx : St → Hp → Prop} {rt : VK} {bk ct : St → Hp → Prop} (z : ct σ H) : Ends.ct ⟨nx, rt, bk, ct⟩ σ H := z
theorem s_seqJ {nx0 : St → Hp → Prop} {rt : VK} {bk ct : St → Hp → Prop} (J : St → Hp → Prop) (h2 : ∀ σ' H', J σ' H' → us ⟨nx0, rt, bk, ct⟩ σ' H') (h1 : ∀ nx : St → Hp → Prop, (∀ σ' H', J σ' H' → nx σ' H') → ts ⟨nx, rt, bk, ct⟩ σ H) : tSeq ts us ⟨nx0, rt, bk, ct⟩ σ H := h1 _ h2
theorem s_abs {R : Int → Prop} (z : R i) : ∃ i', [V.int i] = [.int i'] ∧ R i' := ⟨i, rfl, z⟩
theorem s_lenL {R : Nat → Prop} (h : SqL K H p xs) (z : R xs.length) : ∃ x' n', [V.ref p] = [x'] ∧ LenV K x' H n' ∧ R n' := ⟨_, _, rfl, .inl ⟨_, h, rfl⟩, z⟩
theorem s_lenT {R : Nat → Prop} (h : SqT K H p xs) (z : R xs.length) : ∃ x' n', [V.ref p] = [x'] ∧ LenV K x' H n' ∧ R n' := ⟨_, _, rfl, .inr ⟨_, h, rfl⟩, z⟩
theorem s_lenS {R : Nat → Prop} (h : a.length ≤ sizeLine) (z : R a.length) : ∃ x' n', [V.str a] = [x'] ∧ LenV K x' H n' ∧ R n' := ⟨_, _, rfl, ⟨h, rfl⟩, z⟩
/-- a branch -/
theorem br {c : Prop} [Decidable c] {A B : Prop} (h1 : c → A) (h2 : ¬ c → B) : if decide c = true then A else B := by
  by_cases h : c
  · rw [if_pos (decide_eq_true h)]
    exact h1 h
  · rw [if_neg (by rw [decide_eq_false h]; exact Bool.false_ne_true)]
    exact h2 h
theorem brN {c : Prop} [Decidable c] {A B : Prop} (h1 : ¬ c → A) (h2 : c → B) : if (!decide c) = true then A else B := by
  by_cases h : c
  · rw [if_neg (by rw [decide_eq_true h]; exact Bool.false_ne_true)]
    exact h2 h
  · rw [if_pos (by rw [decide_eq_false h]; rfl)]
    exact h1 h
theorem brB {c : Bool} {A B : Prop} (h1 : c = true → A) (h2 : c = false → B) : if c = true then A else B := by
  cases c
  · exact iteF (h2 rfl)
  · exact iteT (h1 rfl)
theorem same_upd {H : Hp} {p : Addr} {o : HO} (h : H p = none) : Same H (upd H p o) := fun b x e => by
  rw [upd_ne (ne_of_none e h)]
  exact e
theorem Same.sqT {K : PySem.W.Frag} {H H' : Hp} {a : Addr} {xs : List V} (e : Same H H') (h : SqT K H a xs) : SqT K H' a xs := by
  rcases h with (h | ⟨o, h⟩) | h
  · exact .inl (.inl (e _ _ h))
  · exact .inl (.inr ⟨o, e _ _ h⟩)
  · exact .inr h
end
end L2.U
/-! D: what the laws' own helpers promise (a draw, a list begun, one of a row, sameness), comprehensions by a word. Own text. -/
namespace L2.U
open PySem PySem.Spec PyProof.Rows RZ
/-! ### the heap but for one object -/
def Keep (p : Addr) (H H' : Hp) : Prop := ∀ b o, b ≠ p → H b = some o → H' b = some o
theorem Keep.refl (p : Addr) (H : Hp) : Keep p H H := fun _ _ _ h => h
theorem Keep.trans {p : Addr} {H H' H'' : Hp} (a : Keep p H H') (b : Keep p H' H'') : Keep p H H'' := fun c o n h => b c o n (a c o n h)
theorem Keep.upd {p : Addr} {H : Hp} {o : HO} : Keep p H (upd H p o) := fun c u n h => by rw [upd_ne n]; exact h
theorem Same.keep {p : Addr} {H H' : Hp} (s : Same H H') : Keep p H H' := fun b o _ h => s b o h
theorem Keep.sqL {K : PySem.W.Frag} {p a : Addr} {H H' : Hp} {xs : List V} (k : Keep p H H') (n : a ≠ p) (h : SqL K H a xs) : SqL K H' a xs := by
  rcases h with (h | ⟨o, h⟩) | h
  · exact .inl (.inl (k _ _ n h))
  · exact .inl (.inr ⟨o, k _ _ n h⟩)
  · exact .inr h
theorem Keep.free {p a : Addr} {H H' : Hp} (k : Keep p H H') (n : a ≠ p) (h : H' a = none) : H a = none := by
  cases q : H a with
  | none => rfl
  | some o =>
    rw [k a o n q] at h
    cases h
structure Draw (H : Hp) (p a : Addr) : Prop where
  ex : ∃ (ns : List Int) (c h s : Int), H p = some (.lst [.ref a, .int c, .int h, .int s]) ∧ H a = some (.lst (ns.map V.int)) ∧ a ≠ p ∧ ns.length ≤ 1000 ∧ 0 ≤ c ∧ 0 ≤ h ∧ 0 ≤ s ∧ s < 2147483647
theorem Draw.same {H H' : Hp} {p a : Addr} (d : Draw H p a) (s : Same H H') : Draw H' p a := by
  obtain ⟨ns, c, h, t, e, hS, r⟩ := d.ex
  exact ⟨ns, c, h, t, s _ _ e, s _ _ hS, r⟩
theorem Draw.ne {H : Hp} {p a q : Addr} (d : Draw H p a) (h : H q = none) : q ≠ p := fun e => by
  obtain ⟨ns, c, g, t, e2, hS, r⟩ := d.ex
  rw [e, e2] at h
  cases h
theorem Draw.ne2 {H : Hp} {p a q : Addr} (d : Draw H p a) (h : H q = none) : q ≠ a := fun e => by
  obtain ⟨ns, c, g, t, e2, hS, r⟩ := d.ex
  rw [e, hS] at h
  cases h
theorem Draw.updN {H : Hp} {p a q : Addr} {o : HO} (d : Draw H p a) (n : q ≠ p) (m : q ≠ a) : Draw (upd H q o) p a := by
  obtain ⟨ns, c, h, t, e, hS, r⟩ := d.ex
  exact ⟨ns, c, h, t, by rw [upd_ne n.symm]; exact e, by rw [upd_ne m.symm]; exact hS, r⟩
/-! ### promises -/
abbrev spTake : Sp := sp2 fun d n H Q _ => ∃ (p a : Addr) (k : Int), d = .ref p ∧ n = .int k ∧ 0 < k ∧ k < 1073741824 ∧ Draw H p a ∧ ∀ H' r, Keep p H H' → Draw H' p a → 0 ≤ r → r < k → Q (.int r) H'
abbrev spBegin (K : PySem.W.Frag) : Sp := sp1 fun v H Q _ => ∃ (b : Addr) (ns : List Int), v = .ref b ∧ SqL K H b (ns.map V.int) ∧ ns.length ≤ 63 ∧ ∀ H' p a, Same H H' → H p = none → Draw H' p a → Q (.ref p) H'
abbrev spOne (K : PySem.W.Frag) : Sp := sp2 fun d r H Q _ => ∃ (p a b : Addr) (xs : List V), d = .ref p ∧ r = .ref b ∧ b ≠ p ∧ SqL K H b xs ∧ 0 < xs.length ∧ xs.length < 1000000 ∧ Draw H p a ∧ ∀ H' v, Keep p H H' → Draw H' p a → v ∈ xs → Q v H'
def OkD : Nat → PyData → Prop
  | 0, _ => False
  | n + 1, .list ds => ds.length ≤ 1000000 ∧ ∀ d ∈ ds, OkD n d
  | n + 1, .tuple ds => ds.length ≤ 1000000 ∧ ∀ d ∈ ds, OkD n d
  | _ + 1, .dict _ => False
  | _ + 1, _ => True
abbrev spSame (K : PySem.W.Frag) (n : Nat) : Sp := sp2 fun x y H Q _ => ∃ d : PyData, Dp K H x d ∧ Dp K H y d ∧ OkD n d ∧ ∀ H', Same H H' → Q (.bl true) H'
/-! ### data -/
section
variable {K : PySem.W.Frag} {H H' : Hp}
mutual
theorem Dp.same (s : Same H H') : ∀ (d : PyData) (v : V), Dp K H v d → Dp K H' v d
  | .none, _, h => by cases h; exact .non
  | .bool b, _, h => by cases h; exact .bl b
  | .int i, _, h => by cases h; exact .int i
  | .str x, _, h => by cases h; exact .str x
  | .list ds, _, h => by
    cases h with
    | lst hs ha => exact .lst (s.seq hs) (Dp.sameAll s ds _ ha)
  | .tuple ds, _, h => by
    cases h with
    | tup hs ha => exact .tup (Same.sqT s hs) (Dp.sameAll s ds _ ha)
  | .dict _, _, h => by cases h
theorem Dp.sameAll (s : Same H H') : ∀ (ds : List PyData) (vs : List V), DpAll K H vs ds → DpAll K H' vs ds
  | [], _, h => by cases h; exact .nil
  | d :: ds, _, h => by
    cases h with
    | cons h1 h2 => exact .cons (Dp.same s d _ h1) (Dp.sameAll s ds _ h2)
end
theorem DpAll.length : ∀ {vs : List V} {ds : List PyData}, DpAll K H vs ds → vs.length = ds.length
  | _, _, .nil => rfl
  | _, _, .cons _ h => by rw [List.length_cons, List.length_cons, DpAll.length h]
theorem DpAll.get : ∀ {vs : List V} {ds : List PyData} {i : Nat} {v : V}, DpAll K H vs ds → vs[i]? = some v → ∃ d, ds[i]? = some d ∧ Dp K H v d
  | _, _, _, _, .nil, e => by simp at e
  | _, _, 0, _, .cons h _, e => by
    cases e
    exact ⟨_, rfl, h⟩
  | _, _, i + 1, v, .cons _ h, e => DpAll.get (i := i) (v := v) h e
end
/-! ### kinds -/
def tyD : PyData → String
  | .none => "NoneType" | .bool _ => "bool" | .int _ => "int" | .str _ => "str" | .list _ => "list" | .tuple _ => "tuple" | .dict _ => "dict"
def isList : PyData → Bool
  | .list _ => true | _ => false
def isSeq : PyData → Bool
  | .list _ => true | .tuple _ => true | _ => false
def isBool : PyData → Bool
  | .bool _ => true | _ => false
def isStr : PyData → Bool
  | .str _ => true | _ => false
section
variable {K : PySem.W.Frag} {H : Hp} {Q : VK} {x : V} {d : PyData}
theorem Dp.ty (h : Dp K H x d) : TyX K H x (.type (tyD d)) := by
  cases h with
  | non => exact .base .non
  | bl b => exact .base (.bl b)
  | int i => exact .base (.int i)
  | str z => exact .base (.str z)
  | lst hs _ =>
    rcases hs with (h | ⟨o, h⟩) | ⟨o, its, n, e, c, _⟩
    · exact .base (.lst h)
    · exact .base (.frz h)
    · exact .kList e c
  | tup hs _ =>
    rcases hs with (h | ⟨o, h⟩) | ⟨o, its, n, e, c, _⟩
    · exact .base (.tup h)
    · exact .fTuple h
    · exact .kTuple e c
theorem s_isiLT {tp : Addr} (hd : Dp K H x d) (h : H tp = some (.tup [.ty "list", .ty "tuple"])) (z : Q (.bl (isSeq d)) H) : rIsiT K [x, .ref tp] H Q :=
  ⟨x, tp, _, _, [.type "list", .type "tuple"], isSeq d, rfl, h, .cons (.ty _) (.cons (.ty _) .nil), Dp.ty hd, by clear hd z; cases d <;> rfl, z⟩
theorem s_isiL (hd : Dp K H x d) (z : Q (.bl (isList d)) H) : rIsi K [x, .ty "list"] H Q := ⟨x, _, _, _, isList d, rfl, .ty _, Dp.ty hd, by clear hd z; cases d <;> rfl, z⟩
theorem s_isiB (hd : Dp K H x d) (z : Q (.bl (isBool d)) H) : rIsi K [x, .ty "bool"] H Q := ⟨x, _, _, _, isBool d, rfl, .ty _, Dp.ty hd, by clear hd z; cases d <;> rfl, z⟩
theorem s_isiS (hd : Dp K H x d) (z : Q (.bl (isStr d)) H) : rIsi K [x, .ty "str"] H Q := ⟨x, _, _, _, isStr d, rfl, .ty _, Dp.ty hd, by clear hd z; cases d <;> rfl, z⟩
theorem s_isNV (z : Q (.bl (decide (x = .non))) H) : tIsN (fun _ H Q => Q x H) [] H Q := z
end
/-! ### comprehensions -/
def lcB (J : It) (g : TG) (tt : TT) (te : TE) (vs : List Nat) (σ : St) (H1 : Hp) (Q : VK) : Prop :=
  ∀ D, H1 D = none → ∃ W : Nat → Nat → Hp → Prop, (∃ m, W 0 m (upd H1 D (.lst []))) ∧ ∀ i m H, W i m H →
  (J.stop i H ∧ Q (.ref D) H) ∨ (J.go i H ∧ ∃ Nx : Hp → Prop, (∀ H', Nx H' → ∃ m', m' < m ∧ W (i + 1) m' H') ∧ ∀ x H', J.yld i H x H' → g x (wipe σ vs) H' fun σ2 H2 => wipe σ2 vs = wipe σ vs ∧ tt σ2 H2 fun b H3 =>
    if b = true then te σ2 H3 fun y H4 => ∃ acc, H4 D = some (.lst acc) ∧ acc.length < sizeLine ∧ Nx (upd H4 D (.lst (acc ++ [y]))) else Nx H3)
/-- what an element's end is asked -/
def LcPost (S : Addr → Nat → List V → Hp → Prop) (D : Addr) (i : Nat) (y : V) (H4 : Hp) : Prop :=
  ∃ acc, H4 D = some (.lst acc) ∧ acc.length < sizeLine ∧ (∃ acc', (upd H4 D (.lst (acc ++ [y]))) D = some (.lst acc') ∧ acc'.length = i + 1 ∧ S D (i + 1) acc' (upd H4 D (.lst (acc ++ [y]))))
theorem LcPost.mk {S : Addr → Nat → List V → Hp → Prop} {D : Addr} {i : Nat} {y : V} {H4 : Hp} {acc : List V} (h : H4 D = some (.lst acc)) (l : acc.length = i) (n : i < 1000000) (s : S D (i + 1) (acc ++ [y]) (upd H4 D (.lst (acc ++ [y])))) : LcPost S D i y H4 :=
  ⟨acc, h, by rw [l]; exact Nat.lt_trans n (by decide), _, upd_same, by rw [List.length_append, l]; rfl, s⟩
section
variable {K : PySem.W.Frag} {σ : St} {H1 : Hp} {Q : VK} {J : It} {g : TG} {te : TE} {vs : List Nat}
theorem tYes_mk {H : Hp} {R : Bool → Hp → Prop} (z : R true H) : tYes σ H R := z
theorem s_lc {wi : TI} {tt : TT} (z : wi σ H1 fun J H => lcB J g tt te vs σ H Q) : tLc wi g tt te vs σ H1 Q := z
theorem s_iStr {ta : TE} {R : It → Hp → Prop} (z : ta σ H1 fun v H => ∃ x, v = .str x ∧ R (Its x) H) : iStr ta σ H1 R := z
theorem s_str {a : Str} {R : Str → Prop} (z : R a) : ∃ x, V.str a = .str x ∧ R x := ⟨a, rfl, z⟩
theorem s_iRng1 {ta : TA} {R : It → Hp → Prop} (z : ta σ H1 fun vs H => ∃ j : Int, vs = [.int j] ∧ -(2 ^ 62) ≤ j ∧ j < 2 ^ 62 ∧ R (Itr 0 j.toNat) H) : iRng1 ta σ H1 R := z
theorem s_rng1 {j : Int} {R : Int → Prop} (h1 : -(2 ^ 62) ≤ j) (h2 : j < 2 ^ 62) (z : R j) : ∃ k : Int, [V.int j] = [.int k] ∧ -(2 ^ 62) ≤ k ∧ k < 2 ^ 62 ∧ R k := ⟨j, rfl, h1, h2, z⟩
theorem s_iList {ta : TE} {R : It → Hp → Prop} (z : ta σ H1 fun v H => ∃ a, v = .ref a ∧ (∃ xs, SqL K H a xs) ∧ R (Itl K a) H) : iList K ta σ H1 R := z
theorem s_iTup {ta : TE} {R : It → Hp → Prop} (z : ta σ H1 fun v H => ∃ a, v = .ref a ∧ (∃ xs, SqT K H a xs) ∧ R (Itt K a) H) : iTup K ta σ H1 R := z
theorem s_itL {a : Addr} {xs : List V} {R : Addr → Prop} (h : SqL K H1 a xs) (z : R a) : ∃ b, V.ref a = .ref b ∧ (∃ xs, SqL K H1 b xs) ∧ R b := ⟨a, rfl, ⟨xs, h⟩, z⟩
theorem s_itT {a : Addr} {xs : List V} {R : Addr → Prop} (h : SqT K H1 a xs) (z : R a) : ∃ b, V.ref a = .ref b ∧ (∃ xs, SqT K H1 b xs) ∧ R b := ⟨a, rfl, ⟨xs, h⟩, z⟩
theorem s_iZipA {ta : TA} {R : It → Hp → Prop} (z : ta σ H1 fun vs H => ∃ a b xs ys, vs = [.ref a, .ref b] ∧ ((SqL K H a xs ∧ SqL K H b ys ∧ R (Itz K a b) H) ∨ (SqT K H a xs ∧ SqT K H b ys ∧ R (ItzT K a b) H))) : iZipA K ta σ H1 R := z
def forB (J : It) (g : TG) (tb : TS) (D : Ends) (σ : St) (H : Hp) : Prop := ∃ W : Nat → Nat → St → Hp → Prop, (∃ m, W 0 m σ H) ∧ ∀ i m σ H, W i m σ H →
  (J.stop i H ∧ D.nx σ H) ∨ (J.go i H ∧ ∃ N : St → Hp → Prop, (∀ σ' H', N σ' H' → ∃ m', m' < m ∧ W (i + 1) m' σ' H') ∧ ∀ x H', J.yld i H x H' → g x σ H' fun σ2 H2 => tb { D with nx := N, ct := N, bk := D.nx } σ2 H2)
theorem s_for {wi : TI} {tb : TS} {D : Ends} (z : wi σ H1 fun J H => forB J g tb D σ H) : tFor wi g tb D σ H1 := z
theorem forB_range {lo : Int} {n : Nat} {tb : TS} {nx : St → Hp → Prop} {rt : VK} {bk ct : St → Hp → Prop} (Pv : Nat → St → Hp → Prop) (h0 : Pv 0 σ H1)
    (hs : ∀ i σ H, i < n → Pv i σ H → g (.int (lo + i)) σ H fun σ2 H2 => tb ⟨Pv (i + 1), rt, nx, Pv (i + 1)⟩ σ2 H2) (hd : ∀ σ H, Pv n σ H → nx σ H) : forB (Itr lo n) g tb ⟨nx, rt, bk, ct⟩ σ H1 := for_range Pv h0 hs hd
theorem forB_list {a : Addr} {xs : List V} {tb : TS} {nx : St → Hp → Prop} {rt : VK} {bk ct : St → Hp → Prop} (Pv : Nat → St → Hp → Prop) (h0 : Pv 0 σ H1) (hl : ∀ i σ H, i ≤ xs.length → Pv i σ H → SqL K H a xs)
    (hs : ∀ i x σ H, xs[i]? = some x → Pv i σ H → g x σ H fun σ2 H2 => tb ⟨Pv (i + 1), rt, nx, Pv (i + 1)⟩ σ2 H2) (hd : ∀ σ H, Pv xs.length σ H → nx σ H) : forB (Itl K a) g tb ⟨nx, rt, bk, ct⟩ σ H1 := for_list Pv h0 hl hs hd
/-- a comprehension without tests, by a word S (the new list's place, the turn, what it holds, the heap) -/
theorem lcB_of (n : Nat) (S : Addr → Nat → List V → Hp → Prop) (hn : n ≤ 1000000) (h0 : ∀ D, H1 D = none → S D 0 [] (upd H1 D (.lst [])))
    (hgo : ∀ D i acc H, H1 D = none → i < n → S D i acc H → J.go i H) (hst : ∀ D acc H, H1 D = none → S D n acc H → J.stop n H)
    (hs : ∀ D i acc H x H', H1 D = none → i < n → H D = some (.lst acc) → acc.length = i → S D i acc H → J.yld i H x H' → g x (wipe σ vs) H' fun σ2 H2 => wipe σ2 vs = wipe σ vs ∧ te σ2 H2 (LcPost S D i))
    (hd : ∀ D acc H, H1 D = none → H D = some (.lst acc) → acc.length = n → S D n acc H → Q (.ref D) H)
    (mono : ∀ x σ2 H' R R', (∀ a b, R a b → R' a b) → g x σ2 H' R → g x σ2 H' R') : lcB J g tYes te vs σ H1 Q := by
  intro D hD
  refine ⟨fun i m H => m = n - i ∧ i ≤ n ∧ ∃ acc, H D = some (.lst acc) ∧ acc.length = i ∧ S D i acc H, ⟨n, rfl, Nat.zero_le _, [], upd_same, rfl, h0 D hD⟩, ?_⟩
  rintro i m H ⟨rfl, hi, acc, ha, hl, hS⟩
  by_cases hlt : i < n
  · refine .inr ⟨hgo D i acc H hD hlt hS, fun H' => ∃ acc', H' D = some (.lst acc') ∧ acc'.length = i + 1 ∧ S D (i + 1) acc' H', fun H' ⟨acc', e1, e2, e3⟩ => ⟨n - (i + 1), by omega, rfl, hlt, acc', e1, e2, e3⟩, fun x H' hy => ?_⟩
    refine mono _ _ _ _ _ (fun σ2 H2 z => ?_) (hs D i acc H x H' hD hlt ha hl hS hy)
    refine ⟨z.1, tYes_mk ?_⟩
    exact iteT z.2
  · have e : i = n := by omega
    subst e
    exact .inl ⟨hst D acc H hD hS, hd D acc H hD ha hl hS⟩
theorem gName_mono {i : Nat} : ∀ x (σ2 : St) (H' : Hp) (R R' : St → Hp → Prop), (∀ a b, R a b → R' a b) → gName i x σ2 H' R → gName i x σ2 H' R' := fun _ _ _ _ _ h z => h _ _ z
theorem gTup2_mono {K : PySem.W.Frag} {i j : Nat} : ∀ x (σ2 : St) (H' : Hp) (R R' : St → Hp → Prop), (∀ a b, R a b → R' a b) → gTup K 2 (gCons (gName i) (gCons (gName j) gNil)) x σ2 H' R → gTup K 2 (gCons (gName i) (gCons (gName j) gNil)) x σ2 H' R' := by
  rintro x σ2 H' R R' h ⟨a, xs, e, hs, hl, v, r, e2, v2, r2, e3, e4, z⟩
  exact ⟨a, xs, e, hs, hl, v, r, e2, v2, r2, e3, e4, h _ _ z⟩
/-- each sign of a text, by a function, the heap as it is -/
theorem lcB_str {a : Str} {i : Nat} (f : Nat → V) (hn : a.length ≤ 1000000) (hw : ∀ x, wipe ((wipe σ vs).set i (some x)) vs = wipe σ vs)
    (he : ∀ c H R, R (f c) H → te ((wipe σ vs).set i (some (.str ⟨#[c]⟩))) H R) (q : ∀ D, H1 D = none → Q (.ref D) (upd H1 D (.lst (a.cps.toList.map f)))) : lcB (Its a) (gName i) tYes te vs σ H1 Q := by
  refine lcB_of a.cps.size (fun D n acc H => acc = (a.cps.toList.take n).map f ∧ H = upd H1 D (.lst acc)) hn (fun D _ => ⟨rfl, rfl⟩) (fun D i acc H _ h _ => h) (fun D acc H _ _ => Nat.le_refl _) ?_ ?_ gName_mono
  · rintro D k acc H x H' hD hk ha hl ⟨e1, e2⟩ ⟨rfl, c, hc, rfl⟩
    refine ⟨hw _, he c _ _ (LcPost.mk ha hl (Nat.lt_of_lt_of_le hk hn) ⟨?_, ?_⟩)⟩
    · rw [List.take_add_one, show a.cps.toList[k]? = some c by rw [Array.getElem?_toList]; exact hc, List.map_append, ← e1]
      rfl
    · rw [e2, upd_upd]
  · rintro D acc H hD ha hl ⟨e1, rfl⟩
    have e : acc = a.cps.toList.map f := by rw [e1, List.take_of_length_le (by rw [Array.length_toList]; exact Nat.le_refl _)]
    rw [e]
    exact q D hD
end
end L2.U
namespace L2.U
open PySem PySem.Spec PyProof.Rows RZ TL
def topS (i : Nat) : Stmt := PySem.Challenge.pw_hindstep_k01_words_that_are_names.main.body.getD i (.Pass ⟨0, 0, 0, 0⟩)
abbrev s_is_name : Stmt := topS 3
theorem sc_is_name : FnScope ["text", "sign"] ["text"] (defScope s_is_name) := ⟨rfl, rfl, rfl, by decide +kernel, rfl, by decide +kernel, by decide +kernel⟩
abbrev s_is_word : Stmt := topS 5
theorem sc_is_word : FnScope ["text"] ["text"] (defScope s_is_word) := ⟨rfl, rfl, rfl, by decide +kernel, rfl, by decide +kernel, by decide +kernel⟩
abbrev s_law_begin : Stmt := topS 7
theorem sc_law_begin : FnScope ["_law_script"] ["_law_script"] (defScope s_law_begin) := ⟨rfl, rfl, rfl, by decide +kernel, rfl, by decide +kernel, by decide +kernel⟩
abbrev s_law_take : Stmt := topS 8
theorem sc_law_take : FnScope ["_law_draw", "_law_sides", "_law_cell", "_law_got"] ["_law_draw", "_law_sides"] (defScope s_law_take) := ⟨rfl, rfl, rfl, by decide +kernel, rfl, by decide +kernel, by decide +kernel⟩
abbrev s_law_same : Stmt := topS 9
theorem sc_law_same : FnScope ["_law_found", "_law_due", "_law_one_here", "_law_other"] ["_law_found", "_law_due"] (defScope s_law_same) := ⟨rfl, rfl, rfl, by decide +kernel, rfl, by decide +kernel, by decide +kernel⟩
abbrev s_law_one : Stmt := topS 10
theorem sc_law_one : FnScope ["_law_draw", "_law_row"] ["_law_draw", "_law_row"] (defScope s_law_one) := ⟨rfl, rfl, rfl, by decide +kernel, rfl, by decide +kernel, by decide +kernel⟩
abbrev s_law_is_name : Stmt := topS 11
theorem sc_law_is_name : FnScope ["_law_word", "_law_taken", "_law_sign"] ["_law_word"] (defScope s_law_is_name) := ⟨rfl, rfl, rfl, by decide +kernel, rfl, by decide +kernel, by decide +kernel⟩
abbrev s_law_any_word : Stmt := topS 12
theorem sc_law_any_word : FnScope ["_law_draw", "_law_taken", "_law_choice", "_law_word", "_law_signs", "_law_k"] ["_law_draw"] (defScope s_law_any_word) := ⟨rfl, rfl, rfl, by decide +kernel, rfl, by decide +kernel, by decide +kernel⟩
abbrev s_law : Stmt := topS 13
theorem sc_law : FnScope ["_law_script", "_law_draw", "_law_k", "_law_word"] ["_law_script"] (defScope s_law) := ⟨rfl, rfl, rfl, by decide +kernel, rfl, by decide +kernel, by decide +kernel⟩
/-! ### the mathematics -/
def lettersS : Str := Str.ofString "abcdefghijklmnopqrstuvwxyz"
def takenL : List Str := ["fun", "end", "let", "store", "say", "ask", "give", "fail", "call", "if", "else", "while", "try", "catch", "div", "mod", "and", "or", "not", "at"]
def isNm (x : Str) : Bool := decide ((1 : Int) ≤ (x.length : Nat)) && (decide (((x.length : Nat) : Int) ≤ 8) && ((x.cps.toList.map fun c => decide (c ∈ lettersS.cps.toList)).all id && !inV (.str x) (takenL.map V.str)))
theorem flat_strs : ∀ l : List Str, (l.map V.str).all flatV = true
  | [] => rfl
  | x :: l => by
    rw [List.map_cons, List.all_cons, flat_strs l]
    rfl
theorem taken_split : Txt.split (Str.ofString "fun end let store say ask give fail call if else while try catch div mod and or not at") (Str.ofString " ") = takenL := by decide +kernel
def signsL : List Str := ["abcdefghijklmnopqrstuvwxyz", "abcxyz", "aZ0 -_+\n"]
theorem signs_len : ∀ g ∈ signsL, 0 < g.length ∧ g.length ≤ 26 := by decide +kernel
theorem taken_len : ∀ t ∈ takenL, t.length ≤ 5 := by decide +kernel
theorem len_tl (x : Str) : x.length = (tl x).length := Array.length_toList.symm
theorem len_app (x y : Str) : (x ++ y).length = x.length + y.length := by rw [len_tl, tl_append, List.length_append, ← len_tl, ← len_tl]
theorem sum_len1 : ∀ ss : List Str, (∀ z ∈ ss, z.length ≤ 1) → (ss.map (·.length)).sum ≤ ss.length
  | [], _ => Nat.le_refl _
  | x :: r, h => by
    have h1 := h x List.mem_cons_self
    have h2 := sum_len1 r fun z hz => h z (List.mem_cons_of_mem _ hz)
    rw [List.map_cons, List.sum_cons, List.length_cons]
    omega
theorem joinL_len : ∀ ps : List (List Nat), (joinL [] ps).length = (ps.map (·.length)).sum
  | [] => rfl
  | [p] => by simp [joinL]
  | p :: q :: r => by
    have := joinL_len (q :: r)
    show (p ++ ([] ++ joinL [] (q :: r))).length = _
    rw [List.nil_append, List.length_append, this]
    simp
theorem len_join0 (ss : List Str) : (Txt.join (Str.ofString "") ss).length = (ss.map (·.length)).sum := by
  rw [len_tl, join_eq, tl_join, show tl (Str.ofString "") = [] from rfl, joinL_len, List.map_map]
  congr 1
abbrev spName : Sp := sp1 fun v H Q _ => ∃ x : Str, v = .str x ∧ x.length ≤ 1000 ∧ ∀ H', Same H H' → Q (.bl (isNm x)) H'
abbrev spWord (K : PySem.W.Frag) : Sp := sp1 fun d H Q _ => ∃ p a : Addr, d = .ref p ∧ Draw H p a ∧ ∀ H' x, Keep p H H' → Draw H' p a → x.length ≤ 1000 → Q (.str x) H'
abbrev spLaw (K : PySem.W.Frag) : Sp := sp1 fun v H Q _ => ∃ (a : Addr) (ns : List Int), v = .ref a ∧ SqL K H a (ns.map V.int) ∧ ns.length ≤ 63 ∧ ∀ H', Q (.bl true) H'
structure Blt (mg : Str → Option Value) : Prop where
  abs : mg "abs" = none
  all : mg "all" = none
  bool : mg "bool" = none
  isinstance : mg "isinstance" = none
  len : mg "len" = none
  list : mg "list" = none
  range : mg "range" = none
  str : mg "str" = none
  tuple : mg "tuple" = none
  zip : mg "zip" = none
section
variable {P : Program} {w : World} {K : PySem.W.Frag} {mg : Str → Option Value} {base : Heap}
local macro_rules | `(tactic| walk_at "rd1") => `(tactic| first
  | with_reducible refine s_var (by with_unfolding_all exact rfl) ?_
  | with_reducible refine s_c ?_ | with_reducible refine s_op ?_ | with_reducible refine s_cons ?_ | with_reducible refine s_nil ?_
  | with_reducible refine s_nx ?_ | with_reducible refine s_rt ?_ | with_reducible refine s_seq ?_ | with_reducible refine s_test ?_ | with_reducible refine s_bl ?_
  | with_reducible refine s_add ?_ | with_reducible refine s_sub ?_ | with_reducible refine s_lt ?_ | with_reducible refine s_le ?_ | with_reducible refine s_ge ?_ | with_reducible refine s_gt ?_
  | with_reducible refine s_and ?_ | with_reducible refine s_or ?_ | with_reducible refine s_not ?_ | with_reducible refine s_cb ?_ | with_reducible refine s_ret ?_ | with_reducible refine s_ifS ?_ | with_reducible refine s_if ?_
  | with_reducible refine s_asg ?_ | with_reducible refine s_gName ?_ | with_reducible refine s_gSub ?_ | with_reducible refine s_drop ?_ | with_reducible refine s_next ?_
  | with_reducible refine s_abs ?_ | with_reducible refine s_call ?_ | with_reducible refine s_sp1 ?_ | with_reducible refine s_sp2 ?_ | with_reducible refine s_sp3 ?_
  | with_reducible refine s_tup ?_ | with_reducible refine s_lst ?_ | with_reducible refine s_sl ?_ | with_reducible refine s_noPart ?_ | with_reducible refine s_part ?_ | with_reducible refine s_partI ?_
  | with_reducible refine s_tr ?_ | with_reducible refine s_truB ?_ | with_reducible refine s_lc ?_ | with_reducible refine s_iStr ?_ | with_reducible refine s_str ?_ | with_reducible refine s_iRng1 ?_ | with_reducible refine s_iList ?_ | with_reducible refine s_iTup ?_ | with_reducible refine s_iZipA ?_
  | with_reducible refine s_for ?_ | with_reducible refine s_m1 ?_ | with_reducible refine s_m0 ?_ | with_reducible refine s_isStr ?_ | with_reducible refine s_isN ?_ | with_reducible refine s_notN ?_ | with_reducible refine s_chain ?_ | with_reducible refine s_andV ?_ | with_reducible refine s_orV ?_ | with_reducible refine s_notV ?_ | with_reducible refine s_un ?_ | with_reducible refine s_neg ?_)
local macro_rules | `(tactic| walk_at "rd") => `(tactic| repeat walk_at "rd1")
theorem ok_take (D : DefAt K mg "_law_take" s_law_take ["_law_draw", "_law_sides"]) (B : Blt mg) : OkF P w K mg base CX0 1 "_law_take" ["_law_draw", "_law_sides"] spTake := by
  refine D.ok sc_law_take len2 (fun f cdv A outer s H vs Q E hr h => ?_)
  obtain ⟨_, _, rfl, p, a, n, rfl, rfl, n0, n1, ⟨ns, c, h, t, e, hS, ap, hl, c0, h0, t0, t1⟩, q⟩ := h
  refine ⟨_, (pss_cons (ps_if (PW.pt (pw_and (pt_cmpR o_lt (pe_ix (u_ix (K := K)) (pv 0) pe_int (fun _ _ => rfl)) (pv 1) (nomark _)) (pw_and1 (pt_cmpR o_lt (pe_ix (u_ix (K := K)) (pv 0) pe_int (fun _ _ => rfl)) (pe_callB (u_len (K := K)) (by rfl) B.len (by decide +kernel) (pa_cons (pe_ix (u_ix (K := K)) (pv 0) pe_int (fun _ _ => rfl)) pa_nil)) (nomark _))))) (pss_cons (ps_set (i := 2) sc_law_take.nd rfl (by first | exact .inl rfl | exact .inr rfl) (pe_ix (u_ix (K := K)) (pe_ix (u_ix (K := K)) (pv 0) pe_int (fun _ _ => rfl)) (pe_ix (u_ix (K := K)) (pv 0) pe_int (fun _ _ => rfl)) (fun _ _ => rfl)))
    (pss_cons (ps_asg (pe_op (o_add (K := K)) (pe_ix (u_ix (K := K)) (pv 0) pe_int (fun _ _ => rfl)) pe_int) (pg_sub (pv 0) pe_int set_list))
    (pss_cons (ps_asg pe_int (pg_sub (pv 0) pe_int set_list))
    (pss_one (ps_if (pt_cmpR o_ge (pe_callB call_abs (by rfl) B.abs (by decide +kernel) (pa_cons (pv 2) pa_nil)) (pe_op o_pow pe_int pe_int) (nomark _)) (pss_one (ps_asg (pe_callB call_abs (by rfl) B.abs (by decide +kernel) (pa_cons (pv 2) pa_nil)) (pg_sub (pv 0) pe_int set_list))) (pss_one (ps_asg (pe_op o_mod (pe_op (o_add (K := K)) (pe_op (o_add (K := K)) (pe_op o_mul (pe_ix (u_ix (K := K)) (pv 0) pe_int (fun _ _ => rfl)) pe_int) (pe_op o_mul (pe_op o_mod (pv 2) pe_int) pe_int)) pe_int) pe_int) (pg_sub (pv 0) pe_int set_list)))))))) pss_nil)
    (pss_cons (ps_if (pt_cmpR o_ge (pe_ix (u_ix (K := K)) (pv 0) pe_int (fun _ _ => rfl)) (pv 1) (nomark _)) (pss_cons (ps_set (i := 3) sc_law_take.nd rfl (by first | exact .inl rfl | exact .inr rfl) (pe_op o_mod (pe_ix (u_ix (K := K)) (pv 0) pe_int (fun _ _ => rfl)) (pv 1)))
    (pss_cons (ps_asg (pe_op o_div (pe_ix (u_ix (K := K)) (pv 0) pe_int (fun _ _ => rfl)) (pv 1)) (pg_sub (pv 0) pe_int set_list))
    (pss_one (ps_ret (pv 3))))) pss_nil)
    (pss_cons (ps_asg (pe_op o_mod (pe_op (o_add (K := K)) (pe_op (o_add (K := K)) (pe_op o_mul (pe_op o_mod (pe_op o_mul (pe_ix (u_ix (K := K)) (pv 0) pe_int (fun _ _ => rfl)) (pe_ix (u_ix (K := K)) (pv 0) pe_int (fun _ _ => rfl))) pe_int) pe_int) (pe_op o_mul (pe_ix (u_ix (K := K)) (pv 0) pe_int (fun _ _ => rfl)) pe_int)) pe_int) pe_int) (pg_sub (pv 0) pe_int set_list))
    (pss_one (ps_ret (pe_op o_mod (pe_op (o_add (K := K)) (pe_op o_div (pe_ix (u_ix (K := K)) (pv 0) pe_int (fun _ _ => rfl)) pe_int) (pe_op o_mul (pe_op o_mod (pe_ix (u_ix (K := K)) (pv 0) pe_int (fun _ _ => rfl)) pe_int) pe_int)) (pv 1))))))), ?_⟩
  refine s_start (σ' := [some (.ref p), some (.int n), none, none]) rfl ?_
  refine s_seqJ (fun σ' H' => ∃ x c h t, σ' = [some (.ref p), some (.int n), x, none] ∧ H' p = some (.lst [.ref a, .int c, .int h, .int t]) ∧ Keep p H H' ∧ 0 ≤ c ∧ 0 ≤ h ∧ 0 ≤ t ∧ t < 2147483647) (fun σ' H' hJ => ?_) (fun nx J => ?_)
  · obtain ⟨x, c, h, t, rfl, e, kp, c0, h0, t0, t1⟩ := hJ
    have fin : ∀ H'' c h t r, H'' p = some (.lst [.ref a, .int c, .int h, .int t]) → Keep p H' H'' → 0 ≤ c → 0 ≤ h → 0 ≤ t → t < 2147483647 → 0 ≤ r → r < n → Q (.int r) H'' := fun H'' c h t r e2 k2 a1 a2 a3 a4 r0 r1 =>
      q H'' r (kp.trans k2) ⟨ns, c, h, t, e2, (kp.trans k2) _ _ ap hS, ap, hl, a1, a2, a3, a4⟩ r0 r1
    walk_at "rd"
    refine s_ixL (SqL.of e) rfl ?_
    walk_at "rd"
    refine br (fun b1 => ?_) (fun b1 => ?_)
    · walk_at "rd"
      refine s_ixL (SqL.of e) rfl ?_
      walk_at "rd"
      refine s_mod (by omega) ?_
      walk_at "rd"
      refine s_ixL (SqL.of e) rfl ?_
      walk_at "rd"
      refine s_div ⟨by omega, by omega⟩ ?_
      walk_at "rd"
      refine s_setL e rfl ?_
      walk_at "rd"
      exact fin _ c (h.fdiv n) t _ upd_same Keep.upd c0 (Int.fdiv_nonneg h0 (by omega)) t0 t1 (Int.fmod_nonneg_of_pos _ n0) (Int.fmod_lt_of_pos _ n0)
    · walk_at "rd"
      refine s_ixL (SqL.of e) rfl ?_
      walk_at "rd"
      refine s_ixL (SqL.of e) rfl ?_
      refine s_mul (.inl ⟨by omega, by omega⟩) ?_
      walk_at "rd"
      refine s_mod (by decide) ?_
      walk_at "rd"
      have f1 := Int.fmod_nonneg_of_pos (t * t) (show (0 : Int) < 2147483629 by decide)
      have f2 := Int.fmod_lt_of_pos (t * t) (show (0 : Int) < 2147483629 by decide)
      refine s_mul (.inl ⟨by omega, by omega⟩) ?_
      walk_at "rd"
      refine s_ixL (SqL.of e) rfl ?_
      walk_at "rd"
      refine s_mul (.inl ⟨by omega, by omega⟩) ?_
      walk_at "rd"
      refine s_mod (by decide) ?_
      walk_at "rd"
      refine s_setL e rfl ?_
      walk_at "rd"
      have f3 := Int.fmod_nonneg_of_pos ((t * t).fmod 2147483629 * 5 + t * 16811 + 2531011) (show (0 : Int) < 2147483647 by decide)
      have f4 := Int.fmod_lt_of_pos ((t * t).fmod 2147483629 * 5 + t * 16811 + 2531011) (show (0 : Int) < 2147483647 by decide)
      generalize ((t * t).fmod 2147483629 * 5 + t * 16811 + 2531011).fmod 2147483647 = t' at f3 f4 ⊢
      refine s_ixL (SqL.of upd_same) rfl ?_
      walk_at "rd"
      refine s_div ⟨by decide, by decide⟩ ?_
      walk_at "rd"
      refine s_ixL (SqL.of upd_same) rfl ?_
      walk_at "rd"
      refine s_mod (by decide) ?_
      walk_at "rd"
      have f5 := Int.fmod_nonneg_of_pos t' (show (0 : Int) < 8191 by decide)
      have f6 := Int.fmod_lt_of_pos t' (show (0 : Int) < 8191 by decide)
      refine s_mul (.inl ⟨by omega, by omega⟩) ?_
      walk_at "rd"
      refine s_mod (by omega) ?_
      exact fin _ c h t' _ upd_same Keep.upd c0 h0 f3 f4 (Int.fmod_nonneg_of_pos _ n0) (Int.fmod_lt_of_pos _ n0)
  · have no := fun H' x c h t e1 e2 e3 e4 e5 e6 => J [some (.ref p), some (.int n), x, none] H' ⟨x, c, h, t, rfl, e1, e2, e3, e4, e5, e6⟩
    walk_at "rd"
    refine s_ixL (SqL.of e) rfl ?_
    walk_at "rd"
    refine br (fun b1 => ?_) (fun b1 => ?_)
    · walk_at "rd"
      refine s_ixL (SqL.of e) rfl ?_
      walk_at "rd"
      refine s_ixL (SqL.of e) rfl ?_
      walk_at "rd"
      refine s_lenL (SqL.of hS) ?_
      walk_at "rd"
      refine br (fun b2 => ?_) (fun b2 => ?_)
      · rw [List.length_map] at b2
        obtain ⟨cell, hc⟩ : ∃ z, ns[c.toNat]? = some z := ⟨_, List.getElem?_eq_getElem (show c.toNat < ns.length by omega)⟩
        have hc2 : atI (ns.map V.int) c = some (.int cell) := at_of (j := c.toNat) (by omega) (by rw [List.getElem?_map, hc]; rfl)
        walk_at "rd"
        refine s_ixL (SqL.of e) rfl ?_
        walk_at "rd"
        refine s_ixL (SqL.of e) rfl ?_
        refine s_ixL (SqL.of hS) hc2 ?_
        walk_at "rd"
        refine s_ixL (SqL.of e) rfl ?_
        walk_at "rd"
        refine s_setL e rfl ?_
        walk_at "rd"
        refine s_setL upd_same rfl ?_
        walk_at "rd"
        rw [upd_upd]
        refine s_pow ⟨by decide, by decide, by decide⟩ ?_
        walk_at "rd"
        refine br (fun b3 => ?_) (fun b3 => ?_)
        · walk_at "rd"
          refine s_setL upd_same rfl ?_
          walk_at "rd"
          rw [upd_upd]
          refine no _ _ (c + 1) (if cell < 0 then -cell else cell) t upd_same Keep.upd (by omega) ?_ t0 t1
          split <;> omega
        · walk_at "rd"
          refine s_ixL (SqL.of upd_same) rfl ?_
          walk_at "rd"
          refine s_mul (.inl ⟨by omega, by omega⟩) ?_
          walk_at "rd"
          refine s_mod (by decide) ?_
          walk_at "rd"
          refine s_mul (.inr ⟨by decide, by decide⟩) ?_
          walk_at "rd"
          refine s_mod (by decide) ?_
          walk_at "rd"
          refine s_setL upd_same rfl ?_
          walk_at "rd"
          rw [upd_upd]
          exact no _ _ (c + 1) 0 _ upd_same Keep.upd (by omega) (by omega) (Int.fmod_nonneg_of_pos _ (by decide)) (Int.fmod_lt_of_pos _ (by decide))
      · walk_at "rd"
        exact no _ _ c h t e (Keep.refl _ _) c0 h0 t0 t1
    · walk_at "rd"
      exact no _ _ c h t e (Keep.refl _ _) c0 h0 t0 t1
theorem ok_begin (D : DefAt K mg "_law_begin" s_law_begin ["_law_script"]) (B : Blt mg) : OkF P w K mg base CX0 1 "_law_begin" ["_law_script"] (spBegin K) := by
  refine D.ok sc_law_begin len1 (fun f cdv A outer s H vs Q E hr h => ?_)
  obtain ⟨_, rfl, a, ns, rfl, hS, hl, q⟩ := h
  refine ⟨_, (pss_one (ps_ret (pe_lst (pa_cons (pe_callTy (call_listU (K := K) rfl) (by rfl) B.list (by decide +kernel) (pa_cons (pe_slice (sl_u (K := K)) (pv 0) po_none (po_some pe_int)) pa_nil)) (pa_cons pe_int (pa_cons pe_int (pa_cons pe_int pa_nil))))))), ?_⟩
  refine s_start (σ' := [some (.ref a)]) rfl ?_
  walk_at "rd"
  obtain ⟨ms, em, lm⟩ : ∃ ms : List Int, cutV (ns.map V.int) none (some 63) = ms.map V.int ∧ ms.length ≤ 1000 := by
    refine ⟨(ns.drop (HT.sIx (ns.map V.int).length 0 none)).take (HT.sIx (ns.map V.int).length (ns.map V.int).length (some 63) - HT.sIx (ns.map V.int).length 0 none), ?_, ?_⟩
    · unfold cutV
      rw [List.map_take, List.map_drop]
    · rw [List.length_take, List.length_drop]
      omega
  refine s_slL hS fun l1 n1 => ?_
  rw [em]
  walk_at "rd"
  refine s_listL (.inl (SqL.of upd_same)) fun l2 n2 => ?_
  walk_at "rd"
  refine ⟨sz rfl, fun p n3 => ?_⟩
  walk_at "rd"
  have s1 := same_upd (o := .lst (ms.map V.int)) n1
  have s2 := same_upd (o := .lst (ms.map V.int)) n2
  have s3 := same_upd (o := .lst [.ref l2, .int 0, .int 0, .int 29]) n3
  refine q _ p l2 (s1.trans (s2.trans s3)) ((s1.trans s2).free n3) ⟨ms, 0, 0, 29, upd_same, s3 _ _ upd_same, ?_, lm, by decide, by decide, by decide, by decide⟩
  intro e
  rw [e, upd_same] at n3
  cases n3
theorem ok_one (D : DefAt K mg "_law_one" s_law_one ["_law_draw", "_law_row"]) (B : Blt mg) (G_law_take : OkF P w K mg base CX0 1 "_law_take" ["_law_draw", "_law_sides"] spTake) : OkF P w K mg base CX0 2 "_law_one" ["_law_draw", "_law_row"] (spOne K) := by
  refine D.ok sc_law_one len2 (fun f cdv A outer s H vs Q E hr h => ?_)
  obtain ⟨_, _, rfl, p, a, b, xs, rfl, rfl, ap, hS, h0, h1, d, q⟩ := h
  refine ⟨_, (pss_one (ps_ret (pe_ix (u_ix (K := K)) (pv 1) (u_call G_law_take (hr.mono (by omega)) pass0 (pa_cons (pv 0) (pa_cons (pe_callB (u_len (K := K)) (by rfl) B.len (by decide +kernel) (pa_cons (pv 1) pa_nil)) pa_nil))) (fun _ _ => rfl)))), ?_⟩
  refine s_start (σ' := [some (.ref p), some (.ref b)]) rfl ?_
  walk_at "rd"
  refine s_lenL hS ?_
  walk_at "rd"
  refine ⟨p, a, xs.length, rfl, rfl, by omega, by omega, d, fun H' r kp d' r0 r1 => ?_⟩
  obtain ⟨v, hv⟩ : ∃ v, xs[r.toNat]? = some v := ⟨_, List.getElem?_eq_getElem (show r.toNat < xs.length by omega)⟩
  refine s_ixL (kp.sqL ap hS) (at_of (j := r.toNat) (by omega) hv) ?_
  exact q H' v kp d' (List.mem_of_getElem? hv)
theorem ok_same (D : DefAt K mg "_law_same" s_law_same ["_law_found", "_law_due"]) (B : Blt mg) : ∀ n, OkF P w K mg base CX0 n "_law_same" ["_law_found", "_law_due"] (spSame K n) := by
  intro n
  induction n with
  | zero =>
    refine D.okNo fun vs H Q E h => ?_
    obtain ⟨_, _, _, d, _, _, z, _⟩ := h
    exact z
  | succ n G_law_same =>
  refine D.ok sc_law_same len2 (fun f cdv A outer s H vs Q E hr h => ?_)
  obtain ⟨x, y, rfl, d, hx, hy, hd, q⟩ := h
  refine ⟨_, (pss_cons (ps_if (u_truth (K := K) (pe_callB (u_isiT (K := K)) (by rfl) B.isinstance (by decide +kernel) (pa_cons (pv 1) (pa_cons (pe_tup (pa_cons (pe_bltn (v := .ty "list") (by rfl) B.list (by decide +kernel) rfl) (pa_cons (pe_bltn (v := .ty "tuple") (by rfl) B.tuple (by decide +kernel) rfl) pa_nil))) pa_nil)))) (pss_cons (ps_if (PW.pt (pw_or (pt_cmpR (o_ne (K := K) hr.units) (pe_callB (u_isi (K := K)) (by rfl) B.isinstance (by decide +kernel) (pa_cons (pv 0) (pa_cons (pe_bltn (v := .ty "list") (by rfl) B.list (by decide +kernel) rfl) pa_nil))) (pe_callB (u_isi (K := K)) (by rfl) B.isinstance (by decide +kernel) (pa_cons (pv 1) (pa_cons (pe_bltn (v := .ty "list") (by rfl) B.list (by decide +kernel) rfl) pa_nil))) (nomark _)) (pw_or1 (pt_not (u_truth (K := K) (pe_callB (u_isiT (K := K)) (by rfl) B.isinstance (by decide +kernel) (pa_cons (pv 0) (pa_cons (pe_tup (pa_cons (pe_bltn (v := .ty "list") (by rfl) B.list (by decide +kernel) rfl) (pa_cons (pe_bltn (v := .ty "tuple") (by rfl) B.tuple (by decide +kernel) rfl) pa_nil))) pa_nil)))))))) (pss_one (ps_ret pe_bl)) pss_nil)
    (pss_cons (ps_if (pt_cmpR (o_ne (K := K) hr.units) (pe_callB (u_len (K := K)) (by rfl) B.len (by decide +kernel) (pa_cons (pv 0) pa_nil)) (pe_callB (u_len (K := K)) (by rfl) B.len (by decide +kernel) (pa_cons (pv 1) pa_nil)) (nomark _)) (pss_one (ps_ret pe_bl)) pss_nil)
    (pss_one (ps_ret (pe_callB (u_all (K := K) rfl) (by rfl) B.all (by decide +kernel) (pa_cons (pe_lc (own := [("_law_one_here", 2), ("_law_other", 3)]) (g := (gTup K 2 (gCons (gName 2) (gCons (gName 3) gNil)))) (tt := tYes) rfl sc_law_same.nd (pi_zipA (by rfl) B.zip (pa_cons (pv 0) (pa_cons (pv 1) pa_nil))) (blkOk_by (N := ["_law_found", "_law_due", "_law_one_here", "_law_other"]) (sc := defScope s_law_same) (own := [("_law_one_here", 2), ("_law_other", 3)]) (by decide +kernel)) (fun _ _ _ _ _ => (pg_tup rfl (pgs_cons (pg_name (i := 2) sc_law_same.nd rfl (by first | exact .inl rfl | exact .inr rfl)) (pgs_cons (pg_name (i := 3) sc_law_same.nd rfl (by first | exact .inl rfl | exact .inr rfl)) pgs_nil)))) (fun _ _ _ _ _ => pts_nil) (fun _ _ _ _ _ => (u_call G_law_same (hr.mono (by omega)) pass0 (pa_cons (pv 2) (pa_cons (pv 3) pa_nil))))) pa_nil)))))) pss_nil)
    (pss_cons (ps_if (pt_cmpR o_is (pv 1) pe_non (nomark _)) (pss_one (ps_ret (pe_cmpR o_is (pv 0) pe_non (nomark _)))) pss_nil)
    (pss_cons (ps_if (pt_cmpR (o_ne (K := K) hr.units) (pe_callB (u_isi (K := K)) (by rfl) B.isinstance (by decide +kernel) (pa_cons (pv 0) (pa_cons (pe_bltn (v := .ty "bool") (by rfl) B.bool (by decide +kernel) rfl) pa_nil))) (pe_callB (u_isi (K := K)) (by rfl) B.isinstance (by decide +kernel) (pa_cons (pv 1) (pa_cons (pe_bltn (v := .ty "bool") (by rfl) B.bool (by decide +kernel) rfl) pa_nil))) (nomark _)) (pss_one (ps_ret pe_bl)) pss_nil)
    (pss_one (ps_ret (pe_and (pe_cmpR (o_eq (K := K) hr.units) (pe_callB (u_isi (K := K)) (by rfl) B.isinstance (by decide +kernel) (pa_cons (pv 0) (pa_cons (pe_bltn (v := .ty "str") (by rfl) B.str (by decide +kernel) rfl) pa_nil))) (pe_callB (u_isi (K := K)) (by rfl) B.isinstance (by decide +kernel) (pa_cons (pv 1) (pa_cons (pe_bltn (v := .ty "str") (by rfl) B.str (by decide +kernel) rfl) pa_nil))) (nomark _)) (pe_one (pe_cmpR (o_eq (K := K) hr.units) (pv 0) (pv 1) (nomark _))))))))), ?_⟩
  refine s_start (σ' := [some x, some y, none, none]) rfl ?_
  walk_at "rd"
  refine ⟨sz rfl, fun p1 n1 => ?_⟩
  walk_at "rd"
  have s1 := same_upd (o := .tup [.ty "list", .ty "tuple"]) n1
  have hx1 := Dp.same s1 d _ hx
  have hy1 := Dp.same s1 d _ hy
  refine s_isiLT hy1 upd_same ?_
  walk_at "rd"
  refine brB (fun b1 => ?_) (fun b1 => ?_)
  · walk_at "rd"
    refine s_isiL hx1 ?_
    walk_at "rd"
    refine s_isiL hy1 ?_
    refine s_ne rfl ?_
    walk_at "rd"
    refine brN (fun z => absurd rfl z) (fun _ => ?_)
    walk_at "rd"
    refine ⟨sz rfl, fun p2 n2 => ?_⟩
    walk_at "rd"
    have s2 := s1.trans (same_upd (o := .tup [.ty "list", .ty "tuple"]) n2)
    have hx2 := Dp.same s2 d _ hx
    have hy2 := Dp.same s2 d _ hy
    refine s_isiLT hx2 upd_same ?_
    rw [b1]
    walk_at "rd"
    refine iteF ?_
    walk_at "rd"
    cases d with
    | list ds =>
      obtain ⟨hn, hk⟩ := hd
      cases hx2 with
      | @lst ax xs _ hsx hax =>
      cases hy2 with
      | @lst ay ys _ hsy hay =>
      have lx := DpAll.length hax
      have ly := DpAll.length hay
      refine s_lenL hsx ?_
      walk_at "rd"
      refine s_lenL hsy ?_
      walk_at "rd"
      refine s_ne rfl ?_
      walk_at "rd"
      rw [lx, ly]
      refine brN (fun z => absurd rfl z) (fun _ => ?_)
      walk_at "rd"
      refine ⟨ax, ay, xs, ys, rfl, .inl ⟨hsx, hsy, ?_⟩⟩
      generalize upd (upd H p1 _) p2 _ = H1 at s2 hsx hsy hax hay
      refine lcB_of ds.length (fun D i acc H' => Same H1 H' ∧ acc = (List.replicate i true).map V.bl) hn (fun D hD => ⟨same_upd hD, rfl⟩)
        (fun D i acc H' _ hi hS => ⟨xs, ys, _, _, hS.1.seq hsx, hS.1.seq hsy, List.getElem?_eq_getElem (by omega), List.getElem?_eq_getElem (by omega)⟩)
        (fun D acc H' _ hS => ⟨xs, ys, hS.1.seq hsx, hS.1.seq hsy, .inl (by omega)⟩) ?_ ?_ gTup2_mono
      · rintro D i acc H' _ H'' hD hi ha hl ⟨sm, ea⟩ ⟨T, u, v, rfl, nT, rfl, hu, hv⟩
        have sT := same_upd (o := .tup [u, v]) nT
        obtain ⟨d1, e1, k1⟩ := DpAll.get hax (hu _ (sm.seq hsx))
        obtain ⟨d2, e2, k2⟩ := DpAll.get hay (hv _ (sm.seq hsy))
        rw [e1] at e2
        cases e2
        refine s_gTup (SqT.of upd_same) rfl (s_gCons (s_gName (s_gCons (s_gName (s_gNil ⟨rfl, ?_⟩)))))
        walk_at "rd"
        refine ⟨d1, Dp.same (sm.trans sT) _ _ k1, Dp.same (sm.trans sT) _ _ k2, hk d1 (List.mem_of_getElem? e1), fun H3 s3 => ?_⟩
        have aD := s3 _ _ (sT _ _ ha)
        refine LcPost.mk aD hl (by omega) ⟨fun b o e => ?_, ?_⟩
        · rw [upd_ne (ne_of_none e hD)]
          exact s3 _ _ (sT _ _ (sm _ _ e))
        · rw [ea, List.replicate_succ', List.map_append]
          rfl
      · rintro D acc H' hD ha hl ⟨sm, ea⟩
        walk_at "rd"
        refine ⟨D, _, rfl, SqL.of (ha.trans (by rw [ea])), ?_⟩
        have : (List.replicate ds.length true).all id = true := by simp
        rw [this]
        exact q _ (s2.trans sm)
    | tuple ds =>
      obtain ⟨hn, hk⟩ := hd
      cases hx2 with
      | @tup ax xs _ hsx hax =>
      cases hy2 with
      | @tup ay ys _ hsy hay =>
      have lx := DpAll.length hax
      have ly := DpAll.length hay
      refine s_lenT hsx ?_
      walk_at "rd"
      refine s_lenT hsy ?_
      walk_at "rd"
      refine s_ne rfl ?_
      walk_at "rd"
      rw [lx, ly]
      refine brN (fun z => absurd rfl z) (fun _ => ?_)
      walk_at "rd"
      refine ⟨ax, ay, xs, ys, rfl, .inr ⟨hsx, hsy, ?_⟩⟩
      generalize upd (upd H p1 _) p2 _ = H1 at s2 hsx hsy hax hay
      refine lcB_of ds.length (fun D i acc H' => Same H1 H' ∧ acc = (List.replicate i true).map V.bl) hn (fun D hD => ⟨same_upd hD, rfl⟩)
        (fun D i acc H' _ hi hS => ⟨xs, ys, _, _, Same.sqT hS.1 hsx, Same.sqT hS.1 hsy, List.getElem?_eq_getElem (by omega), List.getElem?_eq_getElem (by omega)⟩)
        (fun D acc H' _ hS => ⟨xs, ys, Same.sqT hS.1 hsx, Same.sqT hS.1 hsy, .inl (by omega)⟩) ?_ ?_ gTup2_mono
      · rintro D i acc H' _ H'' hD hi ha hl ⟨sm, ea⟩ ⟨T, u, v, rfl, nT, rfl, hu, hv⟩
        have sT := same_upd (o := .tup [u, v]) nT
        obtain ⟨d1, e1, k1⟩ := DpAll.get hax (hu _ (Same.sqT sm hsx))
        obtain ⟨d2, e2, k2⟩ := DpAll.get hay (hv _ (Same.sqT sm hsy))
        rw [e1] at e2
        cases e2
        refine s_gTup (SqT.of upd_same) rfl (s_gCons (s_gName (s_gCons (s_gName (s_gNil ⟨rfl, ?_⟩)))))
        walk_at "rd"
        refine ⟨d1, Dp.same (sm.trans sT) _ _ k1, Dp.same (sm.trans sT) _ _ k2, hk d1 (List.mem_of_getElem? e1), fun H3 s3 => ?_⟩
        have aD := s3 _ _ (sT _ _ ha)
        refine LcPost.mk aD hl (by omega) ⟨fun b o e => ?_, ?_⟩
        · rw [upd_ne (ne_of_none e hD)]
          exact s3 _ _ (sT _ _ (sm _ _ e))
        · rw [ea, List.replicate_succ', List.map_append]
          rfl
      · rintro D acc H' hD ha hl ⟨sm, ea⟩
        walk_at "rd"
        refine ⟨D, _, rfl, SqL.of (ha.trans (by rw [ea])), ?_⟩
        have : (List.replicate ds.length true).all id = true := by simp
        rw [this]
        exact q _ (s2.trans sm)
    | _ => exact absurd b1 (by simp [isSeq])
  · walk_at "rd"
    cases d with
    | list ds => exact absurd b1 (by simp [isSeq])
    | tuple ds => exact absurd b1 (by simp [isSeq])
    | dict ds => exact hd.elim
    | none =>
      cases hx1
      cases hy1
      refine br (fun _ => ?_) (fun z => absurd rfl z)
      walk_at "rd"
      exact q _ s1
    | bool b =>
      cases hx1
      cases hy1
      refine br (fun z => nomatch z) (fun _ => ?_)
      walk_at "rd"
      refine s_isiB (.bl b) ?_
      walk_at "rd"
      refine s_isiB (.bl b) ?_
      refine s_ne rfl ?_
      walk_at "rd"
      refine brN (fun z => absurd rfl z) (fun _ => ?_)
      walk_at "rd"
      refine s_isiS (.bl b) ?_
      walk_at "rd"
      refine s_isiS (.bl b) ?_
      refine s_eq rfl (s_bln (decide_eq_true rfl) (iteT ?_))
      walk_at "rd"
      refine s_eq rfl ?_
      rw [decide_eq_true rfl]
      exact q _ s1
    | int b =>
      cases hx1
      cases hy1
      refine br (fun z => nomatch z) (fun _ => ?_)
      walk_at "rd"
      refine s_isiB (.int b) ?_
      walk_at "rd"
      refine s_isiB (.int b) ?_
      refine s_ne rfl ?_
      walk_at "rd"
      refine brN (fun z => absurd rfl z) (fun _ => ?_)
      walk_at "rd"
      refine s_isiS (.int b) ?_
      walk_at "rd"
      refine s_isiS (.int b) ?_
      refine s_eq rfl (s_bln (decide_eq_true rfl) (iteT ?_))
      walk_at "rd"
      refine s_eq rfl ?_
      rw [decide_eq_true rfl]
      exact q _ s1
    | str b =>
      cases hx1
      cases hy1
      refine br (fun z => nomatch z) (fun _ => ?_)
      walk_at "rd"
      refine s_isiB (.str b) ?_
      walk_at "rd"
      refine s_isiB (.str b) ?_
      refine s_ne rfl ?_
      walk_at "rd"
      refine brN (fun z => absurd rfl z) (fun _ => ?_)
      walk_at "rd"
      refine s_isiS (.str b) ?_
      walk_at "rd"
      refine s_isiS (.str b) ?_
      refine s_eq rfl (s_bln (decide_eq_true rfl) (iteT ?_))
      walk_at "rd"
      refine s_eq rfl ?_
      rw [decide_eq_true rfl]
      exact q _ s1
theorem len_sz {x : Str} (h : x.length ≤ 1000) : x.length ≤ sizeLine := Nat.le_of_lt (small1000 h)
variable {a_TAKEN : Addr} {t_LETTERS : Tok}
theorem ok_is_name (D : DefAt K mg "is_name" s_is_name ["text"]) (B : Blt mg) (C_LETTERS : mg "LETTERS" = some (.str (Str.ofString "abcdefghijklmnopqrstuvwxyz") t_LETTERS)) (C_TAKEN : mg "TAKEN" = some (.ref a_TAKEN)) (S_TAKEN : ∀ H, SqT K H a_TAKEN (takenL.map V.str)) : OkF P w K mg base CX0 1 "is_name" ["text"] spName := by
  refine D.ok sc_is_name len1 (fun f cdv A outer s H vs Q E hr h => ?_)
  obtain ⟨_, rfl, x, rfl, hx, q⟩ := h
  refine ⟨_, (pss_one (ps_ret (pe_and (pe_chain o_le o_le pe_int (pe_callB (u_len (K := K)) (by rfl) B.len (by decide +kernel) (pa_cons (pv 0) pa_nil)) pe_int) (pe_and (pe_callB (u_all (K := K) rfl) (by rfl) B.all (by decide +kernel) (pa_cons (pe_lc (own := [("sign", 1)]) (g := (gName 1)) (tt := tYes) rfl sc_is_name.nd (pi_str (pv 0)) (blkOk_by (N := ["text", "sign"]) (sc := defScope s_is_name) (own := [("sign", 1)]) (by decide +kernel)) (fun _ _ _ _ _ => (pg_name (i := 1) sc_is_name.nd rfl (by first | exact .inl rfl | exact .inr rfl))) (fun _ _ _ _ _ => pts_nil) (fun _ _ _ _ _ => (pe_cmpR (o_in (K := K)) (pv 1) (pe_glob (v := .str (Str.ofString "abcdefghijklmnopqrstuvwxyz")) (by rfl) C_LETTERS ⟨_, rfl⟩) (by with_unfolding_all rfl)))) pa_nil)) (pe_one (pe_cmpR (o_notIn (K := K)) (pv 0) (pe_glob (v := .ref a_TAKEN) (by rfl) C_TAKEN rfl) (by with_unfolding_all rfl))))))), ?_⟩
  refine s_start (σ' := [some (.str x), none]) rfl ?_
  unfold isNm at q
  walk_at "rd"
  refine s_lenS (len_sz hx) ?_
  walk_at "rd"
  refine brB (fun b1 => ?_) (fun b1 => ?_)
  · walk_at "rd"
    rw [b1] at q
    refine brB (fun b2 => ?_) (fun b2 => ?_)
    · rw [b2] at q
      walk_at "rd"
      refine lcB_str (fun c => .bl (decide (c ∈ lettersS.cps.toList))) (by omega) (fun _ => rfl) (fun c H R z => ?_) (fun D hD => ?_)
      · walk_at "rd"
        refine s_inS ?_
        exact z
      · walk_at "rd"
        refine ⟨D, x.cps.toList.map fun c => decide (c ∈ lettersS.cps.toList), rfl, SqL.of (upd_same.trans (by rw [List.map_map]; rfl)), ?_⟩
        walk_at "rd"
        refine brB (fun b3 => ?_) (fun b3 => ?_)
        · walk_at "rd"
          refine s_notInL (.inr (S_TAKEN _)) rfl (flat_strs _) ?_
          rw [b3] at q
          exact q _ (same_upd hD)
        · rw [b3] at q
          exact q _ (same_upd hD)
    · rw [b2] at q
      exact q _ (Same.refl _)
  · rw [b1] at q
    walk_at "rd"
    exact iteF (q _ (Same.refl _))
theorem ok_is_word (D : DefAt K mg "is_word" s_is_word ["text"]) (G_is_name : OkF P w K mg base CX0 1 "is_name" ["text"] spName) : OkF P w K mg base CX0 2 "is_word" ["text"] spName := by
  refine D.ok sc_is_word len1 (fun f cdv A outer s H vs Q E hr h => ?_)
  obtain ⟨_, rfl, x, rfl, hx, q⟩ := h
  refine ⟨_, (pss_one (ps_ret (u_call G_is_name (hr.mono (by omega)) pass0 (pa_cons (pv 0) pa_nil)))), ?_⟩
  refine s_start (σ' := [some (.str x)]) rfl ?_
  walk_at "rd"
  exact ⟨hx, q⟩
theorem ok_lname (D : DefAt K mg "_law_is_name" s_law_is_name ["_law_word"]) (B : Blt mg) : OkF P w K mg base CX0 1 "_law_is_name" ["_law_word"] spName := by
  refine D.ok sc_law_is_name len1 (fun f cdv A outer s H vs Q E hr h => ?_)
  obtain ⟨_, rfl, x, rfl, hx, q⟩ := h
  refine ⟨_, (pss_cons (ps_set (i := 1) sc_law_is_name.nd rfl (by first | exact .inl rfl | exact .inr rfl) (pe_split pe_str pe_str))
    (pss_cons (ps_if (PW.pt (pw_or (pt_not (pt_chain o_le o_le pe_int (pe_callB (u_len (K := K)) (by rfl) B.len (by decide +kernel) (pa_cons (pv 0) pa_nil)) pe_int)) (pw_or1 (pt_cmpR (o_in (K := K)) (pv 0) (pv 1) (by with_unfolding_all rfl))))) (pss_one (ps_ret pe_bl)) pss_nil)
    (pss_one (ps_ret (pe_callB (u_all (K := K) rfl) (by rfl) B.all (by decide +kernel) (pa_cons (pe_lc (own := [("_law_sign", 2)]) (g := (gName 2)) (tt := tYes) rfl sc_law_is_name.nd (pi_str (pv 0)) (blkOk_by (N := ["_law_word", "_law_taken", "_law_sign"]) (sc := defScope s_law_is_name) (own := [("_law_sign", 2)]) (by decide +kernel)) (fun _ _ _ _ _ => (pg_name (i := 2) sc_law_is_name.nd rfl (by first | exact .inl rfl | exact .inr rfl))) (fun _ _ _ _ _ => pts_nil) (fun _ _ _ _ _ => (pe_cmpR (o_in (K := K)) (pv 2) pe_str (by with_unfolding_all rfl)))) pa_nil)))))), ?_⟩
  refine s_start (σ' := [some (.str x), none, none]) rfl ?_
  unfold isNm at q
  walk_at "rd"
  refine ⟨_, _, rfl, rfl, rfl, sz rfl, fun p np => ?_⟩
  rw [taken_split]
  have s1 := same_upd (o := .lst (takenL.map V.str)) np
  walk_at "rd"
  refine s_lenS (len_sz hx) ?_
  walk_at "rd"
  have no : (decide ((1 : Int) ≤ (x.length : Nat)) && decide (((x.length : Nat) : Int) ≤ 8)) = false → Q (.bl false) (upd H p (.lst (takenL.map V.str))) := fun e => by
    rw [← Bool.and_assoc, e, Bool.false_and] at q
    exact q _ s1
  refine brB (fun b1 => ?_) (fun b1 => ?_)
  · walk_at "rd"
    refine brB (fun b0 => ?_) (fun b0 => ?_)
    · walk_at "rd"
      refine no ?_
      rw [b1, Bool.true_and]
      exact (Bool.not_eq_true' _).mp b0
    · have b2 : decide (((x.length : Nat) : Int) ≤ 8) = true := by
        cases h : decide (((x.length : Nat) : Int) ≤ 8) with
        | true => rfl
        | false =>
          rw [h] at b0
          exact absurd b0 (by decide)
      rw [b1, b2] at q
      walk_at "rd"
      refine s_inL (.inl (SqL.of upd_same)) rfl (flat_strs _) ?_
      walk_at "rd"
      refine brB (fun b3 => ?_) (fun b3 => ?_)
      · walk_at "rd"
        rw [b3, Bool.not_true, Bool.and_false] at q
        exact q _ s1
      · rw [b3, Bool.not_false, Bool.and_true, Bool.true_and, Bool.true_and] at q
        walk_at "rd"
        refine lcB_str (fun c => .bl (decide (c ∈ lettersS.cps.toList))) (by omega) (fun _ => rfl) (fun c H R z => ?_) (fun D hD => ?_)
        · walk_at "rd"
          refine s_inS ?_
          exact z
        · walk_at "rd"
          refine ⟨D, x.cps.toList.map fun c => decide (c ∈ lettersS.cps.toList), rfl, SqL.of (upd_same.trans (by rw [List.map_map]; rfl)), ?_⟩
          exact q _ (s1.trans (same_upd hD))
  · walk_at "rd"
    refine iteT ?_
    refine iteT ?_
    walk_at "rd"
    refine no ?_
    rw [b1, Bool.false_and]
theorem ok_word (D : DefAt K mg "_law_any_word" s_law_any_word ["_law_draw"]) (B : Blt mg) (G_law_take : OkF P w K mg base CX0 1 "_law_take" ["_law_draw", "_law_sides"] spTake) (G_law_one : OkF P w K mg base CX0 2 "_law_one" ["_law_draw", "_law_row"] (spOne K)) :
    OkF P w K mg base CX0 3 "_law_any_word" ["_law_draw"] (spWord K) := by
  refine D.ok sc_law_any_word len1 (fun f cdv A outer s H vs Q E hr h => ?_)
  obtain ⟨_, rfl, p, a, rfl, d, q⟩ := h
  refine ⟨_, (pss_cons (ps_set (i := 1) sc_law_any_word.nd rfl (by first | exact .inl rfl | exact .inr rfl) (pe_split pe_str pe_str))
    (pss_cons (ps_set (i := 2) sc_law_any_word.nd rfl (by first | exact .inl rfl | exact .inr rfl) (u_call G_law_take (hr.mono (by omega)) pass0 (pa_cons (pv 0) (pa_cons pe_int pa_nil))))
    (pss_cons (ps_if (pt_cmpR (o_eq (K := K) hr.units) (pv 2) pe_int (nomark _)) (pss_one (ps_ret (u_call G_law_one (hr.mono (by omega)) pass0 (pa_cons (pv 0) (pa_cons (pv 1) pa_nil))))) pss_nil)
    (pss_cons (ps_if (pt_cmpR (o_eq (K := K) hr.units) (pv 2) pe_int (nomark _)) (pss_cons (ps_set (i := 3) sc_law_any_word.nd rfl (by first | exact .inl rfl | exact .inr rfl) (u_call G_law_one (hr.mono (by omega)) pass0 (pa_cons (pv 0) (pa_cons (pv 1) pa_nil))))
    (pss_one (ps_ret (u_call G_law_one (hr.mono (by omega)) pass0 (pa_cons (pv 0) (pa_cons (pe_lst (pa_cons (pe_op (o_add (K := K)) (pv 3) pe_str) (pa_cons (pe_slice (sl_u (K := K)) (pv 3) (po_some pe_int) po_none) (pa_cons (pe_op (o_add (K := K)) (pv 3) (pv 3)) (pa_cons (pe_slice (sl_u (K := K)) (pv 3) po_none (po_some (pe_un un_neg pe_int))) (pa_cons (pe_upper (pv 3)) pa_nil)))))) pa_nil)))))) pss_nil)
    (pss_cons (ps_set (i := 4) sc_law_any_word.nd rfl (by first | exact .inl rfl | exact .inr rfl) (pe_ix (u_ix (K := K)) (pe_lst (pa_cons pe_str (pa_cons pe_str (pa_cons pe_str pa_nil)))) (u_call G_law_take (hr.mono (by omega)) pass0 (pa_cons (pv 0) (pa_cons pe_int pa_nil))) (fun _ _ => rfl)))
    (pss_one (ps_ret (u_join (K := K) pe_str (pe_lc (own := [("_law_k", 5)]) (g := (gName 5)) (tt := tYes) rfl sc_law_any_word.nd (pi_range1 (by rfl) B.range (pa_cons (u_call G_law_take (hr.mono (by omega)) pass0 (pa_cons (pv 0) (pa_cons pe_int pa_nil))) pa_nil)) (blkOk_by (N := ["_law_draw", "_law_taken", "_law_choice", "_law_word", "_law_signs", "_law_k"]) (sc := defScope s_law_any_word) (own := [("_law_k", 5)]) (by decide +kernel)) (fun _ _ _ _ _ => (pg_name (i := 5) sc_law_any_word.nd rfl (by first | exact .inl rfl | exact .inr rfl))) (fun _ _ _ _ _ => pts_nil) (fun _ _ _ _ _ => (u_call G_law_one (hr.mono (by omega)) pass0 (pa_cons (pv 0) (pa_cons (pe_callTy (call_listU (K := K) rfl) (by rfl) B.list (by decide +kernel) (pa_cons (pv 4) pa_nil)) pa_nil))))))))))))), ?_⟩
  refine s_start (σ' := [some (.ref p), none, none, none, none, none]) rfl ?_
  walk_at "rd"
  refine ⟨_, _, rfl, rfl, rfl, sz rfl, fun l nl => ?_⟩
  rw [taken_split]
  have s1 := same_upd (o := .lst (takenL.map V.str)) nl
  have lp : l ≠ p := d.ne nl
  have k1 : Keep p H (upd H l (.lst (takenL.map V.str))) := Same.keep s1
  have eL : SqL K (upd H l (.lst (takenL.map V.str))) l (takenL.map V.str) := SqL.of upd_same
  generalize upd H l (.lst (takenL.map V.str)) = H1 at s1 k1 eL ⊢
  have d1 := d.same s1
  walk_at "rd"
  refine ⟨p, a, 5, rfl, rfl, by decide, by decide, d1, fun H2 r k2 d2 r0 r1 => ?_⟩
  have eL2 := k2.sqL lp eL
  walk_at "rd"
  refine s_eq rfl ?_
  walk_at "rd"
  refine br (fun _ => ?_) (fun _ => ?_)
  · walk_at "rd"
    refine ⟨p, a, l, _, rfl, rfl, lp, eL2, by decide, by decide, d2, fun H3 v k3 d3 hv => ?_⟩
    obtain ⟨t, ht, rfl⟩ := List.mem_map.mp hv
    exact q _ t (k1.trans (k2.trans k3)) d3 (Nat.le_trans (taken_len t ht) (by decide))
  · walk_at "rd"
    refine s_eq rfl ?_
    walk_at "rd"
    refine br (fun _ => ?_) (fun _ => ?_)
    · walk_at "rd"
      refine ⟨p, a, l, _, rfl, rfl, lp, eL2, by decide, by decide, d2, fun H3 v k3 d3 hv => ?_⟩
      obtain ⟨t, ht, rfl⟩ := List.mem_map.mp hv
      have tl5 := taken_len t ht
      walk_at "rd"
      refine s_addS (Nat.le_trans (Nat.add_le_add_right tl5 _) (sz rfl)) ?_
      walk_at "rd"
      refine s_slS (len_sz (by omega)) ?_
      walk_at "rd"
      refine s_addS (Nat.le_trans (Nat.add_le_add tl5 tl5) (sz rfl)) ?_
      walk_at "rd"
      refine s_slS (len_sz (by omega)) ?_
      walk_at "rd"
      refine ⟨rfl, by omega, ?_⟩
      walk_at "rd"
      refine ⟨sz rfl, fun l4 n4 => ?_⟩
      have s4 := same_upd (o := .lst ([t ++ Str.ofString "s", cutS t (some 1) none, t ++ t, cutS t none (some (-1)), Txt.upper t].map V.str)) n4
      walk_at "rd"
      refine ⟨p, a, l4, [t ++ Str.ofString "s", cutS t (some 1) none, t ++ t, cutS t none (some (-1)), Txt.upper t].map V.str, rfl, rfl, d3.ne n4, SqL.of upd_same, by simp, by simp, d3.same s4, fun H5 v k5 d5 hv => ?_⟩
      obtain ⟨u, hu, rfl⟩ := List.mem_map.mp hv
      refine q _ u (k1.trans (k2.trans (k3.trans ((Same.keep s4).trans k5)))) d5 ?_
      have e1 : (t ++ Str.ofString "s").length = t.length + 1 := len_app _ _
      have e2 := cutS_length t (some 1) none
      have e3 : (t ++ t).length = t.length + t.length := len_app _ _
      have e4 := cutS_length t none (some (-1))
      have e5 := len_upper t
      simp only [List.mem_cons, List.not_mem_nil, or_false] at hu
      rcases hu with rfl | rfl | rfl | rfl | rfl <;> omega
    · walk_at "rd"
      refine ⟨sz rfl, fun l4 n4 => ?_⟩
      have s4 := same_upd (o := .lst (signsL.map V.str)) n4
      have e4 : SqL K (upd H2 l4 (.lst (signsL.map V.str))) l4 (signsL.map V.str) := SqL.of upd_same
      walk_at "rd"
      refine ⟨p, a, 3, rfl, rfl, by decide, by decide, d2.same s4, fun H5 r k5 d5 r0 r1 => ?_⟩
      have e5 := k5.sqL (d2.ne n4) e4
      obtain ⟨g, hg⟩ : ∃ g, signsL[r.toNat]? = some g := ⟨_, List.getElem?_eq_getElem (show r.toNat < 3 by omega)⟩
      have hgl := signs_len g (List.mem_of_getElem? hg)
      refine s_ixL e5 (at_of (j := r.toNat) (v := .str g) (by omega) (by rw [List.getElem?_map, hg]; rfl)) ?_
      walk_at "rd"
      refine ⟨p, a, 11, rfl, rfl, by decide, by decide, d5, fun H6 r k6 d6 r0 r1 => ?_⟩
      walk_at "rd"
      refine ⟨by omega, by omega, ?_⟩
      refine lcB_of r.toNat (fun D i acc H' => (∀ b o, b ≠ p → b ≠ D → H6 b = some o → H' b = some o) ∧ Draw H' p a ∧ ∃ ss : List Str, acc = ss.map V.str ∧ ∀ z ∈ ss, z.length ≤ 1) (by omega)
        (fun D hD => ⟨fun b o _ n e => by rw [upd_ne n]; exact e, d6.same (same_upd hD), [], rfl, fun z hz => nomatch hz⟩) (fun D i acc H' _ hi _ => hi) (fun D acc H' _ _ => Nat.le_refl _) ?_ ?_ gName_mono
      · rintro D i acc H' x _ hD hi ha hl ⟨kp, dH, ss, ea, hss⟩ ⟨rfl, rfl⟩
        refine s_gName ⟨rfl, ?_⟩
        walk_at "rd"
        refine s_listS (len_sz (by omega)) fun l7 n7 => ?_
        have s7 := same_upd (o := .lst (signsV g)) n7
        walk_at "rd"
        refine ⟨p, a, l7, signsV g, rfl, rfl, dH.ne n7, SqL.of upd_same, ?_, ?_, dH.same s7, fun H8 v k8 d8 hv => ?_⟩
        · unfold signsV
          rw [List.length_map, Array.length_toList]
          exact hgl.1
        · unfold signsV
          rw [List.length_map, Array.length_toList]
          exact Nat.lt_of_le_of_lt hgl.2 (by decide)
        · obtain ⟨c, _, rfl⟩ := List.mem_map.mp hv
          have Dp : D ≠ p := d6.ne hD
          refine LcPost.mk (k8 _ _ Dp (s7 _ _ ha)) hl (by omega) ⟨fun b o n1 n2 e => ?_, d8.updN Dp (d6.ne2 hD), ss ++ [⟨#[c]⟩], by rw [ea, List.map_append]; rfl, fun z hz => ?_⟩
          · rw [upd_ne n2]
            exact k8 _ _ n1 (s7 _ _ (kp b o n1 n2 e))
          · rcases List.mem_append.mp hz with hz | hz
            · exact hss z hz
            · rw [List.mem_singleton.mp hz]
              exact Nat.le_refl _
      · rintro D acc H' hD ha hl ⟨kp, dH, ss, ea, hss⟩
        walk_at "rd"
        have hl2 : ss.length ≤ 11 := by
          rw [ea, List.length_map] at hl
          omega
        have hsum := sum_len1 ss hss
        refine ⟨_, D, ss, rfl, rfl, .inl (SqL.of (ha.trans (by rw [ea]))), ?_, ?_⟩
        · show _ + ss.length * 0 ≤ _
          omega
        · refine q _ _ (k1.trans (k2.trans ((Same.keep s4).trans (k5.trans (k6.trans fun b o n e => kp b o n (fun z => by rw [z, hD] at e; cases e) e))))) dH ?_
          rw [len_join0]
          omega
theorem nm_main : isNm (Str.ofString "main") = true := by decide +kernel
theorem nm_none : isNm (Str.ofString "") = false := by decide +kernel
theorem nm_catch : isNm (Str.ofString "catch") = false := by decide +kernel
theorem ok_law {fa : Addr} {fd : FuncData} (F : Fun K "law" "law" s_law fa fd) (B : Blt mg) (G_law_begin : OkF P w K mg base CX0 1 "_law_begin" ["_law_script"] (spBegin K)) (G_law_any_word : OkF P w K mg base CX0 3 "_law_any_word" ["_law_draw"] (spWord K))
    (G_law_same : OkF P w K mg base CX0 2 "_law_same" ["_law_found", "_law_due"] (spSame K 2)) (G_law_is_name : OkF P w K mg base CX0 1 "_law_is_name" ["_law_word"] spName) (G_is_word : OkF P w K mg base CX0 2 "is_word" ["text"] spName) :
    FnOk P w K mg base CX0 4 fa fd ["_law_script"] (spLaw K) := by
  refine F.ok sc_law len1 (fun cdv A outer s H vs Q E hr h => ?_)
  obtain ⟨_, rfl, b, ns, rfl, hS, hl, q⟩ := h
  refine ⟨_, (pss_cons (ps_set (i := 1) sc_law.nd rfl (by first | exact .inl rfl | exact .inr rfl) (u_call G_law_begin (hr.mono (by omega)) pass0 (pa_cons (pv 0) pa_nil)))
    (pss_cons (ps_for PassesOwn.never (by rfl) (pi_range1 (by rfl) B.range (pa_cons pe_int pa_nil)) (pg_name (i := 2) sc_law.nd rfl (by first | exact .inl rfl | exact .inr rfl)) (pss_cons (ps_set (i := 3) sc_law.nd rfl (by first | exact .inl rfl | exact .inr rfl) (u_call G_law_any_word (hr.mono (by omega)) pass0 (pa_cons (pv 1) pa_nil)))
    (pss_one (ps_if (pt_not (u_truth (K := K) (u_call G_law_same (hr.mono (by omega)) pass0 (pa_cons (u_call G_is_word (hr.mono (by omega)) pass0 (pa_cons (pv 3) pa_nil)) (pa_cons (u_call G_law_is_name (hr.mono (by omega)) pass0 (pa_cons (pv 3) pa_nil)) pa_nil))))) (pss_one (ps_ret pe_bl)) pss_nil))))
    (pss_one (ps_ret (u_call G_law_same (hr.mono (by omega)) pass0 (pa_cons (pe_lst (pa_cons (u_call G_is_word (hr.mono (by omega)) pass0 (pa_cons pe_str pa_nil)) (pa_cons (u_call G_is_word (hr.mono (by omega)) pass0 (pa_cons pe_str pa_nil)) (pa_cons (u_call G_is_word (hr.mono (by omega)) pass0 (pa_cons pe_str pa_nil)) pa_nil)))) (pa_cons (pe_lst (pa_cons pe_bl (pa_cons pe_bl (pa_cons pe_bl pa_nil)))) pa_nil))))))), ?_⟩
  refine s_start (σ' := [some (.ref b), none, none, none]) rfl ?_
  walk_at "rd"
  refine ⟨b, ns, rfl, hS, hl, fun H1 p a s1 n1 d1 => ?_⟩
  walk_at "rd"
  refine ⟨by decide, by decide, ?_⟩
  refine forB_range (n := 24) (fun i σ H' => ∃ x y, σ = [some (.ref b), some (.ref p), x, y] ∧ Draw H' p a) ⟨none, none, rfl, d1⟩ ?_ ?_
  · rintro i σ H2 hi ⟨x, y, rfl, d2⟩
    walk_at "rd"
    refine ⟨p, a, rfl, d2, fun H3 x k3 d3 hx => ?_⟩
    walk_at "rd"
    refine ⟨hx, fun H4 s4 => ?_⟩
    walk_at "rd"
    refine ⟨hx, fun H5 s5 => ?_⟩
    walk_at "rd"
    refine ⟨.bool (isNm x), .bl _, .bl _, trivial, fun H6 s6 => ?_⟩
    walk_at "rd"
    refine iteF ?_
    walk_at "rd"
    exact ⟨_, _, rfl, ((d3.same s4).same s5).same s6⟩
  · rintro σ H2 ⟨x, y, rfl, d2⟩
    walk_at "rd"
    refine ⟨by decide, fun H3 s3 => ?_⟩
    walk_at "rd"
    refine ⟨by decide, fun H4 s4 => ?_⟩
    walk_at "rd"
    refine ⟨by decide, fun H5 s5 => ?_⟩
    walk_at "rd"
    rw [nm_main, nm_none, nm_catch]
    refine ⟨sz rfl, fun l6 n6 => ?_⟩
    have s6 := same_upd (o := .lst [.bl true, .bl false, .bl false]) n6
    walk_at "rd"
    refine ⟨sz rfl, fun l7 n7 => ?_⟩
    have s7 := same_upd (o := .lst [.bl true, .bl false, .bl false]) n7
    walk_at "rd"
    have all3 : ∀ H, DpAll K H [.bl true, .bl false, .bl false] [.bool true, .bool false, .bool false] := fun H => .cons (.bl _) (.cons (.bl _) (.cons (.bl _) .nil))
    refine ⟨.list [.bool true, .bool false, .bool false], .lst (SqL.of (s7 _ _ upd_same)) (all3 _), .lst (SqL.of upd_same) (all3 _), ⟨by decide, ?_⟩, fun H8 s8 => ?_⟩
    · intro d hd
      simp only [List.mem_cons, List.not_mem_nil, or_false] at hd
      rcases hd with rfl | rfl | rfl <;> trivial
    · exact q _
end
theorem all_mk {l : PySem.W.OpenLaw} {w : World} {K : PySem.W.Frag} {h : Heap} {mg : Str → Option Value} {fa f_is_name f_is_word f_law_begin f_law_take f_law_same f_law_one f_law_is_name f_law_any_word f_law : Addr} (X : K.In h) (G : h.Ns mainGlobals mg) (hfa : mg "law" = some (.ref fa))
    {od_is_name an_is_name : Option Addr} {sl_is_name : Array (Option Value)} {oc_is_name kV_is_name dc_is_name pm_is_name cd_is_name ct_is_name : Value}
    (a_is_name : PySem.W.nsIn K mainGlobals "is_name" = some (some (.ref f_is_name))) (l_is_name : K.lookup f_is_name = some ⟨oc_is_name, od_is_name, .func (PySem.W.fnOf "is_name" "is_name" (defArgs s_is_name) (defBody s_is_name) (defScope s_is_name) .none kV_is_name dc_is_name pm_is_name an_is_name cd_is_name ct_is_name), sl_is_name⟩) (c_is_name : PySem.W.codeIn K cd_is_name "is_name" = true) (k_is_name : PySem.W.keepIn K (.ref f_is_name) = true)
    {od_is_word an_is_word : Option Addr} {sl_is_word : Array (Option Value)} {oc_is_word kV_is_word dc_is_word pm_is_word cd_is_word ct_is_word : Value}
    (a_is_word : PySem.W.nsIn K mainGlobals "is_word" = some (some (.ref f_is_word))) (l_is_word : K.lookup f_is_word = some ⟨oc_is_word, od_is_word, .func (PySem.W.fnOf "is_word" "is_word" (defArgs s_is_word) (defBody s_is_word) (defScope s_is_word) .none kV_is_word dc_is_word pm_is_word an_is_word cd_is_word ct_is_word), sl_is_word⟩) (c_is_word : PySem.W.codeIn K cd_is_word "is_word" = true) (k_is_word : PySem.W.keepIn K (.ref f_is_word) = true)
    {od_law_begin an_law_begin : Option Addr} {sl_law_begin : Array (Option Value)} {oc_law_begin kV_law_begin dc_law_begin pm_law_begin cd_law_begin ct_law_begin : Value}
    (a_law_begin : PySem.W.nsIn K mainGlobals "_law_begin" = some (some (.ref f_law_begin))) (l_law_begin : K.lookup f_law_begin = some ⟨oc_law_begin, od_law_begin, .func (PySem.W.fnOf "_law_begin" "_law_begin" (defArgs s_law_begin) (defBody s_law_begin) (defScope s_law_begin) .none kV_law_begin dc_law_begin pm_law_begin an_law_begin cd_law_begin ct_law_begin), sl_law_begin⟩) (c_law_begin : PySem.W.codeIn K cd_law_begin "_law_begin" = true) (k_law_begin : PySem.W.keepIn K (.ref f_law_begin) = true)
    {od_law_take an_law_take : Option Addr} {sl_law_take : Array (Option Value)} {oc_law_take kV_law_take dc_law_take pm_law_take cd_law_take ct_law_take : Value}
    (a_law_take : PySem.W.nsIn K mainGlobals "_law_take" = some (some (.ref f_law_take))) (l_law_take : K.lookup f_law_take = some ⟨oc_law_take, od_law_take, .func (PySem.W.fnOf "_law_take" "_law_take" (defArgs s_law_take) (defBody s_law_take) (defScope s_law_take) .none kV_law_take dc_law_take pm_law_take an_law_take cd_law_take ct_law_take), sl_law_take⟩) (c_law_take : PySem.W.codeIn K cd_law_take "_law_take" = true) (k_law_take : PySem.W.keepIn K (.ref f_law_take) = true)
    {od_law_same an_law_same : Option Addr} {sl_law_same : Array (Option Value)} {oc_law_same kV_law_same dc_law_same pm_law_same cd_law_same ct_law_same : Value}
    (a_law_same : PySem.W.nsIn K mainGlobals "_law_same" = some (some (.ref f_law_same))) (l_law_same : K.lookup f_law_same = some ⟨oc_law_same, od_law_same, .func (PySem.W.fnOf "_law_same" "_law_same" (defArgs s_law_same) (defBody s_law_same) (defScope s_law_same) .none kV_law_same dc_law_same pm_law_same an_law_same cd_law_same ct_law_same), sl_law_same⟩) (c_law_same : PySem.W.codeIn K cd_law_same "_law_same" = true) (k_law_same : PySem.W.keepIn K (.ref f_law_same) = true)
    {od_law_one an_law_one : Option Addr} {sl_law_one : Array (Option Value)} {oc_law_one kV_law_one dc_law_one pm_law_one cd_law_one ct_law_one : Value}
    (a_law_one : PySem.W.nsIn K mainGlobals "_law_one" = some (some (.ref f_law_one))) (l_law_one : K.lookup f_law_one = some ⟨oc_law_one, od_law_one, .func (PySem.W.fnOf "_law_one" "_law_one" (defArgs s_law_one) (defBody s_law_one) (defScope s_law_one) .none kV_law_one dc_law_one pm_law_one an_law_one cd_law_one ct_law_one), sl_law_one⟩) (c_law_one : PySem.W.codeIn K cd_law_one "_law_one" = true) (k_law_one : PySem.W.keepIn K (.ref f_law_one) = true)
    {od_law_is_name an_law_is_name : Option Addr} {sl_law_is_name : Array (Option Value)} {oc_law_is_name kV_law_is_name dc_law_is_name pm_law_is_name cd_law_is_name ct_law_is_name : Value}
    (a_law_is_name : PySem.W.nsIn K mainGlobals "_law_is_name" = some (some (.ref f_law_is_name))) (l_law_is_name : K.lookup f_law_is_name = some ⟨oc_law_is_name, od_law_is_name, .func (PySem.W.fnOf "_law_is_name" "_law_is_name" (defArgs s_law_is_name) (defBody s_law_is_name) (defScope s_law_is_name) .none kV_law_is_name dc_law_is_name pm_law_is_name an_law_is_name cd_law_is_name ct_law_is_name), sl_law_is_name⟩) (c_law_is_name : PySem.W.codeIn K cd_law_is_name "_law_is_name" = true) (k_law_is_name : PySem.W.keepIn K (.ref f_law_is_name) = true)
    {od_law_any_word an_law_any_word : Option Addr} {sl_law_any_word : Array (Option Value)} {oc_law_any_word kV_law_any_word dc_law_any_word pm_law_any_word cd_law_any_word ct_law_any_word : Value}
    (a_law_any_word : PySem.W.nsIn K mainGlobals "_law_any_word" = some (some (.ref f_law_any_word))) (l_law_any_word : K.lookup f_law_any_word = some ⟨oc_law_any_word, od_law_any_word, .func (PySem.W.fnOf "_law_any_word" "_law_any_word" (defArgs s_law_any_word) (defBody s_law_any_word) (defScope s_law_any_word) .none kV_law_any_word dc_law_any_word pm_law_any_word an_law_any_word cd_law_any_word ct_law_any_word), sl_law_any_word⟩) (c_law_any_word : PySem.W.codeIn K cd_law_any_word "_law_any_word" = true) (k_law_any_word : PySem.W.keepIn K (.ref f_law_any_word) = true)
    {od_law an_law : Option Addr} {sl_law : Array (Option Value)} {oc_law kV_law dc_law pm_law cd_law ct_law : Value}
    (a_law : PySem.W.nsIn K mainGlobals "law" = some (some (.ref f_law))) (l_law : K.lookup f_law = some ⟨oc_law, od_law, .func (PySem.W.fnOf "law" "law" (defArgs s_law) (defBody s_law) (defScope s_law) .none kV_law dc_law pm_law an_law cd_law ct_law), sl_law⟩) (c_law : PySem.W.codeIn K cd_law "law" = true) (k_law : PySem.W.keepIn K (.ref f_law) = true)
    (z_abs : PySem.W.nsIn K mainGlobals "abs" = some none)
    (z_all : PySem.W.nsIn K mainGlobals "all" = some none)
    (z_bool : PySem.W.nsIn K mainGlobals "bool" = some none)
    (z_isinstance : PySem.W.nsIn K mainGlobals "isinstance" = some none)
    (z_len : PySem.W.nsIn K mainGlobals "len" = some none)
    (z_list : PySem.W.nsIn K mainGlobals "list" = some none)
    (z_range : PySem.W.nsIn K mainGlobals "range" = some none)
    (z_str : PySem.W.nsIn K mainGlobals "str" = some none)
    (z_tuple : PySem.W.nsIn K mainGlobals "tuple" = some none)
    (z_zip : PySem.W.nsIn K mainGlobals "zip" = some none)
    {t_LETTERS : Tok} (n_LETTERS : PySem.W.nsIn K mainGlobals "LETTERS" = some (some (.str (Str.ofString "abcdefghijklmnopqrstuvwxyz") t_LETTERS)))
    {a_TAKEN : Addr} (n_TAKEN : PySem.W.nsIn K mainGlobals "TAKEN" = some (some (.ref a_TAKEN))) {d_TAKEN : Option Addr} {i_TAKEN : Array Value} {m_TAKEN : Nat} {u_TAKEN : Array (Option Value)} (l_TAKEN : K.lookup a_TAKEN = some ⟨.type "tuple", d_TAKEN, .seq i_TAKEN m_TAKEN, u_TAKEN⟩) (v_TAKEN : Vals (takenL.map V.str) i_TAKEN.toList)
    : ∃ fd : FuncData, (∀ (s : Shared) (v : Value), BindsTo s fd ⟨[v], []⟩ [("_law_script", v)]) ∧ ∀ base : Heap, K.In base → base.Ns mainGlobals mg → FnOk l.prog w K mg base CX0 4 fa fd ["_law_script"] (spLaw K) := by
  have e := hfa.symm.trans (PySem.W.mg_of X G a_law)
  cases e
  have F_is_name := fun_mk (st := s_is_name) l_is_name c_is_name k_is_name
  have D_is_name : DefAt K mg "is_name" s_is_name ["text"] := ⟨_, _, F_is_name, PySem.W.mg_of X G a_is_name, F_is_name.binds (ps := ["text"]) fun _ _ _ _ _ _ us hl => match us, hl with | [_], _ => rfl⟩
  have F_is_word := fun_mk (st := s_is_word) l_is_word c_is_word k_is_word
  have D_is_word : DefAt K mg "is_word" s_is_word ["text"] := ⟨_, _, F_is_word, PySem.W.mg_of X G a_is_word, F_is_word.binds (ps := ["text"]) fun _ _ _ _ _ _ us hl => match us, hl with | [_], _ => rfl⟩
  have F_law_begin := fun_mk (st := s_law_begin) l_law_begin c_law_begin k_law_begin
  have D_law_begin : DefAt K mg "_law_begin" s_law_begin ["_law_script"] := ⟨_, _, F_law_begin, PySem.W.mg_of X G a_law_begin, F_law_begin.binds (ps := ["_law_script"]) fun _ _ _ _ _ _ us hl => match us, hl with | [_], _ => rfl⟩
  have F_law_take := fun_mk (st := s_law_take) l_law_take c_law_take k_law_take
  have D_law_take : DefAt K mg "_law_take" s_law_take ["_law_draw", "_law_sides"] := ⟨_, _, F_law_take, PySem.W.mg_of X G a_law_take, F_law_take.binds (ps := ["_law_draw", "_law_sides"]) fun _ _ _ _ _ _ us hl => match us, hl with | [_, _], _ => rfl⟩
  have F_law_same := fun_mk (st := s_law_same) l_law_same c_law_same k_law_same
  have D_law_same : DefAt K mg "_law_same" s_law_same ["_law_found", "_law_due"] := ⟨_, _, F_law_same, PySem.W.mg_of X G a_law_same, F_law_same.binds (ps := ["_law_found", "_law_due"]) fun _ _ _ _ _ _ us hl => match us, hl with | [_, _], _ => rfl⟩
  have F_law_one := fun_mk (st := s_law_one) l_law_one c_law_one k_law_one
  have D_law_one : DefAt K mg "_law_one" s_law_one ["_law_draw", "_law_row"] := ⟨_, _, F_law_one, PySem.W.mg_of X G a_law_one, F_law_one.binds (ps := ["_law_draw", "_law_row"]) fun _ _ _ _ _ _ us hl => match us, hl with | [_, _], _ => rfl⟩
  have F_law_is_name := fun_mk (st := s_law_is_name) l_law_is_name c_law_is_name k_law_is_name
  have D_law_is_name : DefAt K mg "_law_is_name" s_law_is_name ["_law_word"] := ⟨_, _, F_law_is_name, PySem.W.mg_of X G a_law_is_name, F_law_is_name.binds (ps := ["_law_word"]) fun _ _ _ _ _ _ us hl => match us, hl with | [_], _ => rfl⟩
  have F_law_any_word := fun_mk (st := s_law_any_word) l_law_any_word c_law_any_word k_law_any_word
  have D_law_any_word : DefAt K mg "_law_any_word" s_law_any_word ["_law_draw"] := ⟨_, _, F_law_any_word, PySem.W.mg_of X G a_law_any_word, F_law_any_word.binds (ps := ["_law_draw"]) fun _ _ _ _ _ _ us hl => match us, hl with | [_], _ => rfl⟩
  have F_law := fun_mk (st := s_law) l_law c_law k_law
  have D_law : DefAt K mg "law" s_law ["_law_script"] := ⟨_, _, F_law, PySem.W.mg_of X G a_law, F_law.binds (ps := ["_law_script"]) fun _ _ _ _ _ _ us hl => match us, hl with | [_], _ => rfl⟩
  have B : Blt mg := ⟨PySem.W.mg_none_of X G z_abs, PySem.W.mg_none_of X G z_all, PySem.W.mg_none_of X G z_bool, PySem.W.mg_none_of X G z_isinstance, PySem.W.mg_none_of X G z_len, PySem.W.mg_none_of X G z_list, PySem.W.mg_none_of X G z_range, PySem.W.mg_none_of X G z_str, PySem.W.mg_none_of X G z_tuple, PySem.W.mg_none_of X G z_zip⟩
  have S_TAKEN : ∀ H, SqT K H a_TAKEN (takenL.map V.str) := fun H => .inr ⟨_, _, _, l_TAKEN, rfl, rfl, (show i_TAKEN.toList.length ≤ sizeLine from (show (takenL.map V.str).length = i_TAKEN.toList.length from v_TAKEN.length) ▸ sz rfl), v_TAKEN⟩
  refine ⟨PySem.W.fnOf "law" "law" (defArgs s_law) (defBody s_law) (defScope s_law) .none kV_law dc_law pm_law an_law cd_law ct_law, fun s v => .of_eq rfl, fun base _ _ => ?_⟩
  have T := ok_take (P := l.prog) (w := w) (base := base) D_law_take B
  have O := ok_one D_law_one B T
  have N := ok_is_name (P := l.prog) (w := w) (base := base) D_is_name B (PySem.W.mg_of X G n_LETTERS) (PySem.W.mg_of X G n_TAKEN) S_TAKEN
  exact ok_law F_law B (ok_begin D_law_begin B) (ok_word D_law_any_word B T O) (ok_same D_law_same B 2) (ok_lname D_law_is_name B) (ok_is_word D_is_word N)
end L2.U
open PySem PySem.W PyProof.Rows
set_option maxHeartbeats 0 in
theorem PySem.Challenge.cw_hindstep_k01_words_that_are_names_holds : PySem.Challenge.rw_hindstep_k01_words_that_are_names.Holds := by
  w_on; o_law; k_head; (case hw => w_witness2)
  k_fill
  refine L2.walk_of (l := PySem.Challenge.rw_hindstep_k01_words_that_are_names) (n := 63) (k := 4) (x := "_law_script") (CX := fun _ => L2.CX0) (sp := fun w => L2.U.spLaw _) rfl (by decide) rfl ⟨rfl, by decide, by decide⟩ (fun w h Y => PySem.W.kIn_of Y) ?F (fun _ _ a ns hl _ hS => ⟨_, rfl, a, ns, rfl, hS, hl, fun _ => rfl⟩) (fun _ _ _ _ _ h => h)
  case F =>
    intro w mg fa h KX G hmg
    refine' L2.U.all_mk KX G hmg ?a_is_name ?l_is_name ?c_is_name ?k_is_name ?a_is_word ?l_is_word ?c_is_word ?k_is_word ?a_law_begin ?l_law_begin ?c_law_begin ?k_law_begin ?a_law_take ?l_law_take ?c_law_take ?k_law_take ?a_law_same ?l_law_same ?c_law_same ?k_law_same ?a_law_one ?l_law_one ?c_law_one ?k_law_one ?a_law_is_name ?l_law_is_name ?c_law_is_name ?k_law_is_name ?a_law_any_word ?l_law_any_word ?c_law_any_word ?k_law_any_word ?a_law ?l_law ?c_law ?k_law ?z_abs ?z_all ?z_bool ?z_isinstance ?z_len ?z_list ?z_range ?z_str ?z_tuple ?z_zip ?n_LETTERS ?n_TAKEN ?l_TAKEN ?v_TAKEN
    (case a_is_name => k_is)
    (case l_is_name => k_is)
    (case c_is_name => k_is)
    (case k_is_name => k_is)
    (case a_is_word => k_is)
    (case l_is_word => k_is)
    (case c_is_word => k_is)
    (case k_is_word => k_is)
    (case a_law_begin => k_is)
    (case l_law_begin => k_is)
    (case c_law_begin => k_is)
    (case k_law_begin => k_is)
    (case a_law_take => k_is)
    (case l_law_take => k_is)
    (case c_law_take => k_is)
    (case k_law_take => k_is)
    (case a_law_same => k_is)
    (case l_law_same => k_is)
    (case c_law_same => k_is)
    (case k_law_same => k_is)
    (case a_law_one => k_is)
    (case l_law_one => k_is)
    (case c_law_one => k_is)
    (case k_law_one => k_is)
    (case a_law_is_name => k_is)
    (case l_law_is_name => k_is)
    (case c_law_is_name => k_is)
    (case k_law_is_name => k_is)
    (case a_law_any_word => k_is)
    (case l_law_any_word => k_is)
    (case c_law_any_word => k_is)
    (case k_law_any_word => k_is)
    (case a_law => k_is)
    (case l_law => k_is)
    (case c_law => k_is)
    (case k_law => k_is)
    (case z_abs => k_is)
    (case z_all => k_is)
    (case z_bool => k_is)
    (case z_isinstance => k_is)
    (case z_len => k_is)
    (case z_list => k_is)
    (case z_range => k_is)
    (case z_str => k_is)
    (case z_tuple => k_is)
    (case z_zip => k_is)
    (case n_LETTERS => k_is)
    (case n_TAKEN => k_is)
    (case l_TAKEN => k_is)
    (case v_TAKEN => exact .cons ⟨_, rfl⟩ (.cons ⟨_, rfl⟩ (.cons ⟨_, rfl⟩ (.cons ⟨_, rfl⟩ (.cons ⟨_, rfl⟩ (.cons ⟨_, rfl⟩ (.cons ⟨_, rfl⟩ (.cons ⟨_, rfl⟩ (.cons ⟨_, rfl⟩ (.cons ⟨_, rfl⟩ (.cons ⟨_, rfl⟩ (.cons ⟨_, rfl⟩ (.cons ⟨_, rfl⟩ (.cons ⟨_, rfl⟩ (.cons ⟨_, rfl⟩ (.cons ⟨_, rfl⟩ (.cons ⟨_, rfl⟩ (.cons ⟨_, rfl⟩ (.cons ⟨_, rfl⟩ (.cons ⟨_, rfl⟩ .nil))))))))))))))))))))
#print axioms PySem.Challenge.cw_hindstep_k01_words_that_are_names_holds
