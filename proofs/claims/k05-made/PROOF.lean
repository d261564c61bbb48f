import PyProof.Rows.All
import Wide.All
import OpenK.AllK
import Wide.FinOn
import HandS.ForMost
import HandS.TupAny
import HandS.IsInst
import HandS.Codes
import HandS.More
import HandS.Small
import HandS.DictComp
import HandS.DeepEq
import HandS.SetFor
import HandS.Strs
import HandS.Walk
import HandS.Rev
import HandS.Codes
import HandS.Finally
import PyProof.ListRange
import PyProof.Rows.SortShellAny
import HandS.HotCalls
import HandS.ExcIs
import HandS.ExcOwn
import HandS.WordsExc
import KE.DataFind
import KE.GoesComp
import HandS.Comp
import PySem.Challenge.RW_hushkind_k05_programs_made
set_option Elab.async false
set_option linter.all false
set_option maxRecDepth 100000
set_option maxHeartbeats 4000000
namespace Hu
open PySem PySem.Spec PyProof.Rows L2
def rAddI : R2 := rI0 fun i j => .int (i + j)
def rAddT : R2 := fun x y H Q => ∃ i j, x = .str i ∧ y = .str j ∧ i.length + j.length ≤ sizeLine ∧ Q (.str (i ++ j)) H
def rAdd (K : PySem.W.Frag) : R2 := fun x y H Q => rAddI x y H Q ∨ rAddT x y H Q ∨ rCat x y H Q ∨ rCatA K x y H Q
def rSub : R2 := rI0 fun i j => .int (i - j)
def rMulI : R2 := rI CMul fun i j => .int (i * j)
def rMul : R2 := fun x y H Q => rMulI x y H Q ∨ rRep x y H Q
def rMod : R2 := rI (fun _ j => 0 < j) fun i j => .int (i % j)
def rDiv : R2 := rI CDiv fun i j => .int (i / j)
def rPow : R2 := rI CPow fun i j => .int (i ^ j.toNat)
def rLt : R2 := rI0 fun i j => .bl (decide (i < j))
def rLe : R2 := rI0 fun i j => .bl (decide (i ≤ j))
def rGt : R2 := rI0 fun i j => .bl (decide (j < i))
def rGe : R2 := rI0 fun i j => .bl (decide (j ≤ i))
def rEq2 (K : PySem.W.Frag) : R2 := fun x y H Q => rEq x y H Q ∨ rEqD K x y H Q ∨ rEqDA x y H Q ∨ rEqV K x y H Q
def rNe2 (K : PySem.W.Frag) : R2 := fun x y H Q => rNe x y H Q ∨ rNeD K x y H Q ∨ rNeDA x y H Q
def rInSg (neg : Bool) : R2 := fun x y H Q => ∃ (c : Nat) (z : Str), x = .str ⟨#[c]⟩ ∧ y = .str z ∧ Q (.bl (if neg then !decide (c ∈ z.cps.toList) else decide (c ∈ z.cps.toList))) H
def rIn2 (K : PySem.W.Frag) (neg : Bool) : R2 := fun x y H Q => rIn K neg x y H Q ∨ rInSg neg x y H Q
def rIsN2 (neg : Bool) : R2 := fun x y H Q => y = .non ∧ Q (.bl (if neg then !decide (x = .non) else decide (x = .non))) H
def rNeg : V → Hp → VK → Prop := rU fun i => .int (-i)
def rSl (K : PySem.W.Frag) : V → Option Int → Option Int → Hp → VK → Prop := fun x lo hi H Q => rSlL K x lo hi H Q ∨ rSlA K x lo hi H Q ∨ C8.rSlX x lo hi H Q
def rLenA (K : PySem.W.Frag) : List V → Hp → VK → Prop := fun xs H Q => ∃ x n, xs = [x] ∧ LenV K x H n ∧ Q (.int (n : Nat)) H
def rIntB : List V → Hp → VK → Prop := fun xs H Q => (∃ i, xs = [.int i] ∧ Q (.int i) H) ∨ ∃ k, xs = [.bl k] ∧ Q (.int (if k then 1 else 0)) H
def rIntS : List V → Hp → VK → Prop := fun xs H Q => ∃ a n, xs = [.str a] ∧ PySem.intText? a = some n ∧ a.length ≤ 640 ∧ Q (.int n) H
def rInt : List V → Hp → VK → Prop := fun xs H Q => rIntB xs H Q ∨ rIntS xs H Q
def rStr : List V → Hp → VK → Prop := fun xs H Q => ∃ i, xs = [.int i] ∧ i.natAbs.log2 < 1920 ∧ Q (.str (toString i)) H
def rListS (K : PySem.W.Frag) : List V → Hp → VK → Prop := fun xs H Q => ∃ p ys, xs = [.ref p] ∧ (SqL K H p ys ∨ SqT K H p ys) ∧ ∀ l, H l = none → Q (.ref l) (upd H l (.lst ys))
def rListD : List V → Hp → VK → Prop := fun xs H Q => ∃ (a : Addr) (kvs : List (Key × V)), xs = [.ref a] ∧ Rd H a (.dK kvs) ∧ ∀ p, H p = none → Q (.ref p) (upd H p (.lst (kvs.map fun kv => kV kv.1)))
def rList (K : PySem.W.Frag) : List V → Hp → VK → Prop := fun xs H Q => rListS K xs H Q ∨ rListD xs H Q
def rTupO (K : PySem.W.Frag) : List V → Hp → VK → Prop := fun xs H Q => ∃ p ys, xs = [.ref p] ∧ ((SqL K H p ys ∧ ∀ l, H l = none → Q (.ref l) (upd H l (.tup ys))) ∨ (SqT K H p ys ∧ Q (.ref p) H))
def rIsi2 (K : PySem.W.Frag) : List V → Hp → VK → Prop := fun xs H Q => rIsi K xs H Q ∨ rIsiT K xs H Q
section
variable {X : Cx}
theorem o_add : OpR X (binaryOp .Add) (rAdd X.K) := OpR.or op_add (OpR.or op_add_str (OpR.or op_cat op_catA))
theorem o_sub : OpR X (binaryOp .Sub) rSub := op_sub
theorem o_mul : OpR X (binaryOp .Mult) rMul := OpR.or op_mul op_rep
theorem o_mod : OpR X (binaryOp .Mod) rMod := op_mod
theorem o_div : OpR X (binaryOp .FloorDiv) rDiv := op_fdiv
theorem o_pow : OpR X (binaryOp .Pow) rPow := op_pow
theorem o_lt : OpR X (compareOp .Lt) rLt := op_lt
theorem o_le : OpR X (compareOp .LtE) rLe := op_le
theorem o_gt : OpR X (compareOp .Gt) rGt := op_gt
theorem o_eq (hu : X.A.units + 64 < cLine) : OpR X (compareOp .Eq) (rEq2 X.K) := OpR.or op_eq (OpR.or (op_eqD hu) (OpR.or (op_eq_dictA (Nat.lt_of_le_of_lt (Nat.le_add_right _ _) hu)) (op_eqV hu)))
theorem o_ne (hu : X.A.units + 64 < cLine) : OpR X (compareOp .NotEq) (rNe2 X.K) := OpR.or op_ne (OpR.or (op_neD hu) (op_ne_dictA (Nat.lt_of_le_of_lt (Nat.le_add_right _ _) hu)))
theorem o_in : OpR X (compareOp .In) (rIn2 X.K false) := OpR.or op_in_seq op_in_sign
theorem o_nin : OpR X (compareOp .NotIn) (rIn2 X.K true) := OpR.or op_notIn_seq op_notIn_sign
theorem o_isN : OpR X (compareOp .Is) (rIsN2 false) := op_isN
theorem o_neg : UnR X (unaryOp .USub) rNeg := un_neg
theorem o_sl : SlR X (rSl X.K) := SlR.or sl_list (SlR.or sl_tupA C8.sl_txt)
theorem o_len : CallR X (.builtin "len") (rLenA X.K) := call_len
theorem o_int : CallR X (.type "int") rInt := CallR.or call_int1 call_int_str
theorem o_str : CallR X (.type "str") rStr := call_str_int
theorem o_list (hc : X.calm = true) : CallR X (.type "list") (rList X.K) := CallR.or call_list_of (call_listD hc)
theorem o_tuple : CallR X (.type "tuple") (rTupO X.K) := call_tuple_of
theorem o_isi : CallR X (.builtin "isinstance") (rIsi2 X.K) := CallR.or call_isi call_isiT
end
theorem pe_globI {X : Cx} {x : Str} {i : Int} {pos : Pos} (hg : Gl X x) (hm : ∃ t, X.mg x = some (.int i t)) (hd : (x == ("__debug__" : Str)) = false := by decide) : PE X (.Name x pos) (tC (.int i)) := by
  obtain ⟨t, hm⟩ := hm
  exact pe_glob hg hm ⟨t, rfl⟩ hd
theorem pe_globS {X : Cx} {x z : Str} {pos : Pos} (hg : Gl X x) (hm : ∃ t, X.mg x = some (.str z t)) (hd : (x == ("__debug__" : Str)) = false := by decide) : PE X (.Name x pos) (tC (.str z)) := by
  obtain ⟨t, hm⟩ := hm
  exact pe_glob hg hm ⟨t, rfl⟩ hd
def iSeq (K : PySem.W.Frag) (tl : TE) : TI := fun σ H R => tl σ H fun x H1 => ∃ a, x = .ref a ∧ (((∃ xs, SqL K H1 a xs) ∧ R (Itl K a) H1) ∨ ((∃ xs, SqT K H1 a xs) ∧ R (Itt K a) H1))
section
variable {X : Cx} {tg : Expr}
theorem pi_seq {l : Expr} {tl : TE} (hl : PE X l tl) : PI X tg l (iSeq X.K tl) := by
  refine ⟨fun pins s σ H R I h => ?_⟩
  refine thn (hl.run pins s σ H _ I h) fun v s1 ⟨x, H1, I1, r1, q1⟩ => ?_
  obtain ⟨a, e, q⟩ := q1
  subst e
  cases r1
  rcases q with ⟨⟨xs, hq⟩, q⟩ | ⟨⟨xs, hq⟩, q⟩
  · obtain ⟨its, rv, pl, _⟩ := I1.list hq
    refine wpAny_pyIter_list pl.isList ?_
    refine ⟨s1.heap.objs.size, [s1.heap.objs.size], _, _, H1, rfl, I1.kept (t' := s1.toks) fun b o e => Heap.get?_push_of_some _ e, turn_list a _, ⟨_, Heap.get?_push_size _ rfl, rfl, rfl⟩, fun b hb => ?_, q⟩
    obtain rfl : b = s1.heap.objs.size := by simpa using hb
    exact I1.fpOk (Nat.le_refl _) (I1.hok.fresh (Nat.le_refl _))
  · obtain ⟨its, rv, pt, _⟩ := I1.tuple hq
    refine wpAny_pyIter_tuple (show s1.heap.IsTuple a its.toArray from pt) ?_
    refine ⟨s1.heap.objs.size, [s1.heap.objs.size], _, _, H1, rfl, I1.kept (t' := s1.toks) fun b o e => Heap.get?_push_of_some _ e, turn_tuple a _, ⟨_, Heap.get?_push_size _ rfl, rfl, rfl⟩, fun b hb => ?_, q⟩
    obtain rfl : b = s1.heap.objs.size := by simpa using hb
    exact I1.fpOk (Nat.le_refl _) (I1.hok.fresh (Nat.le_refl _))
end
structure Cal (P : Program) (w : World) (K : PySem.W.Frag) (mg : Str → Option Value) (base : Heap) (k : Nat) (x : Str) (sp : Sp) : Prop where
  ex : ∃ (f : Addr) (fd : FuncData) (ps : List Str), FnOk P w K mg base CX0 k f fd ps sp ∧ mg x = some (.ref f) ∧ PySem.W.keepIn K (.ref f) = true ∧ Binds K fd ps []
theorem Cal.mono {P : Program} {w : World} {K : PySem.W.Frag} {mg : Str → Option Value} {base : Heap} {j k : Nat} {x : Str} {sp : Sp} (c : Cal P w K mg base j x sp) (h : j ≤ k) : Cal P w K mg base k x sp := by
  obtain ⟨f, fd, ps, F, r⟩ := c.ex
  exact ⟨f, fd, ps, F.mono h, r⟩
theorem Cal.imp {P : Program} {w : World} {K : PySem.W.Frag} {mg : Str → Option Value} {base : Heap} {k : Nat} {x : Str} {sp sp' : Sp} (c : Cal P w K mg base k x sp) (h : ∀ vs H Q E, sp' vs H Q E → sp vs H Q E) : Cal P w K mg base k x sp' := by
  obtain ⟨f, fd, ps, F, r⟩ := c.ex
  exact ⟨f, fd, ps, F.imp h, r⟩
/-- a def of the top -/
structure DefAt (K : PySem.W.Frag) (mg : Str → Option Value) (x : Str) (st : Stmt) (ps : List Str) : Prop where
  ex : ∃ (f : Addr) (fd : FuncData), Fun K x x st f fd ∧ mg x = some (.ref f) ∧ Binds K fd ps []
section
variable {P : Program} {w : World} {K : PySem.W.Frag} {mg : Str → Option Value} {base : Heap}
theorem cal_of {x : Str} {st : Stmt} {N ps : List Str} {k : Nat} {sp : Sp} (D : DefAt K mg x st ps) (S : FnScope N ps (defScope st)) (len : ∀ vs H Q E, sp vs H Q E → vs.length = ps.length)
    (hbody : ∀ (f : Addr) (cdv : Value) (A : Around) (outer : List Env) (s : Shared) (H : Hp) (vs : List V) (Q : VK) (E : XK), Room k (A.deeper (envOfC x (defScope st) s.heap.objs.size f cdv)) → sp vs H Q E →
      ∃ t, PSs (cxOf CX0 P w K mg base N x (defScope st) f cdv A outer s H E).nox (defBody st) t ∧ t { nx := fun _ H' => Q .non H', rt := Q } (start N vs) H) : Cal P w K mg base (k + 1) x sp := by
  obtain ⟨f, fd, F, m, b⟩ := D.ex
  exact ⟨f, fd, ps, F.ok S len fun cdv A outer s H vs Q E => hbody f cdv A outer s H vs Q E, m, F.kp, b⟩
/-- nothing is promised: a def at no depth -/
theorem cal_none {x : Str} {st : Stmt} {ps : List Str} {k : Nat} {sp : Sp} (D : DefAt K mg x st ps) (no : ∀ vs H Q E, ¬ sp vs H Q E) : Cal P w K mg base k x sp := by
  obtain ⟨f, fd, F, m, b⟩ := D.ex
  exact ⟨f, fd, ps, ⟨fun vs H Q E h => absurd h (no vs H Q E), fun A outer s H args us vs Q E _ _ _ _ h => absurd h (no vs H Q E)⟩, m, F.kp, b⟩
end
section
variable {X : Cx} {k j : Nat} {x : Str} {sp : Sp} {p pos : Pos} {e : Expr} {es : List Expr} {t : TA}
def tF (sp : Sp) (t : TA) : TE := fun σ H Q => t σ H fun vs H1 => sp vs H1 Q E0
theorem pe_f (c : Cal X.prog X.w X.K X.mg X.base k x sp) (hr : Room j X.A) (hk : k ≤ j) (ha : PA X (e :: es) t) (hg : Gl X x := by rfl)
    (hdb : (x == ("__debug__" : Str)) = false := by decide) (he : starEach (e :: es) X.env = (false, eval e X.env) :: starEach es X.env := by rfl) (hpl : (backTo pos (starEach es X.env)).any (·.1) = false := by rfl) :
    PE X (.Call (.Name x p) (e :: es) [] pos) (tF sp t) := by
  obtain ⟨f, fd, ps, F, hm, kp, b⟩ := c.ex
  have h := pe_call (p := p) F (hr.mono hk) hg hm kp b .nil (pass0 (X := X)) ha hdb he hpl
  refine ⟨fun pins s σ H Q I q => h.run pins s σ H Q I ?_⟩
  show t σ H fun vs H1 => sp (vs ++ []) H1 Q E0
  have e : (fun (vs : List V) (H1 : Hp) => sp (vs ++ []) H1 Q E0) = fun vs H1 => sp vs H1 Q E0 := by
    funext vs H1
    rw [List.append_nil]
  rw [e]
  exact q
end
theorem same_new {H : Hp} {p : Addr} {o : HO} (h : H p = none) : Same H (upd H p o) := fun b u q => by rw [upd_ne (ne_of_none q h)]; exact q
theorem same_mut {H H' : Hp} {p : Addr} {o : HO} (e : Same H H') (h : H p = none) : Same H (upd H' p o) := fun a u ha => by
  rw [upd_ne (ne_of_none ha h)]
  exact e a u ha
theorem same_rd {H H' : Hp} {a : Addr} {u : HO} (e : Same H H') (h : Rd H a u) : Rd H' a u := by
  rcases h with h | ⟨o, h⟩
  · exact .inl (e a _ h)
  · exact .inr ⟨o, e a _ h⟩
theorem same_l {K : PySem.W.Frag} {H H' : Hp} {a : Addr} {xs : List V} (e : Same H H') (h : SqL K H a xs) : SqL K H' a xs := h.elim (fun h => .inl (same_rd e h)) .inr
theorem same_t {K : PySem.W.Frag} {H H' : Hp} {a : Addr} {xs : List V} (e : Same H H') (h : SqT K H a xs) : SqT K H' a xs := h.elim (fun h => .inl (same_rd e h)) .inr
theorem sz {n : Nat} (h : n ≤ 16000000) : n ≤ sizeLine := Nat.le_trans h (by decide)
section
variable {K : PySem.W.Frag} {σ : L2.St} {H : Hp} {Q : VK} {x y v : V} {ta tb tc te : TE} {t u : TT} {D : Ends} {ts tu tw : TS}
theorem dec_int {i j : Int} : decide (V.int i = V.int j) = decide (i = j) := by simp
theorem dec_str {i j : Str} : decide (V.str i = V.str j) = decide (i = j) := by simp
theorem w_var {i : Nat} (h : σ[i]? = some (some v)) (q : Q v H) : tVar i σ H Q := ⟨v, h, q⟩
theorem w_c (q : Q v H) : tC v σ H Q := q
theorem w_op {r : R2} (q : ta σ H fun x H1 => tb σ H1 fun y H2 => r x y H2 Q) : tOp r ta tb σ H Q := q
theorem w_un {r : V → Hp → VK → Prop} (q : ta σ H fun x H1 => r x H1 Q) : tUn r ta σ H Q := q
theorem w_neg {i : Int} (q : Q (.int (-i)) H) : rNeg (.int i) H Q := ⟨i, rfl, q⟩
theorem w_addI {i j : Int} (q : Q (.int (i + j)) H) : rAdd K (.int i) (.int j) H Q := .inl ⟨i, j, rfl, rfl, q⟩
theorem w_addT {i j : Str} (h : i.length + j.length ≤ sizeLine) (q : Q (.str (i ++ j)) H) : rAdd K (.str i) (.str j) H Q := .inr (.inl ⟨i, j, rfl, rfl, h, q⟩)
theorem w_addL {a b : Addr} {xs ys : List V} (ha : H a = some (.lst xs)) (hb : H b = some (.lst ys)) (h : xs.length + ys.length ≤ sizeLine) (q : ∀ p, H p = none → Q (.ref p) (upd H p (.lst (xs ++ ys)))) : rAdd K (.ref a) (.ref b) H Q :=
  .inr (.inr (.inl ⟨a, b, xs, ys, rfl, rfl, ha, hb, h, q⟩))
theorem w_sub {i j : Int} (q : Q (.int (i - j)) H) : rSub (.int i) (.int j) H Q := ⟨i, j, rfl, rfl, q⟩
theorem w_mulI {i j : Int} (h : CMul i j) (q : Q (.int (i * j)) H) : rMul (.int i) (.int j) H Q := .inl ⟨i, j, rfl, rfl, h, q⟩
theorem w_mod {i j : Int} (h : 0 < j) (q : Q (.int (i % j)) H) : rMod (.int i) (.int j) H Q := ⟨i, j, rfl, rfl, h, q⟩
theorem w_div {i j : Int} (h : CDiv i j) (q : Q (.int (i / j)) H) : rDiv (.int i) (.int j) H Q := ⟨i, j, rfl, rfl, h, q⟩
theorem w_pow {i j : Int} (h : CPow i j) (q : Q (.int (i ^ j.toNat)) H) : rPow (.int i) (.int j) H Q := ⟨i, j, rfl, rfl, h, q⟩
theorem w_lt {i j : Int} (q : Q (.bl (decide (i < j))) H) : rLt (.int i) (.int j) H Q := ⟨i, j, rfl, rfl, q⟩
theorem w_le {i j : Int} (q : Q (.bl (decide (i ≤ j))) H) : rLe (.int i) (.int j) H Q := ⟨i, j, rfl, rfl, q⟩
theorem w_gt {i j : Int} (q : Q (.bl (decide (j < i))) H) : rGt (.int i) (.int j) H Q := ⟨i, j, rfl, rfl, q⟩
theorem w_ge {i j : Int} (q : Q (.bl (decide (j ≤ i))) H) : rGe (.int i) (.int j) H Q := ⟨i, j, rfl, rfl, q⟩
theorem w_eqI {i j : Int} (q : Q (.bl (decide (i = j))) H) : rEq2 K (.int i) (.int j) H Q := .inl ⟨rfl, by rw [dec_int]; exact q⟩
theorem w_eqS {i j : Str} (q : Q (.bl (decide (i = j))) H) : rEq2 K (.str i) (.str j) H Q := .inl ⟨rfl, by rw [dec_str]; exact q⟩
theorem w_neI {i j : Int} (q : Q (.bl (!decide (i = j))) H) : rNe2 K (.int i) (.int j) H Q := .inl ⟨rfl, by rw [dec_int]; exact q⟩
theorem w_neS {i j : Str} (q : Q (.bl (!decide (i = j))) H) : rNe2 K (.str i) (.str j) H Q := .inl ⟨rfl, by rw [dec_str]; exact q⟩
theorem w_eqD {d e : PyData} (hx : Dp K H x d) (hy : Dp K H y e) (sd : SeqAt.shaped d = true) (se : SeqAt.shaped e = true) (q : Q (.bl (PyData.eqv d e)) H) : rEq2 K x y H Q := .inr (.inl ⟨d, e, hx, hy, sd, se, q⟩)
theorem w_neD {d e : PyData} (hx : Dp K H x d) (hy : Dp K H y e) (sd : SeqAt.shaped d = true) (se : SeqAt.shaped e = true) (q : Q (.bl (!PyData.eqv d e)) H) : rNe2 K x y H Q := .inr (.inl ⟨d, e, hx, hy, sd, se, q⟩)
theorem w_ixT {p : Addr} {xs : List V} {i : Int} (h : SqT K H p xs) (e : atI xs i = some v) (q : Q v H) : rIx K (.ref p) (.int i) H Q := .inr (.inl ⟨p, xs, i, v, rfl, rfl, h, e, q⟩)
theorem w_ixL {p : Addr} {xs : List V} {i : Int} (h : SqL K H p xs) (e : atI xs i = some v) (q : Q v H) : rIx K (.ref p) (.int i) H Q := .inl ⟨p, xs, i, v, rfl, rfl, h, e, q⟩
theorem w_ixS {z : Str} {i : Int} {c : Nat} (h : z.length ≤ sizeLine) (e : atI z.cps.toList i = some c) (q : Q (.str ⟨#[c]⟩) H) : rIx K (.str z) (.int i) H Q := .inr (.inr ⟨z, i, c, rfl, rfl, h, e, q⟩)
theorem w_lenL {p : Addr} {xs : List V} (h : SqL K H p xs) (q : Q (.int ((xs.length : Nat) : Int)) H) : rLenA K [.ref p] H Q := ⟨.ref p, xs.length, rfl, .inl ⟨xs, h, rfl⟩, q⟩
theorem w_lenT {p : Addr} {xs : List V} (h : SqT K H p xs) (q : Q (.int ((xs.length : Nat) : Int)) H) : rLenA K [.ref p] H Q := ⟨.ref p, xs.length, rfl, .inr ⟨xs, h, rfl⟩, q⟩
theorem w_lenS {z : Str} (h : z.length ≤ sizeLine) (q : Q (.int ((z.length : Nat) : Int)) H) : rLenA K [.str z] H Q := ⟨.str z, z.length, rfl, ⟨h, rfl⟩, q⟩
theorem w_intI {i : Int} (q : Q (.int i) H) : rInt [.int i] H Q := .inl (.inl ⟨i, rfl, q⟩)
theorem w_intB {k : Bool} (q : Q (.int (if k then 1 else 0)) H) : rInt [.bl k] H Q := .inl (.inr ⟨k, rfl, q⟩)
theorem w_nil {Q : List V → Hp → Prop} (q : Q [] H) : tNil σ H Q := q
theorem w_cons {tr : TA} {Q : List V → Hp → Prop} (q : ta σ H fun x H1 => tr σ H1 fun xs H2 => Q (x :: xs) H2) : tCons ta tr σ H Q := q
theorem w_f {sp : Sp} {t : TA} (q : t σ H fun vs H1 => sp vs H1 Q E0) : tF sp t σ H Q := q
theorem w_cb {r : List V → Hp → VK → Prop} {t : TA} (q : t σ H fun vs H1 => r vs H1 Q) : tCB r t σ H Q := q
theorem w_lst {t : TA} (q : t σ H fun xs H1 => xs.length ≤ sizeLine ∧ ∀ p, H1 p = none → Q (.ref p) (upd H1 p (.lst xs))) : tLst t σ H Q := q
theorem w_tup {t : TA} (q : t σ H fun xs H1 => xs.length ≤ sizeLine ∧ ∀ p, H1 p = none → Q (.ref p) (upd H1 p (.tup xs))) : tTup t σ H Q := q
theorem w_test {Q : Bool → Hp → Prop} (q : te σ H fun x H' => ∃ k, x = .bl k ∧ Q k H') : tTest te σ H Q := q
theorem w_tB {Q : Bool → Hp → Prop} (q : te σ H fun x H' => ∃ k, x = .bl k ∧ Q k H') : tB te σ H Q := q
theorem w_bl {b : Bool} {R : Bool → Prop} (q : R b) : ∃ k, V.bl b = .bl k ∧ R k := ⟨b, rfl, q⟩
theorem w_and {Q : Bool → Hp → Prop} (q : t σ H fun c H1 => if c = true then u σ H1 Q else Q false H1) : tAnd t u σ H Q := q
theorem w_or {Q : Bool → Hp → Prop} (q : t σ H fun c H1 => if c = true then Q true H1 else u σ H1 Q) : tOr t u σ H Q := q
theorem w_not {Q : Bool → Hp → Prop} (q : t σ H fun c H1 => Q (!c) H1) : tNot t σ H Q := q
theorem w_andV (q : ta σ H fun x H1 => ∃ c, x = .bl c ∧ if c = true then tb σ H1 Q else Q (.bl false) H1) : tAndV ta tb σ H Q := q
theorem w_orV (q : ta σ H fun x H1 => ∃ c, x = .bl c ∧ if c = true then Q (.bl true) H1 else tb σ H1 Q) : tOrV ta tb σ H Q := q
theorem w_notV (q : ta σ H fun x H1 => ∃ c, x = .bl c ∧ Q (.bl (!c)) H1) : tNotV ta σ H Q := q
theorem w_seq (q : ts { D with nx := tu D } σ H) : tSeq ts tu D σ H := q
theorem w_next (q : D.nx σ H) : tNext D σ H := q
theorem w_asg {i : Nat} (q : te σ H fun x H1 => D.nx (σ.set i (some x)) H1) : tAsg te (gName i) D σ H := q
theorem w_asgT {n : Nat} {g : TGs} (q : te σ H fun x H1 => gTup K n g x σ H1 D.nx) : tAsg te (gTup K n g) D σ H := q
theorem w_ret (q : te σ H D.rt) : tRet te D σ H := q
theorem w_drop (q : te σ H fun _ H1 => D.nx σ H1) : tDrop te D σ H := q
theorem w_if (q : t σ H fun b H1 => if b = true then ts D σ H1 else tu D σ H1) : tIfS t ts tu D σ H := q
theorem w_yes {c : Bool} {A B : Prop} (e : c = true) (a : A) : if c = true then A else B := by rw [if_pos e]; exact a
theorem w_no {c : Bool} {A B : Prop} (e : c = false) (b : B) : if c = true then A else B := by rw [e]; exact iteF b
theorem w_two {c : Bool} {A B : Prop} (a : c = true → A) (b : c = false → B) : if c = true then A else B := by
  cases c with
  | true => exact iteT (a rfl)
  | false => exact iteF (b rfl)
end
end Hu
namespace Hu
open PySem PySem.Spec PyProof.Rows L2
structure CC (K : PySem.W.Frag) (cx : Str) (as : List Str) (C : Addr) : Prop where
  isC : PySem.W.nsIn K mainGlobals cx = some (some (.ref C))
  cls : Cls K C
  no : ∀ f ∈ as, NoAttr K C f
theorem CC.eq {K : PySem.W.Frag} {cx : Str} {as bs : List Str} {C D : Addr} (a : CC K cx as C) (b : CC K cx bs D) : C = D := by
  have := a.isC.symm.trans b.isC
  exact Value.ref.inj (Option.some.inj (Option.some.inj this))
structure MethAt (K : PySem.W.Frag) (C : Addr) (x qual : Str) (st : Stmt) (ps : List Str) : Prop where
  ex : ∃ (f : Addr) (fd : FuncData), Fun K x qual st f fd ∧ Meth K C x f ∧ Binds K fd ps []
structure InitAt (K : PySem.W.Frag) (C : Addr) (qual : Str) (st : Stmt) (ps : List Str) : Prop where
  ex : ∃ (f : Addr) (fd : FuncData), Fun K "__init__" qual st f fd ∧ Mk K C f ∧ Binds K fd ps []
structure CalM (P : Program) (w : World) (K : PySem.W.Frag) (mg : Str → Option Value) (base : Heap) (k : Nat) (cx : Str) (as : List Str) (x : Str) (sp : Sp) : Prop where
  ex : ∃ (C f : Addr) (fd : FuncData) (ps : List Str), CC K cx as C ∧ FnOk P w K mg base CX0 k f fd ps sp ∧ Meth K C x f ∧ Binds K fd ps []
section
variable {P : Program} {w : World} {K : PySem.W.Frag} {mg : Str → Option Value} {base : Heap}
theorem calM_of {C : Addr} {cx x qual : Str} {as : List Str} {st : Stmt} {N ps : List Str} {k : Nat} {sp : Sp} (c : CC K cx as C) (D : MethAt K C x qual st ps) (S : FnScope N ps (defScope st)) (len : ∀ vs H Q E, sp vs H Q E → vs.length = ps.length)
    (hbody : ∀ (f : Addr) (cdv : Value) (A : Around) (outer : List Env) (s : Shared) (H : Hp) (vs : List V) (Q : VK) (E : XK), Room k (A.deeper (envOfC qual (defScope st) s.heap.objs.size f cdv)) → sp vs H Q E →
      ∃ t, PSs (cxOf CX0 P w K mg base N qual (defScope st) f cdv A outer s H E).nox (defBody st) t ∧ t { nx := fun _ H' => Q .non H', rt := Q } (start N vs) H) : CalM P w K mg base (k + 1) cx as x sp := by
  obtain ⟨f, fd, F, m, b⟩ := D.ex
  exact ⟨C, f, fd, ps, c, F.ok S len fun cdv A outer s H vs Q E => hbody f cdv A outer s H vs Q E, m, b⟩
end
section
variable {X : Cx} {k j : Nat} {x cx : Str} {as : List Str} {sp : Sp} {p pos apos : Pos} {o e : Expr} {es : List Expr} {t : TA} {ta : TE}
/-- o.m(..), o an instance of the class named cx -/
def tM (K : PySem.W.Frag) (cx : Str) (as : List Str) (m : Str) (sp : Sp) (ta : TE) (t : TA) : TE := fun σ H Q => ta σ H fun x H1 => ∃ a C dx fs, x = .ref a ∧ H1 a = some (.ins C dx fs) ∧ CC K cx as C ∧ fs.lookup m = none ∧ t σ H1 fun vs H2 => sp (x :: vs) H2 Q E0
/-- cx(..) -/
def tMk (K : PySem.W.Frag) (cx : Str) (as : List Str) (sp : Sp) (t : TA) : TE := fun σ H Q => t σ H fun vs H1 => ∀ x C dx, CC K cx as C → H1 x = none → H1 dx = none → dx ≠ x →
  sp (.ref x :: vs) (upd (upd H1 dx (.own x)) x (.ins C dx [])) (fun v H2 => v = .non ∧ Q (.ref x) H2) E0
theorem pe_m {m : Str} {pl : Sem Bool} (c : CalM X.prog X.w X.K X.mg X.base k cx as m sp) (hr : Room j X.A) (hk : k ≤ j) (he : PE X o ta) (ha : PA X (e :: es) t)
    (hst : starEach (e :: es) X.env = (false, eval e X.env) :: starEach es X.env := by rfl) (hpl : (backTo pos (starEach es X.env)).any (·.1) = false := by rfl)
    (ht : eval (.Call (.Attribute o m apos) (e :: es) [] pos) X.env = (do
      let ov ← eval o X.env
      standAt apos.atName
      let (f, first) ← holding [ov] (getMethod ov m pl)
      callWith pos f first (backTo pos (starEach (e :: es) X.env)) (backToKw pos (keywordEach [] X.env))) := by rfl) : PE X (.Call (.Attribute o m apos) (e :: es) [] pos) (tM X.K cx as m sp ta t) := by
  obtain ⟨C, f, fd, ps, cc, F, hm, b⟩ := c.ex
  have h := pe_meth (pl := pl) (E := E0) he cc.cls hm F (hr.mono hk) b .nil (pass0 (X := X)) ha hst hpl ht
  refine ⟨fun pins s σ H Q I q => h.run pins s σ H Q I ?_⟩
  have e2 : ∀ (q : Q = Q), (fun (x : V) (H1 : Hp) => ∃ a C' dx fs, x = .ref a ∧ H1 a = some (.ins C' dx fs) ∧ CC X.K cx as C' ∧ fs.lookup m = none ∧ t σ H1 fun vs H2 => sp (x :: vs) H2 Q E0) = fun x H1 => ∃ a dx fs, x = .ref a ∧ H1 a = some (.ins C dx fs) ∧ fs.lookup m = none ∧ t σ H1 fun vs H2 => sp (x :: (vs ++ [])) H2 Q E0 := by
    intro _
    funext x H1
    have e0 : (fun (vs : List V) (H2 : Hp) => sp (x :: (vs ++ [])) H2 Q E0) = fun vs H2 => sp (x :: vs) H2 Q E0 := by
      funext vs H2
      rw [List.append_nil]
    rw [e0]
    refine propext ⟨?_, ?_⟩
    · rintro ⟨a, C', dx, fs, h1, h2, h3, h4, h5⟩
      have := h3.eq cc
      subst this
      exact ⟨a, dx, fs, h1, h2, h4, h5⟩
    · rintro ⟨a, dx, fs, h1, h2, h4, h5⟩
      exact ⟨a, C, dx, fs, h1, h2, cc, h4, h5⟩
  show ta σ H _
  rw [← e2 rfl]
  exact q
theorem pe_m0 {m : Str} {pl : Sem Bool} (c : CalM X.prog X.w X.K X.mg X.base k cx as m sp) (hr : Room j X.A) (hk : k ≤ j) (he : PE X o ta)
    (ht : eval (.Call (.Attribute o m apos) [] [] pos) X.env = (do
      let ov ← eval o X.env
      standAt apos.atName
      let (f, first) ← holding [ov] (getMethod ov m pl)
      callWith pos f first (backTo pos (starEach [] X.env)) (backToKw pos (keywordEach [] X.env))) := by rfl) : PE X (.Call (.Attribute o m apos) [] [] pos) (tM X.K cx as m sp ta tNil) := by
  obtain ⟨C, f, fd, ps, cc, F, hm, b⟩ := c.ex
  have h := pe_meth0 (pl := pl) (E := E0) he cc.cls hm F (hr.mono hk) b .nil (pass0 (X := X)) ht
  refine ⟨fun pins s σ H Q I q => h.run pins s σ H Q I ?_⟩
  have e2 : (fun (x : V) (H1 : Hp) => ∃ a C' dx fs, x = .ref a ∧ H1 a = some (.ins C' dx fs) ∧ CC X.K cx as C' ∧ fs.lookup m = none ∧ tNil σ H1 fun vs H2 => sp (x :: vs) H2 Q E0) = fun x H1 => ∃ a dx fs, x = .ref a ∧ H1 a = some (.ins C dx fs) ∧ fs.lookup m = none ∧ tNil σ H1 fun vs H2 => sp (x :: (vs ++ [])) H2 Q E0 := by
    funext x H1
    refine propext ⟨?_, ?_⟩
    · rintro ⟨a, C', dx, fs, h1, h2, h3, h4, h5⟩
      have := h3.eq cc
      subst this
      exact ⟨a, dx, fs, h1, h2, h4, h5⟩
    · rintro ⟨a, dx, fs, h1, h2, h4, h5⟩
      exact ⟨a, C, dx, fs, h1, h2, cc, h4, h5⟩
  show ta σ H _
  rw [← e2]
  exact q
/-- a name of the top that stands for a tuple -/
def tGT (K : PySem.W.Frag) (xs : List V) : TE := fun _ H Q => ∀ a, (∀ H', SqT K H' a xs) → Q (.ref a) H
theorem pe_globT {xs : List V} (hg : Gl X x) (hm : ∃ a, X.mg x = some (.ref a) ∧ ∀ H, SqT X.K H a xs) (hd : (x == ("__debug__" : Str)) = false := by decide) : PE X (.Name x pos) (tGT X.K xs) := by
  obtain ⟨a, hm, hs⟩ := hm
  have h := pe_glob (pos := pos) (v := .ref a) hg hm rfl hd
  exact ⟨fun pins s σ H Q I q => h.run pins s σ H Q I (q a hs)⟩
end
section
variable {K : PySem.W.Frag} {σ : L2.St} {H : Hp} {Q : VK} {te tv : TE} {D : Ends} {y v : V}
theorem w_glt {xs : List V} (q : ∀ a, (∀ H', SqT K H' a xs) → Q (.ref a) H) : tGT K xs σ H Q := q
theorem w_m {cx : Str} {as : List Str} {m : Str} {sp : Sp} {t : TA} (q : te σ H fun x H1 => ∃ a C dx fs, x = .ref a ∧ H1 a = some (.ins C dx fs) ∧ CC K cx as C ∧ fs.lookup m = none ∧ t σ H1 fun vs H2 => sp (x :: vs) H2 Q E0) : tM K cx as m sp te t σ H Q := q
theorem w_mk {cx : Str} {as : List Str} {sp : Sp} {t : TA} (q : t σ H fun vs H1 => ∀ x C dx, CC K cx as C → H1 x = none → H1 dx = none → dx ≠ x → sp (.ref x :: vs) (upd (upd H1 dx (.own x)) x (.ins C dx [])) (fun v H2 => v = .non ∧ Q (.ref x) H2) E0) : tMk K cx as sp t σ H Q := q
theorem w_fld {f : Str} (q : te σ H fun x H1 => ∃ a C dx fs v, x = .ref a ∧ H1 a = some (.ins C dx fs) ∧ Cls K C ∧ NoAttr K C f ∧ fs.lookup f = some v ∧ Q v H1) : tFld K te f σ H Q := q
theorem w_fldAt {f cx : Str} {as : List Str} {a C dx : Addr} {fs : List (Str × V)} {R : V → Prop} (h : H a = some (.ins C dx fs)) (c : CC K cx as C) (m : f ∈ as) (l : fs.lookup f = some v) (q : R v) : ∃ b C dx fs v, V.ref a = .ref b ∧ H b = some (.ins C dx fs) ∧ Cls K C ∧ NoAttr K C f ∧ fs.lookup f = some v ∧ R v := ⟨a, C, dx, fs, v, rfl, h, c.cls, c.no f m, l, q⟩
theorem w_sfld {f : Str} (q : tv σ H fun y H1 => te σ H1 fun x H2 => ∃ a C dx fs, x = .ref a ∧ H2 a = some (.ins C dx fs) ∧ Cls K C ∧ NoAttr K C f ∧ fs.length < 1000 ∧ D.nx σ (upd H2 a (.ins C dx (putF f y fs)))) : sFld K te tv f D σ H := q
theorem w_sfldAt {f cx : Str} {as : List Str} {a C dx : Addr} {fs : List (Str × V)} {R : Hp → Prop} (h : H a = some (.ins C dx fs)) (c : CC K cx as C) (m : f ∈ as) (l : fs.length < 1000) (q : R (upd H a (.ins C dx (putF f y fs)))) : ∃ b C dx fs, V.ref a = .ref b ∧ H b = some (.ins C dx fs) ∧ Cls K C ∧ NoAttr K C f ∧ fs.length < 1000 ∧ R (upd H b (.ins C dx (putF f y fs))) := ⟨a, C, dx, fs, rfl, h, c.cls, c.no f m, l, q⟩
theorem w_mAt {cx : Str} {as : List Str} {m : Str} {a C dx : Addr} {fs : List (Str × V)} {R : Prop} (h : H a = some (.ins C dx fs)) (c : CC K cx as C) (l : fs.lookup m = none) (q : R) : ∃ b C dx fs, V.ref a = .ref b ∧ H b = some (.ins C dx fs) ∧ CC K cx as C ∧ fs.lookup m = none ∧ R := ⟨a, C, dx, fs, rfl, h, c, l, q⟩
theorem w_chain {r r' : R2} {ta tb tc : TE} (q : ta σ H fun x H1 => tb σ H1 fun y H2 => r x y H2 fun z H3 => ∃ k, z = .bl k ∧ (if k = true then tc σ H3 fun w' H4 => r' y w' H4 Q else Q (.bl false) H3)) : tChain r r' ta tb tc σ H Q := q
theorem w_istr {R : It → Hp → Prop} (q : te σ H fun v H1 => ∃ x, v = .str x ∧ R (Its x) H1) : iStr te σ H R := q
theorem tyx_t {a : Addr} {xs : List V} (h : SqT K H a xs) : TyX K H (.ref a) (.type "tuple") := by
  rcases h with (h | ⟨o, h⟩) | ⟨o, its, n, h, c, _⟩
  · exact .base (.tup h)
  · exact .fTuple h
  · exact .kTuple h c
theorem tyx_l {a : Addr} {xs : List V} (h : SqL K H a xs) : TyX K H (.ref a) (.type "list") := by
  rcases h with (h | ⟨o, h⟩) | ⟨o, its, n, h, c, _⟩
  · exact .base (.lst h)
  · exact .base (.frz h)
  · exact .kList h c
end
theorem for_str {x : Str} {g : TG} {tb : TS} {D : Ends} {σ : L2.St} {H : Hp} (Pv : Nat → L2.St → Hp → Prop) (h0 : Pv 0 σ H)
    (hs : ∀ i c σ H, x.cps[i]? = some c → Pv i σ H → g (.str ⟨#[c]⟩) σ H fun σ2 H2 => tb { D with nx := Pv (i + 1), ct := Pv (i + 1), bk := D.nx } σ2 H2) (hd : ∀ σ H, Pv x.cps.size σ H → D.nx σ H) :
    ∃ W : Nat → Nat → L2.St → Hp → Prop, (∃ m, W 0 m σ H) ∧ ∀ i m σ H, W i m σ H →
      ((Its x).stop i H ∧ D.nx σ H) ∨ ((Its x).go i H ∧ ∃ N : L2.St → Hp → Prop, (∀ σ' H', N σ' H' → ∃ m', m' < m ∧ W (i + 1) m' σ' H') ∧ ∀ v H', (Its x).yld i H v H' → g v σ H' fun σ2 H2 => tb { D with nx := N, ct := N, bk := D.nx } σ2 H2) := by
  refine ⟨fun i m σ H => m = x.cps.size - i ∧ i ≤ x.cps.size ∧ Pv i σ H, ⟨x.cps.size, by simp, Nat.zero_le _, h0⟩, ?_⟩
  rintro i m σ H ⟨rfl, hi, p⟩
  by_cases hlt : i < x.cps.size
  · refine .inr ⟨hlt, Pv (i + 1), fun σ' H' p' => ⟨x.cps.size - (i + 1), by omega, rfl, hlt, p'⟩, fun v H' y => ?_⟩
    obtain ⟨rfl, c, hc, rfl⟩ := y
    exact hs i c σ _ hc p
  · have e : i = x.cps.size := by omega
    subst e
    exact .inl ⟨Nat.le_refl _, hd σ H p⟩
end Hu
namespace HuS
open PySem PySem.Spec PyProof.Rows L2
def nameOf (e : Int × Value) : Str := match e.2 with
  | .str x _ => x
  | _ => Str.empty
def Fit (w : World) (e : Int × Value) : Prop := ∃ x tk, e.2 = Value.str x tk ∧ e.1 = hashStr w x
def TxtSet (w : World) (h : Heap) (a : Addr) (S : Str → Bool) (n : Nat) : Prop :=
  ∃ o es ep t, h.get? a = some o ∧ o.ExactSet ∧ o.data = .set es ep t ∧ (∀ e ∈ es.toList, Fit w e) ∧ (es.toList.map nameOf).Nodup ∧ (∀ x, S x = true ↔ x ∈ es.toList.map nameOf) ∧
    es.size < scanBound ∧ t.fits es.size = true ∧ es.size = n ∧ Ris t.place.toList ∧ (w.params.followText "set-order" = true ∨ t.led = true)
section
variable {P : Program} {w : World} {h h' : Heap} {a : Addr} {S : Str → Bool} {n : Nat}
theorem TxtSet.at (R : TxtSet w h a S n) (k : ∀ o, h.get? a = some o → h'.get? a = some o) : TxtSet w h' a S n := by
  obtain ⟨o, es, ep, t, ho, r⟩ := R
  exact ⟨o, es, ep, t, k o ho, r⟩
theorem TxtSet.congr {S' : Str → Bool} (R : TxtSet w h a S n) (e : ∀ x, S' x = S x) : TxtSet w h a S' n := (funext e : S' = S) ▸ R
theorem fit_elems {l : List (Int × Value)} (g : ∀ e ∈ l, Fit w e) : ElemsOf (PySem.strKind P w) l := fun e he => by
  obtain ⟨x, tk, h1, h2⟩ := g e he
  exact ⟨⟨x, by rw [h1]; exact strKind_is P w x tk, h2⟩, by rw [h1] <;> rfl⟩
theorem fit_is {e : Int × Value} (g : Fit w e) (x : Str) : (PySem.strKind P w).is x e.2 = true ↔ nameOf e = x := by
  obtain ⟨y, tk, h1, _⟩ := g
  unfold nameOf
  rw [h1]
  constructor
  · intro z
    obtain ⟨t, e⟩ := Value.isStrOf_shape (show Value.isStrOf x (.str y tk) = true from z)
    injection e
  · intro z
    subst z
    exact strKind_is P w _ tk
theorem fit_mem {l : List (Int × Value)} (g : ∀ e ∈ l, Fit w e) (x : Str) : x ∈ l.map nameOf ↔ ∃ e ∈ l, (PySem.strKind P w).is x e.2 = true := by
  rw [List.mem_map]
  exact ⟨fun ⟨e, he, q⟩ => ⟨e, he, (fit_is (g e he) x).2 q⟩, fun ⟨e, he, q⟩ => ⟨e, he, (fit_is (g e he) x).1 q⟩⟩
end
section
variable {P : Program} {w : World} {A : Around} {E : Value → Shared → Prop} {s : Shared} {a : Addr} {S : Str → Bool} {n : Nat}
theorem put_tail {g : Bool → Sem Unit} (hg : ∀ (b : Bool) (s₁ : Shared) (Q' : Unit → Shared → Prop), Q' () s₁ → wpAny (model P w) A (g b) Q' E s₁)
    {o : Obj} {es : Array (Int × Value)} {ep : Nat} {t : SetTable} (ho : s.heap.get? a = some o) (hex : o.ExactSet) (hd : o.data = .set es ep t)
    {fs : Array (Int × Value)} {t2 : SetTable} {T : Str → Bool} (g1 : ∀ e ∈ fs.toList, Fit w e) (nd1 : (fs.toList.map nameOf).Nodup) (m1 : ∀ x, T x = true ↔ x ∈ fs.toList.map nameOf)
    (hb1 : fs.size < scanBound) (hf2 : t2.fits fs.size = true) (hr : Ris t2.place.toList) (hl : w.params.followText "set-order" = true ∨ t2.led = true) {dummy : Bool} {R : Option Bool → Shared → Prop}
    (hR : ∀ h', Heap.SameBut a s.heap h' → TxtSet w h' a T fs.size → R (some true) { s with heap := h' }) :
    wpAny (model P w) A (do
        storeSet a fs t2
        if (!dummy && t2.tooFull) = true then do
            g (relayAll t2 fs (SetTable.grown fs.size)).2.2
            storeSet a (relayAll t2 fs (SetTable.grown fs.size)).1 (relayAll t2 fs (SetTable.grown fs.size)).2.1
            pure (some true)
          else pure (some true)) R E s := by
  refine wpAny_bind (wpAny_storeSet_of ho hd ?_ (fits_of_scanBound hb1))
  have o1 := store_at (es' := fs) (t' := t2) ho hd
  have b1 := Heap.SameBut.update s.heap a (Obj.putSet fs t2)
  split
  · have pm := relayAll_perm t2 fs (SetTable.grown fs.size)
    have hf3 := relayAll_fits t2 fs (SetTable.grown fs.size)
    have hr3 := relayAll_ris t2 fs (SetTable.grown fs.size)
    have hl3 := relayAll_led t2 fs (SetTable.grown fs.size)
    generalize relayAll t2 fs (SetTable.grown fs.size) = Z at pm hf3 hr3 hl3 ⊢
    obtain ⟨gs, t3, gave⟩ := Z
    dsimp only at pm hf3 hr3 hl3 ⊢
    have z : gs.size = fs.size := by rw [← Array.length_toList, pm.length_eq, Array.length_toList]
    have hb2 : gs.size < scanBound := z ▸ hb1
    refine wpAny_bind (hg _ _ _ ?_)
    refine wpAny_bind (wpAny_storeSet_of o1 rfl ?_ (fits_of_scanBound hb2))
    have o2 := store_at (es' := gs) (t' := t3) o1 rfl
    refine wpAny_pure (hR _ (b1.trans (Heap.SameBut.update _ a _)) ?_)
    exact ⟨_, gs, _, t3, o2, hex, rfl, fun e he => g1 e (pm.mem_iff.mp he), (pm.map nameOf).nodup_iff.mpr nd1, fun x => (m1 x).trans (pm.map nameOf).mem_iff.symm, hb2, hf3, z, hr3,
      hl.imp id fun q => by rw [hl3]; exact q⟩
  · exact wpAny_pure (hR _ b1 ⟨_, fs, _, t2, o1, hex, rfl, g1, nd1, m1, hb1, hf2, rfl, hr, hl⟩)
theorem put_hashed {x : Str} {tk : Tok} {Q : Bool → Shared → Prop} (R : TxtSet w s.heap a S n) (room : n + 1 < scanBound)
    (hQ : ∀ h', Heap.SameBut a s.heap h' → TxtSet w h' a (fun y => S y || decide (y = x)) (if S x = true then n else n + 1) → Q (!S x) { s with heap := h' }) :
    wpAny (model P w) A (setAddHashed a (.str x tk) ((PySem.strKind P w).hash x)) Q E s := by
  obtain ⟨o, es, ep, t, ho, hex, hd, g, nd, hm, hb, hf, hn, hr, hl⟩ := R
  have hkey : (PySem.strKind P w).is x (.str x tk) = true := strKind_is P w x tk
  have hsc : (Value.str x tk).scannable = true := rfl
  have hel : ElemsOf (PySem.strKind P w) es.toList := fit_elems g
  unfold setAddHashed setAddHashedIn
  refine wpAny_holding (wpAny_bind (wpAny_setState_of ho hd hf ?_))
  dsimp only
  rw [byScan_of hsc hb hel]
  simp only [↓reduceIte]
  unfold setAddByScan
  refine wpAny_bind ?_
  refine wpAny_bind (wpAny_rule ?_)
  refine wpAny_bind (wpAny_setScan_of hkey ho hd hf hel ?_)
  cases hfi : List.findIdx? (fun e => (PySem.strKind P w).is x e.2) es.toList with
  | some j =>
    dsimp only
    obtain ⟨hj, pj, _⟩ := List.findIdx?_eq_some_iff_getElem.mp hfi
    have hS : S x = true := (hm x).2 ((fit_mem (P := P) (w := w) g x).2 ⟨es.toList[j], List.getElem_mem hj, pj⟩)
    refine wpAny_pure (wpAny_pure ?_)
    have q := hQ s.heap (Heap.SameBut.refl a s.heap) ⟨o, es, ep, t, ho, hex, hd, g, nd, fun y => by
      rw [Bool.or_eq_true, decide_eq_true_eq, ← hm y]
      exact ⟨fun z => z.elim id (fun e => e ▸ hS), .inl⟩, hb, hf, by rw [if_pos hS]; exact hn, hr, hl⟩
    rw [hS] at q
    exact q
  | none =>
    dsimp only
    have hno : x ∉ es.toList.map nameOf := fun z => by
      obtain ⟨e, he, q⟩ := (fit_mem (P := P) (w := w) g x).1 z
      have c := List.findIdx?_eq_none_iff.mp hfi e he
      rw [q] at c
      cases c
    have hS : S x = false := by
      cases q : S x with
      | false => rfl
      | true => exact absurd ((hm x).1 q) hno
    have hgw : ∀ (b : Bool) {s₁ : Shared} {Q' : Unit → Shared → Prop}, Q' () s₁ → wpAny (model P w) A (match b with | true => rule "set.scan.the-table-gave-way" | false => pure ()) Q' E s₁ :=
      fun b s₁ Q' q => by cases b <;> first | exact wpAny_pure q | exact wpAny_rule q
    have pm := layNew_perm t es ((PySem.strKind P w).hash x) (.str x tk)
    have hf1 := layNew_fits t es ((PySem.strKind P w).hash x) (.str x tk)
    have hr1 := layNew_ris t es ((PySem.strKind P w).hash x) (.str x tk) hr
    have hl1 := layNew_led t es ((PySem.strKind P w).hash x) (.str x tk)
    generalize layNew t es ((PySem.strKind P w).hash x) (.str x tk) = Z at pm hf1 hr1 hl1 ⊢
    obtain ⟨fs, t1, wasDummy, gave⟩ := Z
    dsimp only at pm hf1 hr1 hl1 ⊢
    rw [Array.toList_push] at pm
    have pc : fs.toList.Perm (((PySem.strKind P w).hash x, Value.str x tk) :: es.toList) := pm.trans (List.perm_append_singleton _ _)
    have pk : (fs.toList.map nameOf).Perm (x :: es.toList.map nameOf) := pc.map nameOf
    have g1 : ∀ e ∈ fs.toList, Fit w e := fun e he => by
      rcases List.mem_cons.mp (pc.mem_iff.mp he) with z | z
      · rw [z]; exact ⟨x, tk, rfl, rfl⟩
      · exact g e z
    have nd1 : (fs.toList.map nameOf).Nodup := pk.nodup_iff.mpr (List.nodup_cons.mpr ⟨hno, nd⟩)
    have m1 : ∀ y, (S y || decide (y = x)) = true ↔ y ∈ fs.toList.map nameOf := fun y => by
      rw [Bool.or_eq_true, decide_eq_true_eq, hm y, pk.mem_iff, List.mem_cons]
      exact Or.comm
    have z : fs.size = n + 1 := by rw [← Array.length_toList, pc.length_eq, List.length_cons, Array.length_toList, hn]
    have hb1 : fs.size < scanBound := by rw [z]; exact room
    have hled : w.params.followText "set-order" = true ∨ t1.led = true := hl.imp id fun q => by rw [hl1]; exact q
    have fin : ∀ h', Heap.SameBut a s.heap h' → TxtSet w h' a (fun y => S y || decide (y = x)) fs.size → Q true { s with heap := h' } := fun h' sb r => by
      have q := hQ h' sb
      rw [hS] at q
      rw [z] at r
      exact q r
    refine wpAny_bind (hgw _ ?_)
    split
    · refine wpAny_bind ?_
      rw [hashByValue_scannable 8 hsc]
      refine wpAny_pure ?_
      refine put_tail ?_ ho hex hd g1 nd1 m1 hb1 ?_ ?_ ?_ ?_
      · intro b s₁ Q' q; cases b <;> first | exact wpAny_pure q | exact wpAny_rule q
      · first | (split <;> first | exact hf1 | exact SetTable.fits_plain_off hf1) | exact hf1
      · first | (split <;> exact hr1) | exact hr1
      · first | (split <;> exact hled) | exact hled
      · intro h' sb r; dsimp only; exact wpAny_pure (fin h' sb r)
    · refine wpAny_bind (wpAny_pure ?_)
      simp only [↓reduceIte]
      refine put_tail ?_ ho hex hd g1 nd1 m1 hb1 hf1 hr1 hled ?_
      · intro b s₁ Q' q; cases b <;> first | exact wpAny_pure q | exact wpAny_rule q
      · intro h' sb r; dsimp only; exact wpAny_pure (fin h' sb r)
abbrev freshSet (w : World) : Obj := { cls := .type "set", dict := none, data := .set #[] 0 (.fresh 0 0 (!w.params.followText "set-order")) }
theorem fresh_txt {h : Heap} {a : Addr} {xs : List Str} (ho : h.get? a = some (freshSet w)) : TxtSet w h a (fun y => decide (y ∈ xs.take 0)) 0 :=
  ⟨_, #[], 0, _, ho, ⟨rfl, rfl, rfl⟩, rfl, (fun e he => by simp at he), (by simp), (fun x => by simp), (by decide), (by rfl), rfl, List.Pairwise.nil, by
    show _ ∨ (!w.params.followText "set-order") = true
    cases w.params.followText "set-order"
    · exact .inr rfl
    · exact .inl rfl⟩
/-- a set whose members all stand in ns is no longer than ns -/
theorem nodup_le {α : Type} [DecidableEq α] : ∀ {l m : List α}, l.Nodup → (∀ x ∈ l, x ∈ m) → l.length ≤ m.length
  | [], _, _, _ => Nat.zero_le _
  | x :: l, m, hn, hs => by
    obtain ⟨h1, h2⟩ := List.nodup_cons.mp hn
    have hx : x ∈ m := hs x List.mem_cons_self
    have ih := nodup_le (l := l) (m := m.erase x) h2 fun y hy => (List.mem_erase_of_ne (fun e : y = x => h1 (by rw [← e]; exact hy))).mpr (hs y (List.mem_cons_of_mem _ hy))
    have e := List.length_erase_of_mem hx
    have pos := List.length_pos_of_mem hx
    rw [List.length_cons]
    omega
theorem TxtSet.le (R : TxtSet w s.heap a S n) {ns : List Str} (h : ∀ x, S x = true → x ∈ ns) : n ≤ ns.length := by
  obtain ⟨o, es, ep, t, ho, hex, hd, g, nd, hm, hb, hf, hn, hr, hl⟩ := R
  have z := nodup_le nd fun x hx => h x ((hm x).2 hx)
  rw [List.length_map, Array.length_toList] at z
  omega
theorem put_loop {I : Addr} {fp wr : List Addr} {G : Array GenState → Array GenState → Prop} {n : Nat} {Pv : Nat → Value → Prop} {St : Nat → Shared → Prop} {R : Result → Shared → Prop}
    (W : WalksS P w A.in1 I fp wr G n Pv St) (D : Addr) (hSf : D ∉ fp) (xs ns : List Str) (hn : n = xs.length) (hsub : ∀ x ∈ xs, x ∈ ns) (hb : ns.length + 1 < scanBound) (hval : ∀ i v, Pv i v → ∃ x t, xs[i]? = some x ∧ v = .str x t) :
    ∀ (k i : Nat) (s : Shared), n - i = k → i ≤ n → St i s → (∃ c, TxtSet w s.heap D (fun y => decide (y ∈ xs.take i)) c) →
      (∀ s' c, Moved (D :: wr) G s s' → TxtSet w s'.heap D (fun y => decide (y ∈ xs)) c → R (.ok (.ret .none)) s') →
      codeAny (model P w) A (.builtin "set.update.loop" ⟨[.ref D, .ref I], []⟩) R s := by
  have hSw : D ∉ wr := fun h => hSf (W.sub _ h)
  have more : ∀ b ∈ wr, b ∈ D :: wr := fun b hb => List.mem_cons_of_mem _ hb
  intro k
  induction k with
  | zero =>
    intro i s hk hi hst ⟨c, hS⟩ hR
    obtain rfl : i = n := by omega
    refine codeAny_builtin F.entry_set_update_loop ?_
    rw [Around.under_plainId F.plain_set_update_loop _]
    show wpAny _ A.in1 (pyNext (.ref I) >>= _) _ _ s
    refine wpAny_bind (W.done s _ _ hst fun s' hm => ?_)
    show wpAny _ A.in1 (ret Value.none) _ _ s'
    rw [List.take_of_length_le (by omega)] at hS
    exact wpAny_pure (hR s' c (hm.mono more) (hS.at fun o e => hm.heap D o hSw e))
  | succ k ih =>
    intro i s hk hi hst ⟨c, hS⟩ hR
    have hlt : i < n := by omega
    refine codeAny_builtin F.entry_set_update_loop ?_
    rw [Around.under_plainId F.plain_set_update_loop _]
    show wpAny _ A.in1 (pyNext (.ref I) >>= _) _ _ s
    refine wpAny_bind (W.item i s _ _ hlt hst fun v s' hP hst' hm => ?_)
    obtain ⟨z, t, hz, rfl⟩ := hval i v hP
    have hS' : TxtSet w s'.heap D (fun y => decide (y ∈ xs.take i)) c := hS.at fun o e => hm.heap D o hSw e
    have hc : c ≤ ns.length := hS'.le fun x hx => hsub x (List.mem_of_mem_take (of_decide_eq_true hx))
    show wpAny _ A.in1 (holding [Value.str z t] (setAdd D (.str z t)) >>= _) _ _ s'
    refine wpAny_bind (wpAny_holding ?_)
    unfold setAdd
    refine wpAny_holding ?_
    refine wpAny_bind ((PySem.strKind P w).pyHash (k := z) (strKind_is _ _ _ _) ?_)
    refine put_hashed (s := { s' with toks := s'.toks + 1 }) hS' (by omega) fun h' hsb hS2 => ?_
    have hS3 : TxtSet w h' D (fun y => decide (y ∈ xs.take (i + 1))) (if decide (z ∈ xs.take i) = true then c else c + 1) := hS2.congr fun y => by
      rw [List.take_add_one, hz]
      simp [List.mem_append]
    refine wpAny_pure ⟨plainId_quiet F.plain_set_update_loop _, ih (i + 1) _ (by omega) hlt (W.frame _ s' _ _ hst' (Nat.le_succ _) fun b hb o e => ?_) ⟨_, hS3⟩ fun s'' c2 hm2 hS4 => ?_⟩
    · rw [hsb.2 b (fun h : b = D => hSf (h ▸ hb))]; exact e
    · refine hR s'' c2 (Moved.trans W.gtrans ((hm.mono more).then_heap (Nat.le_succ _) fun b o hb e => ?_) hm2) hS4
      rw [hsb.2 b (fun h : b = D => hb (h ▸ List.mem_cons_self))]; exact e
theorem txt_at : ∀ {us : List Value} {xs : List Str}, StrsAre us xs → ∀ (i : Nat) (v : Value), us[i]? = some v → ∃ x t, xs[i]? = some x ∧ v = .str x t
  | _, _, .nil, i, v, h => by simp at h
  | _, _, .cons n t hr, 0, v, h => ⟨n, t, rfl, by simpa using h.symm⟩
  | _, _, .cons n t hr, i + 1, v, h => by simpa using txt_at hr i v (by simpa using h)
set_option maxHeartbeats 3200000 in
theorem call_set_list {l : Addr} {items : Array Value} (xs ns : List Str) {Q : Value → Shared → Prop} (hh : A.handled = none) (hl : s.heap.IsList l items) (hit : StrsAre items.toList xs) (hsub : ∀ x ∈ xs, x ∈ ns) (hb : ns.length + 1 < scanBound)
    (h : ∀ (h' : Heap) (tk c : Nat), TxtSet w h' s.heap.objs.size (fun y => decide (y ∈ xs)) c → (∀ b o, s.heap.get? b = some o → h'.get? b = some o) → Q (.ref s.heap.objs.size) { s with heap := h', toks := tk }) :
    wpAny (model P w) A (call (.type "set") [.ref l]) Q E s := by
  have hisz : items.size = xs.length := by
    have q := StrsAre.length hit
    rw [Array.length_toList] at q
    exact q
  obtain ⟨c, tl, hmro⟩ := F.called_set.mro
  have hmade := F.called_set.made
  have hsb := F.called_set.sub
  refine wpAny_call (codeAny_of_tree ?_)
  show wpAny _ _ (callAny (.type "set") _) _ _ _
  refine wpAny_pure ⟨Code.quiet_builtin _ (by decide +kernel), codeAny_builtin F.entry_type_call ?_⟩
  rw [Around.under_plain (weight_type_call_type "set" [.ref l] []) rfl]
  have h1 := F.called_set.notType
  have h2 := F.called_set.canCreate
  have hct := F.typeCall_set_1 (.ref l)
  repeat (any_goals (first | assumption | wp_step))
  refine codeAny_mono (code_set_led1 (.ref l) (E := E) (Q₁ := fun obj s₁ => obj = .ref s.heap.objs.size ∧ s₁ = { s with heap := s.heap.push (freshSet w) }) ⟨rfl, rfl⟩) fun r s₁ hr => ?_
  cases r with
  | error e => exact hr
  | ok fl =>
    cases fl with
    | ret obj =>
      obtain ⟨rfl, rfl⟩ := hr
      have hS : (s.heap.push (freshSet w)).get? s.heap.objs.size = some (freshSet w) := Heap.get?_push_size _ rfl
      have hT : Shared.TypeIs { s with heap := s.heap.push (freshSet w) } (.ref s.heap.objs.size) "set" := ⟨_, hS, rfl⟩
      have hli := F.called_set.init.lookup
      have hbi := F.called_set.init.bind (.ref s.heap.objs.size)
      repeat (any_goals (first | assumption | wp_step))
      refine codeAny_mono (codeAny_call_builtin (R := wants (fun r s₂ => r = .none ∧ ∃ h' tk c, s₂ = { s with heap := h', toks := tk } ∧ TxtSet w h' s.heap.objs.size (fun y => decide (y ∈ xs)) c ∧
          (∀ b o, s.heap.get? b = some o → h'.get? b = some o)) E) F.called_set.init.plain F.entry_set_init (check_set_init_1 hT ?_)) fun r₂ s₂ hr₂ => ?_
      · obtain ⟨ol, hol, hcl, nl, hdl⟩ := hl
        obtain ⟨ocls, odict, odata, oslots⟩ := ol
        simp only at hcl hdl
        subst hcl; subst hdl
        have hol' : (s.heap.push (freshSet w)).get? l = some { cls := .type "list", dict := odict, data := .seq items nl, slots := oslots } := Heap.get?_push_of_some _ hol
        have hsls := PySem.F.sub_list_set
        have hslf := PySem.F.sub_list_frozenset
        have hne : (Value.type "list" == Value.type "dict") = false := by decide
        have hl1 : (s.heap.push (freshSet w)).IsList l items := ⟨_, hol', rfl, nl, rfl⟩
        unfold Builtin.«set.__init__» noKeywords Builtin.Frozenset.updateFrom
        generalize hPI : pyIter = PI
        wp_walk
        subst hPI
        refine wpAny_pyIter_list hl1 ?_
        refine wpAny_bind (wpAny_runValue ?_)
        have hlS : l < s.heap.objs.size := Heap.lt_size hol
        have hh3 : A.in1.in1.in1.handled = none := by simp [hh]
        have z1 : (s.heap.push (freshSet w)).objs.size = s.heap.objs.size + 1 := Heap.size_push ..
        have hneI : l ≠ (s.heap.push (freshSet w)).objs.size := by rw [z1]; exact Nat.ne_of_lt (Nat.lt_succ_of_lt hlS)
        have hSf : s.heap.objs.size ∉ [(s.heap.push (freshSet w)).objs.size, l] := by
          rw [z1]; simp only [List.mem_cons, List.mem_singleton, List.not_mem_nil, or_false, not_or]
          exact ⟨Nat.ne_of_lt (Nat.lt_succ_self _), Nat.ne_of_gt hlS⟩
        have hval : ∀ (i : Nat) (v : Value), items[i]? = some v → ∃ x t, xs[i]? = some x ∧ v = .str x t := fun i v hv => by
          exact txt_at hit i v (by rw [Array.getElem?_toList]; exact hv)
        refine put_loop ((Walks.list hh3 _ l hneI items).toS) s.heap.objs.size hSf xs ns hisz hsub hb hval (items.size - 0) 0 _ (by omega) (Nat.zero_le _)
          ⟨⟨_, Heap.get?_push_size _ rfl, rfl, rfl⟩, (hl1.push _)⟩ ?hS0 ?hR
        case hS0 => exact ⟨0, fresh_txt (Heap.get?_push_of_some _ hS)⟩
        case hR =>
          intro s' c' hm hS'
          obtain ⟨h', g2, d', tk', os'⟩ := s'
          have eg : g2 = s.gens := hm.gens
          have ed : d' = s.drawn := hm.drawn
          have eo : os' = s.os := hm.os
          subst eg; subst ed; subst eo
          show wpAny _ _ _ _ _ _
          refine wpAny_pure ?_
          show wpAny _ _ (ret Value.none) _ _ _
          refine wpAny_pure ⟨rfl, h', tk', c', rfl, hS', fun b o e => ?_⟩
          have hb0 : b < s.heap.objs.size := Heap.lt_size e
          refine hm.heap b o ?_ (Heap.get?_push_of_some _ (Heap.get?_push_of_some _ e))
          rw [z1]; simp only [List.mem_cons, List.mem_singleton, List.not_mem_nil, or_false, not_or]
          exact ⟨Nat.ne_of_lt hb0, Nat.ne_of_lt (Nat.lt_succ_of_lt hb0)⟩
      · cases r₂ with
        | error e => exact hr₂
        | ok fl₂ =>
          cases fl₂ with
          | ret r =>
            obtain ⟨rfl, h', tk, c', rfl, hS', hk'⟩ := hr₂
            repeat (any_goals (first | assumption | wp_step))
            exact h _ _ _ hS' hk'
          | _ => exact hr₂.elim
    | _ => exact hr.elim
theorem strsAre_names : ∀ (l : List (Int × Value)), (∀ e ∈ l, Fit w e) → StrsAre (l.map (·.2)) (l.map nameOf)
  | [], _ => .nil
  | e :: l, h => by
    obtain ⟨x, tk, h1, h2⟩ := h e List.mem_cons_self
    have q := strsAre_names l fun e he => h e (List.mem_cons_of_mem _ he)
    have z : nameOf e = x := by unfold nameOf; rw [h1]
    rw [List.map_cons, List.map_cons, z, h1]
    exact .cons x tk q
theorem strsAre_perm {us vs : List Value} (p : vs.Perm us) : ∀ {xs : List Str}, StrsAre us xs → ∃ ys : List Str, StrsAre vs ys ∧ ys.Perm xs := by
  intro xs h
  induction p generalizing xs with
  | nil => exact ⟨xs, h, .refl _⟩
  | cons v _ ih =>
    cases h with
    | cons x t h =>
      obtain ⟨ys, h1, h2⟩ := ih h
      exact ⟨x :: ys, .cons x t h1, h2.cons x⟩
  | swap v u l =>
    cases h with
    | cons x t h =>
      cases h with
      | cons y t' h => exact ⟨y :: x :: _, .cons y t' (.cons x t h), .swap x y _⟩
  | trans _ _ i1 i2 =>
    obtain ⟨ys, h1, h2⟩ := i2 h
    obtain ⟨zs, h3, h4⟩ := i1 h1
    exact ⟨zs, h3, h4.trans h2⟩
theorem sorted_txt {Q : Value → Shared → Prop} (R : TxtSet w s.heap a S n) (hh : A.handled = none)
    (hQ : ∀ s' p (out : Array Value) (c : Nat) (ys : List Str), (∀ b o, s.heap.get? b = some o → s'.heap.get? b = some o) → s'.gens = s.gens → s'.os = s.os → s.heap.objs.size ≤ p →
      s'.heap.get? p = some (seqObj "list" out c) → StrsAre out.toList ys → sortedS ys = true → ys.Nodup → (∀ x, x ∈ ys ↔ S x = true) → ys.length = n → Q (.ref p) s') :
    wpAny (model P w) A (call (.builtin "sorted") [.ref a]) Q E s := by
  obtain ⟨o, es, ep, t, ho, hex, hd, g, nd, hm, hb, hf, hn, hr, hl⟩ := R
  refine Calls.call_function_entry kind_sorted plain_sorted entry_sorted (args_sorted1 _) ?_
  unfold Builtin.«sorted»
  refine wpAny_bind (m := checkCount "sorted" 1 1 _) (wpAny_pure ?_)
  refine wpAny_bind (collect_set (A := A.in1) hh ⟨o, ho, hex.1, hd⟩ hf hb hr hl fun s1 vs k1 hz g1 o1 pm => ?_)
  have hvl : vs.length = n := by rw [pm.length_eq, List.length_map, Array.length_toList]; exact hn
  have hvz : vs.length ≤ sizeLine := by rw [hvl, ← hn]; exact fits_of_scanBound hb
  obtain ⟨zs, hZ, pz⟩ := strsAre_perm pm (strsAre_names es.toList g)
  refine wpAny_bind (wpAny_newList ?_ hvz)
  have hoL : (s1.heap.push (seqObj "list" vs.toArray 0)).get? s1.heap.objs.size = some (seqObj "list" vs.toArray 0) := Heap.get?_push_size _ rfl
  refine wpAny_bind (wpAny_holding (wpAny_call_entry slot_list_sort ⟨_, hoL, rfl⟩ entry_list_sort
    (list_sort_treeKAny strKind_oneLt hoL hZ.keysOf (fun v1 v2 rest e => keyKind_strs (by rw [← e]; exact hZ)) hvz fun st' hp hs => ⟨_, rfl, ?_⟩) (args_list_sort _)))
  obtain ⟨ys, a1, a2, a3⟩ := sorted_out_str hZ hp hs
  obtain ⟨c, hc⟩ := sortedHeap_at (vs := vs) (out := (arrOf st').map (·.2)) hoL
  have pn : ys.Perm (es.toList.map nameOf) := a2.trans pz
  refine wpAny_pure ⟨_, rfl, hQ _ s1.heap.objs.size _ c ys (fun b u e => ?_) g1 o1 hz hc a1 a3 (pn.nodup_iff.mpr nd) (fun x => by rw [pn.mem_iff, ← hm x]) ?_⟩
  · have q := k1 b u e
    have hlt := Heap.lt_size q
    show (sortedHeap (s1.heap.push (seqObj "list" vs.toArray 0)) s1.heap.objs.size vs _).get? b = some u
    rw [sortedHeap_old (Nat.ne_of_lt hlt) (by rw [size_push']; exact Nat.lt_succ_of_lt hlt)]
    exact Heap.get?_push_of_some _ q
  · rw [pn.length_eq, List.length_map, Array.length_toList]; exact hn
end
def tSortSet (K : PySem.W.Frag) (ta : TE) : TE := fun σ H Q => ta σ H fun x H1 => ∃ (l : Addr) (xs ns : List Str), x = .ref l ∧ SqL K H1 l (xs.map V.str) ∧ (∀ y ∈ xs, y ∈ ns) ∧ ns.length ≤ 4000 ∧
  ∀ (ys : List Str) (p : Addr) (H2 : Hp), sortedS ys = true → ys.Nodup → (∀ y, y ∈ ys ↔ y ∈ xs) → Same H1 H2 → H1 p = none → H2 p = some (.lst (ys.map V.str)) → Q (.ref p) H2
theorem vals_strs : ∀ {us : List Value} {xs : List Str}, StrsAre us xs → Vals (xs.map V.str) us
  | _, _, .nil => .nil
  | _, _, .cons x t h => .cons ⟨t, rfl⟩ (vals_strs h)
def TxtO (w : World) (a : Addr) (S : Str → Bool) (n : Nat) : HO := .ext fun h => TxtSet w h a S n
theorem txtO_new {w : World} {P : Program} {H : Hp} {h : Heap} {a : Addr} {S : Str → Bool} {n : Nat} (R : TxtSet w h a S n) : ObjOk P w H h a (TxtO w a S n) := by
  obtain ⟨o, es, ep, t, ho, r⟩ := id R
  exact ⟨R, ⟨o, ho⟩, fun h1 h2 f k => TxtSet.at f k⟩
def rSetL (K : PySem.W.Frag) (w : World) : List V → Hp → VK → Prop := fun vs H Q => ∃ (l : Addr) (xs ns : List Str), vs = [.ref l] ∧ SqL K H l (xs.map V.str) ∧ (∀ y ∈ xs, y ∈ ns) ∧ ns.length ≤ 4000 ∧
  ∀ p c, H p = none → Q (.ref p) (upd H p (TxtO w p (fun y => decide (y ∈ xs)) c))
def rSortT (w : World) : List V → Hp → VK → Prop := fun vs H Q => ∃ (a : Addr) (S : Str → Bool) (n : Nat), vs = [.ref a] ∧ H a = some (TxtO w a S n) ∧
  ∀ (ys : List Str) (p : Addr), sortedS ys = true → ys.Nodup → (∀ y, y ∈ ys ↔ S y = true) → H p = none → Q (.ref p) (upd H p (.lst (ys.map V.str)))
section
variable {X : Cx}
theorem cr_setL (hc : X.calm = true) : CallR X (.type "set") (rSetL X.K X.w) := by
  intro pins s σ H vs us Q I r h
  obtain ⟨l, xs, ns, rfl, hs, hsub, hn, q⟩ := h
  rw [Vals.ref1 r]
  obtain ⟨its, rv, pl, _⟩ := I.list hs
  have hS : StrsAre its xs := strsAre_of rv
  refine call_set_list xs ns (I.ok.hd hc) pl.isList hS hsub (by unfold scanBound; omega) fun h' tk c R k => ?_
  have hf : H s.heap.objs.size = none := I.hok.fresh (Nat.le_refl _)
  exact ⟨.ref s.heap.objs.size, _, I.laid (t' := tk) k (Nat.le_refl _) (txtO_new R), rfl, q _ c hf⟩
theorem cr_sortT (hc : X.calm = true) : CallR X (.builtin "sorted") (rSortT X.w) := by
  intro pins s σ H vs us Q I r h
  obtain ⟨a, S, n, rfl, ha, q⟩ := h
  rw [Vals.ref1 r]
  have R : TxtSet X.w s.heap a S n := (I.hok a _ ha).1
  refine sorted_txt R (I.ok.hd hc) fun s' p out c ys k g o hp hg hi hs hd hm hl => ?_
  have hlen : (ys.map V.str).length ≤ sizeLine := by
    obtain ⟨o', es, ep, t, _, _, _, _, _, _, hb, _, hn, _⟩ := R
    rw [List.length_map, hl, ← hn]
    exact fits_of_scanBound hb
  have hn : H p = none := I.hok.fresh hp
  have J : Inv X pins σ (upd H p (.lst (ys.map V.str))) { s with heap := s'.heap, gens := s'.gens, drawn := s'.drawn, toks := s'.toks } :=
    I.call (ch := []) (Un.laid k hp hn) (I.hok.laid k hp ⟨hlen, out.toList, c, vals_strs hi, hg⟩) (by rw [g]; exact I.bare) (fun _ z => nomatch z)
  have e : s' = { s with heap := s'.heap, gens := s'.gens, drawn := s'.drawn, toks := s'.toks } := by
    cases s'
    cases s
    cases o
    rfl
  rw [e]
  exact ⟨.ref p, _, J, rfl, q ys p hs hd hm hn⟩
variable {a : Expr} {ta : TE} {p p2 q pos : Pos}
/-- an expression at one place, its wish weakened -/
theorem pe_at {e : Expr} {t : TE} (h : PE X e t) (σ : L2.St) (H : Hp) (Q0 : VK) (h0 : t σ H Q0) : PE X e (fun σ' H' Q' => σ' = σ ∧ H' = H ∧ ∀ x H1, Q0 x H1 → Q' x H1) :=
  ⟨fun pins s σ' H' Q' I ⟨e1, e2, k⟩ => by
    subst e1 e2
    exact thn (h.run pins s _ _ Q0 I h0) fun v s1 ⟨x, H1, I1, r1, q1⟩ => ⟨x, H1, I1, r1, k x H1 q1⟩⟩
theorem pe_sortSet (hc : X.calm = true) (hg : Gl X "sorted") (hm : X.mg "sorted" = none) (hg2 : Gl X "set") (hm2 : X.mg "set" = none) (ha : PE X a ta)
    (hs : starEach [a] X.env = (false, eval a X.env) :: starEach [] X.env := by rfl) (hs2 : starEach [.Call (.Name "set" p2) [a] [] q] X.env = (false, eval (.Call (.Name "set" p2) [a] [] q) X.env) :: starEach [] X.env := by rfl)
    (e1 : (backTo q (starEach [] X.env)).any (·.1) = false := by rfl) (e2 : (backTo pos (starEach [] X.env)).any (·.1) = false := by rfl) :
    PE X (.Call (.Name "sorted" p) [.Call (.Name "set" p2) [a] [] q] [] pos) (tSortSet X.K ta) := by
  refine ⟨fun pins s σ H Q I h => ?_⟩
  have hp1 := pa_cons (pe_at ha σ H _ h) pa_nil hs
  have hp2 := pe_callTy (pos := q) (p := p2) (cr_setL hc) hg2 hm2 (by decide +kernel) hp1 (by decide) (by decide) hs e1
  have hp3 := pe_callB (pos := pos) (p := p) (cr_sortT hc) hg hm (by decide +kernel) (pa_cons hp2 pa_nil hs2) (by decide) (by decide) hs2 e2
  refine hp3.run pins s σ H Q I ⟨rfl, rfl, fun x H1 ⟨l, xs, ns, e, hl, hsub, hn, k⟩ => ?_⟩
  refine ⟨l, xs, ns, by rw [e], hl, hsub, hn, fun p c hp => ?_⟩
  refine ⟨p, _, c, rfl, upd_same, fun ys r h1 h2 h3 hr => ?_⟩
  have new : ∀ {H : Hp} {p : Addr} {o : HO}, H p = none → Same H (upd H p o) := fun h b u q => by rw [upd_ne (ne_of_none q h)]; exact q
  exact k ys r _ h1 h2 (fun y => (h3 y).trans decide_eq_true_iff) ((new hp).trans (new hr)) ((new hp).free hr) upd_same
end
end HuS
namespace Hu
open PySem PySem.Spec PyProof.Rows L2 HuS
abbrev cs (x : Str) : List Nat := x.cps.toList
theorem cs_app (x y : Str) : cs (x ++ y) = cs x ++ cs y := TL.tl_append x y
theorem cs_len (x : Str) : x.length = (cs x).length := by simp [Str.length]
theorem cs_one (c : Nat) : cs ⟨#[c]⟩ = [c] := rfl
theorem cs_slTo {x : Str} {i : Int} (h : 0 ≤ i) : cs (Txt.slice x none (some i)) = (cs x).take i.toNat := by
  have e := SX.slice_to (a := cs x) h
  rw [SX.S_tl] at e
  rw [e]
theorem cs_slFrom {x : Str} {i : Int} (h : 0 ≤ i) : cs (Txt.slice x (some i) none) = (cs x).drop i.toNat := by
  have e := SX.slice_from (a := cs x) h
  rw [SX.S_tl] at e
  rw [e]
def az : Str := "abcdefghijklmnopqrstuvwxyz"
def az9 : Str := "abcdefghijklmnopqrstuvwxyz0123456789"
def n09 : Str := "0123456789"
def words : List Str := ["set", "tell", "skip", "if", "else", "while", "end"]
def IsLet (c : Nat) : Prop := 97 ≤ c ∧ c ≤ 122
def IsSgn (c : Nat) : Prop := (97 ≤ c ∧ c ≤ 122) ∨ (48 ≤ c ∧ c ≤ 57)
theorem az_cs : cs az = (List.range 26).map (· + 97) := by decide +kernel
theorem n09_cs : cs n09 = (List.range 10).map (· + 48) := by decide +kernel
theorem az9_eq : az9 = az ++ n09 := by decide +kernel
theorem az9_cs : cs az9 = (List.range 26).map (· + 97) ++ (List.range 10).map (· + 48) := by rw [az9_eq, cs_app, az_cs, n09_cs]
theorem az_at {i : Int} (h0 : 0 ≤ i) (h : i < 26) : atI (cs az) i = some (i.toNat + 97) := by
  obtain ⟨j, rfl⟩ := Int.eq_ofNat_of_zero_le h0
  rw [Int.toNat_natCast]
  refine atI_nat ?_
  rw [az_cs, List.getElem?_map, List.getElem?_range (by omega)]
  rfl
theorem az9_at {i : Int} (h0 : 0 ≤ i) (h : i < 36) : ∃ c, atI (cs az9) i = some c ∧ IsSgn c := by
  obtain ⟨j, rfl⟩ := Int.eq_ofNat_of_zero_le h0
  by_cases hj : j < 26
  · refine ⟨j + 97, atI_nat ?_, .inl ⟨by omega, by omega⟩⟩
    rw [az9_cs, List.getElem?_append_left (by simpa using hj), List.getElem?_map, List.getElem?_range (by omega)]
    rfl
  · refine ⟨(j - 26) + 48, atI_nat ?_, .inr ⟨by omega, by omega⟩⟩
    rw [az9_cs, List.getElem?_append_right (by simp; omega), List.length_map, List.length_range, List.getElem?_map, List.getElem?_range (by omega)]
    rfl
/-- a name -/
structure Nm (x : Str) : Prop where
  pos : 1 ≤ (cs x).length
  most : (cs x).length ≤ 8
  hd : ∀ c, (cs x)[0]? = some c → IsLet c
  all : ∀ c ∈ cs x, IsSgn c
  nw : x ∉ words
/-- a name but for the words -/
structure Nw (x : Str) (n : Nat) : Prop where
  pos : 1 ≤ (cs x).length
  most : (cs x).length ≤ n
  hd : ∀ c, (cs x)[0]? = some c → IsLet c
  all : ∀ c ∈ cs x, IsSgn c
theorem Nm.nw' {x : Str} (h : Nm x) : Nw x 8 := ⟨h.pos, h.most, h.hd, h.all⟩
theorem words_short : ∀ x ∈ words, (cs x).length ≤ 5 := by decide +kernel
theorem words_zero : ∀ x ∈ words, (cs x).getLast? ≠ some 48 := by decide +kernel
theorem Nw.zero {x : Str} {n : Nat} (h : Nw x n) (w : x ∈ words) : Nm (x ++ ("0" : Str)) := by
  have e : cs (x ++ ("0" : Str)) = cs x ++ [48] := by rw [cs_app]; exact congrArg (cs x ++ ·) (by decide +kernel)
  have l := words_short x w
  refine ⟨?_, ?_, fun c hc => ?_, fun c hc => ?_, fun hw => words_zero _ hw ?_⟩
  · rw [e, List.length_append]; have := h.pos; omega
  · rw [e, List.length_append, List.length_singleton]; omega
  · rw [e, List.getElem?_append_left (by have := h.pos; omega)] at hc
    exact h.hd c hc
  · rw [e] at hc
    rcases List.mem_append.mp hc with hc | hc
    · exact h.all c hc
    · rw [List.mem_singleton.mp hc]; exact .inr ⟨by omega, by omega⟩
  · rw [e, List.getLast?_append]; rfl
theorem Nw.nm {x : Str} (h : Nw x 8) (w : x ∉ words) : Nm x := ⟨h.pos, h.most, h.hd, h.all, w⟩
theorem Nw.snoc {x : Str} {n c : Nat} (h : Nw x n) (hc : IsSgn c) : Nw (x ++ ⟨#[c]⟩) (n + 1) := by
  have e : cs (x ++ ⟨#[c]⟩) = cs x ++ [c] := cs_app _ _
  refine ⟨?_, ?_, fun d hd => ?_, fun d hd => ?_⟩
  · rw [e, List.length_append]; have := h.pos; omega
  · rw [e, List.length_append, List.length_singleton]; have := h.most; omega
  · rw [e, List.getElem?_append_left (by have := h.pos; omega)] at hd
    exact h.hd d hd
  · rw [e] at hd
    rcases List.mem_append.mp hd with hd | hd
    · exact h.all d hd
    · rw [List.mem_singleton.mp hd]; exact hc
theorem Nw.one {c : Nat} (h : IsLet c) : Nw ⟨#[c]⟩ 1 := ⟨Nat.le_refl _, Nat.le_refl _, fun d hd => by
  have e : c = d := Option.some.inj hd
  exact e ▸ h, fun d hd => by rw [List.mem_singleton.mp hd]; exact .inl h⟩
/-- one sign put in the place of another -/
theorem Nw.swap {x : Str} {at' : Nat} {c : Nat} (h : Nw x 8) (ha : at' < (cs x).length) (hc : IsSgn c) (h0 : at' = 0 → IsLet c) :
    Nw (Txt.slice x none (some (at' : Int)) ++ ⟨#[c]⟩ ++ Txt.slice x (some ((at' : Int) + 1)) none) 8 := by
  have e : cs (Txt.slice x none (some (at' : Int)) ++ ⟨#[c]⟩ ++ Txt.slice x (some ((at' : Int) + 1)) none) = ((cs x).take at' ++ [c]) ++ (cs x).drop (at' + 1) := by
    rw [cs_app, cs_app, cs_slTo (by omega), cs_slFrom (by omega)]
    have : ((at' : Int) + 1).toNat = at' + 1 := by omega
    rw [this, Int.toNat_natCast, cs_one]
  have l := h.most
  refine ⟨?_, ?_, fun d hd => ?_, fun d hd => ?_⟩
  · rw [e]; simp only [List.length_append, List.length_singleton]; omega
  · rw [e]; simp only [List.length_append, List.length_singleton, List.length_take, List.length_drop]; omega
  · rw [e] at hd
    cases at' with
    | zero =>
      have z : c = d := Option.some.inj hd
      exact z ▸ h0 rfl
    | succ k =>
      rw [List.append_assoc, List.getElem?_append_left (by rw [List.length_take]; omega), List.getElem?_take_of_lt (by omega)] at hd
      exact h.hd d hd
  · rw [e] at hd
    rcases List.mem_append.mp hd with hd | hd
    · rcases List.mem_append.mp hd with hd | hd
      · exact h.all d (List.mem_of_mem_take hd)
      · rw [List.mem_singleton.mp hd]; exact hc
    · exact h.all d (List.mem_of_mem_drop hd)
theorem Nw.cut {x : Str} {c : Nat} (h : Nw x 8) (hc : IsLet c) : Nw (Txt.slice x none (some 7) ++ ⟨#[c]⟩) 8 := by
  have e : cs (Txt.slice x none (some 7) ++ ⟨#[c]⟩) = (cs x).take 7 ++ [c] := by
    rw [cs_app, cs_slTo (by omega), cs_one] <;> rfl
  have l := h.most
  have p := h.pos
  refine ⟨?_, ?_, fun d hd => ?_, fun d hd => ?_⟩
  · rw [e, List.length_append, List.length_singleton]; omega
  · rw [e, List.length_append, List.length_singleton, List.length_take]; omega
  · rw [e, List.getElem?_append_left (by rw [List.length_take]; omega), List.getElem?_take_of_lt (by omega)] at hd
    exact h.hd d hd
  · rw [e] at hd
    rcases List.mem_append.mp hd with hd | hd
    · exact h.all d (List.mem_of_mem_take hd)
    · rw [List.mem_singleton.mp hd]; exact .inl hc
theorem flat_txt (xs : List Str) : (xs.map V.str).all flatV = true := by
  rw [List.all_map, List.all_eq_true]
  intro _ _
  rfl
theorem inV_txt (x : Str) (xs : List Str) : inV (.str x) (xs.map V.str) = decide (x ∈ xs) := by
  unfold inV
  rw [List.any_map]
  induction xs with
  | nil => rfl
  | cons y r ih =>
    rw [List.any_cons, ih]
    show ((y == x) || decide (x ∈ r)) = _
    by_cases e : y = x
    · subst e; simp
    · have e2 : ¬ x = y := fun z => e z.symm
      simp [e, e2]
/-- the text behind i turns -/
def cand (x : Str) (o k : Int) : Nat → Str
  | 0 => x
  | i + 1 => cand (Txt.slice x none (some 7) ++ ⟨#[((o + (x.length : Int) + k) % 26).toNat + 97]⟩) (o + 5) k i
def step7 (x : Str) (o k : Int) : Str := Txt.slice x none (some 7) ++ ⟨#[((o + (x.length : Int) + k) % 26).toNat + 97]⟩
theorem step7_cs (x : Str) (o k : Int) : cs (step7 x o k) = (cs x).take 7 ++ [((o + (x.length : Int) + k) % 26).toNat + 97] := by
  unfold step7
  rw [cs_app, cs_slTo (by omega), cs_one] <;> rfl
theorem cand_succ (x : Str) (o k : Int) (i : Nat) : cand x o k (i + 1) = cand (step7 x o k) (o + 5) k i := rfl
theorem cand_add (x : Str) (o k : Int) : ∀ i j, cand x o k (i + j) = cand (cand x o k i) (o + 5 * i) k j
  | 0, j => by
    rw [Nat.zero_add]
    have : o + 5 * ((0 : Nat) : Int) = o := by omega
    rw [this] <;> rfl
  | i + 1, j => by
    rw [Nat.succ_add, cand_succ, cand_succ, cand_add (step7 x o k) (o + 5) k i j]
    have : o + 5 + 5 * (i : Int) = o + 5 * ((i + 1 : Nat) : Int) := by omega
    rw [this]
theorem cand_len (x : Str) (o k : Int) (h : (cs x).length ≤ 8) : ∀ i, (cs (cand x o k i)).length ≤ 8 ∧ min 8 ((cs x).length + i) ≤ (cs (cand x o k i)).length
  | 0 => ⟨h, by show min 8 ((cs x).length + 0) ≤ (cs x).length; omega⟩
  | i + 1 => by
    have e : (cs (step7 x o k)).length = min 7 (cs x).length + 1 := by rw [step7_cs, List.length_append, List.length_take, List.length_singleton]
    have q := cand_len (step7 x o k) (o + 5) k (by omega) i
    rw [cand_succ]
    omega
/-- once eight long -/
theorem cand_eight (x : Str) (o k : Int) (h : (cs x).length = 8) : ∀ i, cs (cand x o k (i + 1)) = (cs x).take 7 ++ [((o + 5 * (i : Int) + 8 + k) % 26).toNat + 97]
  | 0 => by
    show cs (step7 x o k) = _
    rw [step7_cs, cs_len, h]
    have : o + 5 * ((0 : Nat) : Int) + 8 + k = o + ((8 : Nat) : Int) + k := by omega
    rw [this]
  | i + 1 => by
    have l : (cs (step7 x o k)).length = 8 := by rw [step7_cs, List.length_append, List.length_take, List.length_singleton, h] <;> rfl
    have q := cand_eight (step7 x o k) (o + 5) k l i
    rw [cand_succ, q, step7_cs]
    have e1 : ((cs x).take 7 ++ [((o + (x.length : Int) + k) % 26).toNat + 97]).take 7 = (cs x).take 7 := by
      rw [List.take_append_of_le_length (by rw [List.length_take, h]; omega), List.take_take] <;> rfl
    have e2 : o + 5 + 5 * (i : Int) + 8 + k = o + 5 * ((i + 1 : Nat) : Int) + 8 + k := by omega
    rw [e1, e2]
theorem cand_inj (x : Str) (o k : Int) (h : (cs x).length = 8) {i j : Nat} (hi : i < 26) (hj : j < 26) (e : cand x o k (i + 1) = cand x o k (j + 1)) : i = j := by
  have q := congrArg cs e
  rw [cand_eight x o k h, cand_eight x o k h] at q
  have z := List.append_cancel_left q
  injection z with z _
  have a1 := Int.emod_nonneg (o + 5 * (i : Int) + 8 + k) (show (26 : Int) ≠ 0 by decide)
  have a2 := Int.emod_nonneg (o + 5 * (j : Int) + 8 + k) (show (26 : Int) ≠ 0 by decide)
  omega
theorem cand_out (x : Str) (o k : Int) (h : (cs x).length = 8) (ns : List Str) (hn : ns.length ≤ 20) : ∃ m, m ≤ 26 ∧ cand x o k m ∉ ns := by
  refine Classical.byContradiction fun no => ?_
  have all : ∀ i, i < 26 → cand x o k (i + 1) ∈ ns := fun i hi => Classical.byContradiction fun z => no ⟨i + 1, by omega, z⟩
  have nd : ((List.range 26).map fun i => cand x o k (i + 1)).Nodup := by
    unfold List.Nodup
    rw [List.pairwise_map]
    refine List.Pairwise.imp_of_mem (fun {a b} ha hb hab e => ?_) (List.nodup_range (n := 26))
    exact hab (cand_inj x o k h (List.mem_range.mp ha) (List.mem_range.mp hb) e)
  have l := HuS.nodup_le nd fun y hy => by
    obtain ⟨i, hi, rfl⟩ := List.mem_map.mp hy
    exact all i (List.mem_range.mp hi)
  rw [List.length_map, List.length_range] at l
  omega
theorem cand_ends (x : Str) (o k : Int) (h : (cs x).length ≤ 8) (ns : List Str) (hn : ns.length ≤ 20) : ∃ m, cand x o k m ∉ ns := by
  have l := cand_len x o k h 8
  have l8 : (cs (cand x o k 8)).length = 8 := by omega
  obtain ⟨m, _, hm⟩ := cand_out (cand x o k 8) (o + 5 * ((8 : Nat) : Int)) k l8 ns hn
  exact ⟨8 + m, by rw [cand_add]; exact hm⟩
def rFind : V → List V → Hp → VK → Prop := fun x xs H Q => ∃ a b, x = .str a ∧ xs = [.str b] ∧ Q (.int (Txt.find a b)) H
section
variable {K : PySem.W.Frag} {σ : L2.St} {H : Hp} {Q : VK} {x y v : V} {ta tb tc te : TE} {t u : TT} {D : Ends} {ts tu tw : TS}
theorem w_new {n : Nat} {R : Addr → Prop} (z : n ≤ sizeLine) (q : ∀ p, H p = none → R p) : n ≤ sizeLine ∧ ∀ p, H p = none → R p := ⟨z, q⟩
theorem w_for {wi : TI} {g : TG} (q : wi σ H fun J H1 => ∃ W : Nat → Nat → L2.St → Hp → Prop, (∃ m, W 0 m σ H1) ∧ ∀ i m σ H, W i m σ H →
    (J.stop i H ∧ D.nx σ H) ∨ (J.go i H ∧ ∃ N : L2.St → Hp → Prop, (∀ σ' H', N σ' H' → ∃ m', m' < m ∧ W (i + 1) m' σ' H') ∧ ∀ x H', J.yld i H x H' → g x σ H' fun σ2 H2 => ts { D with nx := N, ct := N, bk := D.nx } σ2 H2)) : tFor wi g ts D σ H := q
theorem w_rng1 {ta : TA} {R : It → Hp → Prop} (q : ta σ H fun vs H1 => ∃ j : Int, vs = [.int j] ∧ -(2 ^ 62) ≤ j ∧ j < 2 ^ 62 ∧ R (Itr 0 j.toNat) H1) : iRng1 ta σ H R := q
theorem w_iseq {R : It → Hp → Prop} (q : te σ H fun x H1 => ∃ a, x = .ref a ∧ (((∃ xs, SqL K H1 a xs) ∧ R (Itl K a) H1) ∨ ((∃ xs, SqT K H1 a xs) ∧ R (Itt K a) H1))) : iSeq K te σ H R := q
theorem w_isL {a : Addr} {xs : List V} {P1 : Addr → Prop} {P2 : Addr → Prop} (h : SqL K H a xs) (q : P1 a) : ∃ b, V.ref a = .ref b ∧ (((∃ xs, SqL K H b xs) ∧ P1 b) ∨ P2 b) := ⟨a, rfl, .inl ⟨⟨xs, h⟩, q⟩⟩
theorem w_isT {a : Addr} {xs : List V} {P1 : Addr → Prop} {P2 : Addr → Prop} (h : SqT K H a xs) (q : P2 a) : ∃ b, V.ref a = .ref b ∧ (P1 b ∨ ((∃ xs, SqT K H b xs) ∧ P2 b)) := ⟨a, rfl, .inr ⟨⟨xs, h⟩, q⟩⟩
theorem w_inTxt {p : Addr} {z : Str} {xs : List Str} (h : SqL K H p (xs.map V.str)) (q : Q (.bl (decide (z ∈ xs))) H) : rIn2 K false (.str z) (.ref p) H Q := .inl ⟨p, _, rfl, .inl h, rfl, flat_txt xs, by rw [inV_txt]; exact q⟩
theorem w_ninTxt {p : Addr} {z : Str} {xs : List Str} (h : SqL K H p (xs.map V.str)) (q : Q (.bl (!decide (z ∈ xs))) H) : rIn2 K true (.str z) (.ref p) H Q := .inl ⟨p, _, rfl, .inl h, rfl, flat_txt xs, by rw [inV_txt]; exact q⟩
theorem w_inTxtT {p : Addr} {z : Str} {xs : List Str} (h : SqT K H p (xs.map V.str)) (q : Q (.bl (decide (z ∈ xs))) H) : rIn2 K false (.str z) (.ref p) H Q := .inl ⟨p, _, rfl, .inr h, rfl, flat_txt xs, by rw [inV_txt]; exact q⟩
theorem w_tYes {Q : Bool → Hp → Prop} (q : Q true H) : tYes σ H Q := q
theorem w_gN {i : Nat} {Qs : L2.St → Hp → Prop} (q : Qs (σ.set i (some v)) H) : gName i v σ H Qs := q
theorem w_gTup {n : Nat} {t : TGs} {a : Addr} {xs : List V} {Qs : L2.St → Hp → Prop} (h : SqT K H a xs) (l : xs.length = n) (q : t xs σ H Qs) : gTup K n t (.ref a) σ H Qs := ⟨a, xs, rfl, h, l, q⟩
theorem w_gTupN {n : Nat} {t : TGs} {a : Addr} {xs : List V} {Qs : L2.St → Hp → Prop} (l : xs.length = n) (q : t xs σ (upd H a (.tup xs)) Qs) : gTup K n t (.ref a) σ (upd H a (.tup xs)) Qs := ⟨a, xs, rfl, SqT.of upd_same, l, q⟩
theorem w_gCons {t : TG} {u : TGs} {vs : List V} {Qs : L2.St → Hp → Prop} (q : t v σ H fun σ' H' => u vs σ' H' Qs) : gCons t u (v :: vs) σ H Qs := ⟨v, vs, rfl, q⟩
theorem w_gNil {Qs : L2.St → Hp → Prop} (q : Qs σ H) : gNil [] σ H Qs := ⟨rfl, q⟩
theorem w_enum {ta : TA} {R : It → Hp → Prop} (q : ta σ H fun vs H1 => ∃ a xs, vs = [.ref a] ∧ SqL K H1 a xs ∧ R (Ite K a) H1) : iEnum K ta σ H R := q
theorem w_rng2 {ta : TA} {R : It → Hp → Prop} (q : ta σ H fun vs H1 => ∃ i j : Int, vs = [.int i, .int j] ∧ (-(2 ^ 62) ≤ i ∧ i < 2 ^ 62 ∧ -(2 ^ 62) ≤ j ∧ j < 2 ^ 62) ∧ R (Itr i (j - i).toNat) H1) : iRng2 ta σ H R := q
theorem w_isNref {a : Addr} (q : Q (.bl false) H) : rIsN2 false (.ref a) .non H Q := ⟨rfl, q⟩
theorem w_notNref {a : Addr} (q : Q (.bl true) H) : rIsN2 true (.ref a) .non H Q := ⟨rfl, q⟩
theorem w_isNint {i : Int} (q : Q (.bl false) H) : rIsN2 false (.int i) .non H Q := ⟨rfl, q⟩
theorem w_notNint {i : Int} (q : Q (.bl true) H) : rIsN2 true (.int i) .non H Q := ⟨rfl, q⟩
theorem w_isNnon (q : Q (.bl true) H) : rIsN2 false .non .non H Q := ⟨rfl, q⟩
theorem w_notNnon (q : Q (.bl false) H) : rIsN2 true .non .non H Q := ⟨rfl, q⟩
theorem w_dget {td ty : TE} (q : td σ H fun x H1 => ty σ H1 fun y H2 => ∃ a v, x = .ref a ∧ DGet H2 a y (some v) ∧ Q v H2) : tDGet td ty σ H Q := q
theorem w_dput {td ty tv : TE} (q : tv σ H fun v H1 => td σ H1 fun x H2 => ty σ H2 fun y H3 => ∃ a H4, x = .ref a ∧ DPut H3 a y v H4 ∧ D.nx σ H4) : sDPut td ty tv D σ H := q
theorem w_dnew (q : ∀ p, H p = none → Q (.ref p) (upd H p (.dK []))) : tDNewK σ H Q := q
theorem w_retN (q : D.rt .non H) : tRetN D σ H := q
theorem w_cont (q : D.ct σ H) : tCont D σ H := q
theorem w_inSg {neg : Bool} {c : Nat} {z : Str} (q : Q (.bl (if neg then !decide (c ∈ cs z) else decide (c ∈ cs z))) H) : rIn2 K neg (.str ⟨#[c]⟩) (.str z) H Q := .inr ⟨c, z, rfl, rfl, q⟩
theorem w_ninTxtT {p : Addr} {z : Str} {xs : List Str} (h : SqT K H p (xs.map V.str)) (q : Q (.bl (!decide (z ∈ xs))) H) : rIn2 K true (.str z) (.ref p) H Q := .inl ⟨p, _, rfl, .inr h, rfl, flat_txt xs, by rw [inV_txt]; exact q⟩
theorem w_sl {tl th : TO} {r : V → Option Int → Option Int → Hp → VK → Prop} (q : te σ H fun x H1 => tl σ H1 fun l H2 => th σ H2 fun u H3 => r x l u H3 Q) : tSl r te tl th σ H Q := q
theorem w_noP {Q : Option Int → Hp → Prop} (q : Q none H) : tNoPart σ H Q := q
theorem w_part {Q : Option Int → Hp → Prop} (q : te σ H fun x H1 => ∃ i, x = .int i ∧ Q (some i) H1) : tPart te σ H Q := q
theorem w_slS {z : Str} {lo hi : Option Int} (h : z.length ≤ sizeLine) (q : Q (.str (Txt.slice z lo hi)) H) : rSl K (.str z) lo hi H Q := .inr (.inr ⟨z, rfl, h, q⟩)
theorem w_slL {a : Addr} {xs : List V} {lo hi : Option Int} (h : SqL K H a xs) (q : ∀ p, H p = none → Q (.ref p) (upd H p (.lst (cutV xs lo hi)))) : rSl K (.ref a) lo hi H Q := .inl ⟨a, xs, rfl, h, q⟩
theorem w_exI {i : Int} {R : Int → Prop} (q : R i) : ∃ j, V.int i = .int j ∧ R j := ⟨i, rfl, q⟩
theorem w_bm {T : String} {r : V → List V → Hp → VK → Prop} {t : TA} (q : te σ H fun x H1 => tyV K T x H1 ∧ t σ H1 fun xs H2 => r x xs H2 Q) : tBM K T r te t σ H Q := q
theorem w_bmS {z : Str} {R : Prop} (q : R) : tyV K "str" (.str z) H ∧ R := ⟨rfl, q⟩
theorem w_bmL {p : Addr} {xs : List V} {R : Prop} (h : SqL K H p xs) (q : R) : tyV K "list" (.ref p) H ∧ R := ⟨.inl ⟨rfl, xs, h⟩, q⟩
theorem w_find {a b : Str} (q : Q (.int (Txt.find a b)) H) : rFind (.str a) [.str b] H Q := ⟨a, b, rfl, rfl, q⟩
theorem w_bm0 {T : String} {r : V → List V → Hp → VK → Prop} (q : te σ H fun x H1 => tyV K T x H1 ∧ r x [] H1 Q) : tBM0 K T r te σ H Q := q
theorem w_pop {l : Addr} {xs : List V} (h : H l = some (.lst xs)) (e : xs[xs.length - 1]? = some y) (q : Q y (upd H l (.lst xs.dropLast))) : rPop (.ref l) [] H Q := ⟨l, xs, y, rfl, rfl, h, e, q⟩
theorem w_tupL {p : Addr} {xs : List V} (h : SqL K H p xs) (q : ∀ l, H l = none → Q (.ref l) (upd H l (.tup xs))) : rTupO K [.ref p] H Q := ⟨p, xs, rfl, .inl ⟨h, q⟩⟩
theorem w_app {l : Addr} {xs : List V} (h : H l = some (.lst xs)) (z : xs.length < sizeLine) (q : Q .non (upd H l (.lst (xs ++ [y])))) : rAppend (.ref l) [y] H Q := ⟨l, xs, y, rfl, rfl, h, z, q⟩
theorem w_while' {c : TT} (Pv : Nat → L2.St → Hp → Prop) (m0 : Nat) (h0 : Pv m0 σ H)
    (hs : ∀ m σ' H', Pv m σ' H' → c σ' H' fun b H1 => if b = true then ∃ N : L2.St → Hp → Prop, (∀ σ2 H2, N σ2 H2 → ∃ m', m' < m ∧ Pv m' σ2 H2) ∧ ts { D with nx := N, ct := N, bk := D.nx } σ' H1 else D.nx σ' H1) : tWhile c ts D σ H :=
  ⟨Pv, ⟨m0, h0⟩, hs⟩
end
local macro_rules | `(tactic| walk_at "sm.") => `(tactic| (refine Same.trans (H1 := ?M) ?a ?b; (case b => with_reducible assumption); (case a => walk_at "sm")))
local macro_rules | `(tactic| walk_at "sm.") => `(tactic| (refine same_mut ?_ (by with_reducible assumption); walk_at "sm"))
local macro_rules | `(tactic| walk_at "sm.") => `(tactic| (refine Same.trans ?_ (same_new (by with_reducible assumption)); walk_at "sm"))
local macro_rules | `(tactic| walk_at "sm.") => `(tactic| exact Same.refl _)
local macro_rules | `(tactic| walk_at "sm.") => `(tactic| with_reducible assumption)
local macro_rules | `(tactic| walk_at "sm") => `(tactic| first | walk_at "sm." | fail)
local macro_rules | `(tactic| walk_at "sq.") => `(tactic| (refine SqT.of (Eq.trans (upd_ne ?n) ?h); (case h => with_reducible assumption); (case n => walk_at "ne")))
local macro_rules | `(tactic| walk_at "sq.") => `(tactic| (refine SqL.of (Eq.trans (upd_ne ?n) ?h); (case h => with_reducible assumption); (case n => walk_at "ne")))
local macro_rules | `(tactic| walk_at "sq.") => `(tactic| exact SqT.of (by with_reducible assumption))
local macro_rules | `(tactic| walk_at "sq.") => `(tactic| exact SqL.of (by with_reducible assumption))
local macro_rules | `(tactic| walk_at "sq.") => `(tactic| exact SqL.of upd_same)
local macro_rules | `(tactic| walk_at "sq.") => `(tactic| exact SqT.of upd_same)
local macro_rules | `(tactic| walk_at "sq.") => `(tactic| (refine same_l (H := ?M) ?e ?h; (case h => with_reducible assumption); (case e => walk_at "sm")))
local macro_rules | `(tactic| walk_at "sq.") => `(tactic| (refine same_t (H := ?M) ?e ?h; (case h => with_reducible assumption); (case e => walk_at "sm")))
local macro_rules | `(tactic| walk_at "sq.") => `(tactic| with_reducible assumption)
local macro_rules | `(tactic| walk_at "sq") => `(tactic| first | walk_at "sq." | fail)
local macro_rules | `(tactic| walk_at "ne.") => `(tactic| exact (ne_of_none (by with_reducible assumption) (by with_reducible assumption)).symm)
local macro_rules | `(tactic| walk_at "ne.") => `(tactic| exact ne_of_none (by with_reducible assumption) (by with_reducible assumption))
local macro_rules | `(tactic| walk_at "ne.") => `(tactic| with_reducible assumption)
local macro_rules | `(tactic| walk_at "ne") => `(tactic| first | walk_at "ne." | fail)
local macro_rules | `(tactic| walk_at "sz.") => `(tactic| (refine sz ?_; first | omega | (simp only [List.length_cons, List.length_nil, List.length_map]; omega) | (simp only [cs_len]; omega)))
local macro_rules | `(tactic| walk_at "sz.") => `(tactic| with_reducible assumption)
local macro_rules | `(tactic| walk_at "sz") => `(tactic| first | walk_at "sz." | fail)
set_option hygiene false in
local macro_rules | `(tactic| walk_at "new") => `(tactic| (refine w_new ?_ (fun p hp => ?_); (walk_at "sz")))
local macro_rules | `(tactic| walk_at "tr.") => `(tactic| exact decide_eq_false (by with_reducible assumption))
local macro_rules | `(tactic| walk_at "tr.") => `(tactic| exact decide_eq_true (by with_reducible assumption))
local macro_rules | `(tactic| walk_at "tr.") => `(tactic| decide +kernel)
local macro_rules | `(tactic| walk_at "tr.") => `(tactic| with_reducible rfl)
local macro_rules | `(tactic| walk_at "tr.") => `(tactic| with_reducible assumption)
local macro_rules | `(tactic| walk_at "tr") => `(tactic| first | walk_at "tr." | fail)
local macro_rules | `(tactic| walk_at "go1.") => `(tactic| with_reducible refine w_tup ?_)
local macro_rules | `(tactic| walk_at "go1.") => `(tactic| with_reducible refine w_lst ?_)
local macro_rules | `(tactic| walk_at "go1.") => `(tactic| ((with_reducible refine w_lenT (xs := ?xs) ?h ?_); (case h => walk_at "sq")))
local macro_rules | `(tactic| walk_at "go1.") => `(tactic| ((with_reducible refine w_lenL (xs := ?xs) ?h ?_); (case h => walk_at "sq")))
local macro_rules | `(tactic| walk_at "go1.") => `(tactic| ((with_reducible refine w_addT ?z ?_); (case z => walk_at "sz")))
local macro_rules | `(tactic| walk_at "go1.") => `(tactic| ((with_reducible refine w_lenS ?z ?_); (case z => walk_at "sz")))
local macro_rules | `(tactic| walk_at "go1.") => `(tactic| ((with_reducible refine w_slS ?z ?_); (case z => walk_at "sz")))
local macro_rules | `(tactic| walk_at "go1.") => `(tactic| with_reducible refine w_find ?_)
local macro_rules | `(tactic| walk_at "go1.") => `(tactic| ((with_reducible refine w_bmL (xs := ?xs) ?h ?_); (case h => walk_at "sq")))
local macro_rules | `(tactic| walk_at "go1.") => `(tactic| with_reducible refine w_bmS ?_)
local macro_rules | `(tactic| walk_at "go1.") => `(tactic| with_reducible refine w_bm0 ?_)
local macro_rules | `(tactic| walk_at "go1.") => `(tactic| with_reducible refine w_bm ?_)
local macro_rules | `(tactic| walk_at "go1.") => `(tactic| with_reducible refine w_exI ?_)
local macro_rules | `(tactic| walk_at "go1.") => `(tactic| with_reducible refine w_part ?_)
local macro_rules | `(tactic| walk_at "go1.") => `(tactic| with_reducible refine w_cont ?_)
local macro_rules | `(tactic| walk_at "go1.") => `(tactic| with_reducible refine w_retN ?_)
local macro_rules | `(tactic| walk_at "go1.") => `(tactic| with_reducible refine w_istr ?_)
local macro_rules | `(tactic| walk_at "go1.") => `(tactic| with_reducible refine w_chain ?_)
local macro_rules | `(tactic| walk_at "go1.") => `(tactic| with_reducible refine w_glt ?_)
local macro_rules | `(tactic| walk_at "go1.") => `(tactic| with_reducible refine w_mk ?_)
local macro_rules | `(tactic| walk_at "go1.") => `(tactic| with_reducible refine w_m ?_)
local macro_rules | `(tactic| walk_at "go1.") => `(tactic| with_reducible refine w_sfld ?_)
local macro_rules | `(tactic| walk_at "go1.") => `(tactic| with_reducible refine w_fld ?_)
local macro_rules | `(tactic| walk_at "go1.") => `(tactic| with_reducible refine w_dnew ?_)
local macro_rules | `(tactic| walk_at "go1.") => `(tactic| with_reducible refine w_dput ?_)
local macro_rules | `(tactic| walk_at "go1.") => `(tactic| with_reducible refine w_dget ?_)
local macro_rules | `(tactic| walk_at "go1.") => `(tactic| with_reducible refine w_notNnon ?_)
local macro_rules | `(tactic| walk_at "go1.") => `(tactic| with_reducible refine w_isNnon ?_)
local macro_rules | `(tactic| walk_at "go1.") => `(tactic| with_reducible refine w_notNint ?_)
local macro_rules | `(tactic| walk_at "go1.") => `(tactic| with_reducible refine w_isNint ?_)
local macro_rules | `(tactic| walk_at "go1.") => `(tactic| with_reducible refine w_notNref ?_)
local macro_rules | `(tactic| walk_at "go1.") => `(tactic| with_reducible refine w_isNref ?_)
local macro_rules | `(tactic| walk_at "go1.") => `(tactic| with_reducible refine w_rng2 ?_)
local macro_rules | `(tactic| walk_at "go1.") => `(tactic| with_reducible refine w_enum ?_)
local macro_rules | `(tactic| walk_at "go1.") => `(tactic| with_reducible refine w_gNil ?_)
local macro_rules | `(tactic| walk_at "go1.") => `(tactic| with_reducible refine w_gCons ?_)
local macro_rules | `(tactic| walk_at "go1.") => `(tactic| ((with_reducible refine w_gTup (xs := ?xs) ?h ?l ?_); (case h => walk_at "sq"); (case l => rfl)))
local macro_rules | `(tactic| walk_at "go1.") => `(tactic| ((with_reducible refine w_gTupN ?l ?_); (case l => rfl)))
local macro_rules | `(tactic| walk_at "go1.") => `(tactic| with_reducible refine w_gN ?_)
local macro_rules | `(tactic| walk_at "go1.") => `(tactic| with_reducible refine w_tYes ?_)
local macro_rules | `(tactic| walk_at "go1.") => `(tactic| with_reducible refine w_noP ?_)
local macro_rules | `(tactic| walk_at "go1.") => `(tactic| with_reducible refine w_sl ?_)
local macro_rules | `(tactic| walk_at "go1.") => `(tactic| with_reducible refine w_iseq ?_)
local macro_rules | `(tactic| walk_at "go1.") => `(tactic| with_reducible refine w_rng1 ?_)
local macro_rules | `(tactic| walk_at "go1.") => `(tactic| with_reducible refine w_for ?_)
local macro_rules | `(tactic| walk_at "go1.") => `(tactic| ((with_reducible refine w_no ?e ?_); (case e => walk_at "tr")))
local macro_rules | `(tactic| walk_at "go1.") => `(tactic| ((with_reducible refine w_yes ?e ?_); (case e => walk_at "tr")))
local macro_rules | `(tactic| walk_at "go1.") => `(tactic| with_reducible refine w_intI ?_)
local macro_rules | `(tactic| walk_at "go1.") => `(tactic| with_reducible refine w_intB ?_)
local macro_rules | `(tactic| walk_at "go1.") => `(tactic| with_reducible refine w_neg ?_)
local macro_rules | `(tactic| walk_at "go1.") => `(tactic| with_reducible refine w_un ?_)
local macro_rules | `(tactic| walk_at "go1.") => `(tactic| with_reducible refine w_notV ?_)
local macro_rules | `(tactic| walk_at "go1.") => `(tactic| with_reducible refine w_orV ?_)
local macro_rules | `(tactic| walk_at "go1.") => `(tactic| with_reducible refine w_andV ?_)
local macro_rules | `(tactic| walk_at "go1.") => `(tactic| with_reducible refine w_not ?_)
local macro_rules | `(tactic| walk_at "go1.") => `(tactic| with_reducible refine w_or ?_)
local macro_rules | `(tactic| walk_at "go1.") => `(tactic| with_reducible refine w_and ?_)
local macro_rules | `(tactic| walk_at "go1.") => `(tactic| with_reducible refine w_ge ?_)
local macro_rules | `(tactic| walk_at "go1.") => `(tactic| with_reducible refine w_gt ?_)
local macro_rules | `(tactic| walk_at "go1.") => `(tactic| with_reducible refine w_le ?_)
local macro_rules | `(tactic| walk_at "go1.") => `(tactic| with_reducible refine w_lt ?_)
local macro_rules | `(tactic| walk_at "go1.") => `(tactic| ((with_reducible refine w_div ?c ?_); (case c => (first | exact ⟨by decide, by decide⟩ | exact ⟨by omega, by omega⟩))))
local macro_rules | `(tactic| walk_at "go1.") => `(tactic| ((with_reducible refine w_mod ?c ?_); (case c => (first | decide | omega))))
local macro_rules | `(tactic| walk_at "go1.") => `(tactic| with_reducible refine w_sub ?_)
local macro_rules | `(tactic| walk_at "go1.") => `(tactic| with_reducible refine w_addI ?_)
local macro_rules | `(tactic| walk_at "go1.") => `(tactic| with_reducible refine w_neS ?_)
local macro_rules | `(tactic| walk_at "go1.") => `(tactic| with_reducible refine w_neI ?_)
local macro_rules | `(tactic| walk_at "go1.") => `(tactic| with_reducible refine w_eqS ?_)
local macro_rules | `(tactic| walk_at "go1.") => `(tactic| with_reducible refine w_eqI ?_)
local macro_rules | `(tactic| walk_at "go1.") => `(tactic| ((with_reducible refine w_ixL (xs := ?xs) (v := ?v) ?h ?e ?_); (case h => walk_at "sq"); (case e => rfl)))
local macro_rules | `(tactic| walk_at "go1.") => `(tactic| ((with_reducible refine w_ixT (xs := ?xs) (v := ?v) ?h ?e ?_); (case h => walk_at "sq"); (case e => rfl)))
local macro_rules | `(tactic| walk_at "go1.") => `(tactic| with_reducible refine w_bl ?_)
local macro_rules | `(tactic| walk_at "go1.") => `(tactic| with_reducible refine w_cb ?_)
local macro_rules | `(tactic| walk_at "go1.") => `(tactic| with_reducible refine w_f ?_)
local macro_rules | `(tactic| walk_at "go1.") => `(tactic| with_reducible refine w_nil ?_)
local macro_rules | `(tactic| walk_at "go1.") => `(tactic| with_reducible refine w_cons ?_)
local macro_rules | `(tactic| walk_at "go1.") => `(tactic| ((with_reducible refine w_var (v := ?v) ?h ?_); (case h => rfl)))
local macro_rules | `(tactic| walk_at "go1.") => `(tactic| with_reducible refine w_c ?_)
local macro_rules | `(tactic| walk_at "go1.") => `(tactic| with_reducible refine w_op ?_)
local macro_rules | `(tactic| walk_at "go1.") => `(tactic| with_reducible refine w_tB ?_)
local macro_rules | `(tactic| walk_at "go1.") => `(tactic| with_reducible refine w_test ?_)
local macro_rules | `(tactic| walk_at "go1.") => `(tactic| with_reducible refine w_drop ?_)
local macro_rules | `(tactic| walk_at "go1.") => `(tactic| with_reducible refine w_next ?_)
local macro_rules | `(tactic| walk_at "go1.") => `(tactic| with_reducible refine w_ret ?_)
local macro_rules | `(tactic| walk_at "go1.") => `(tactic| with_reducible refine w_asgT ?_)
local macro_rules | `(tactic| walk_at "go1.") => `(tactic| with_reducible refine w_asg ?_)
local macro_rules | `(tactic| walk_at "go1.") => `(tactic| with_reducible refine w_if ?_)
local macro_rules | `(tactic| walk_at "go1.") => `(tactic| with_reducible refine w_seq ?_)
local macro_rules | `(tactic| walk_at "go1") => `(tactic| first | walk_at "go1." | fail)
local macro_rules | `(tactic| walk_at "go") => `(tactic| repeat walk_at "go1")
local macro_rules | `(tactic| walk_at "gn") => `(tactic| repeat ((fail_if_success (with_reducible refine w_next ?_)); walk_at "go1"))
local macro_rules | `(tactic| walk_at "sz1") => `(tactic| (simp only [List.length_cons, List.length_nil, List.length_map]; omega))
inductive Sg where
  | add | sub | mul | div | lt | eq
  deriving DecidableEq
def Sg.txt : Sg → Str
  | .add => "+" | .sub => "-" | .mul => "*" | .div => "/" | .lt => "<" | .eq => "="
inductive Fm where
  | num (n : Int)
  | nam (x : Str)
  | op (s : Sg) (a b : Fm)
def Fm.depth : Fm → Nat
  | .num _ => 1
  | .nam _ => 1
  | .op _ a b => max a.depth b.depth + 1
theorem Fm.depth_pos : ∀ f : Fm, 1 ≤ f.depth
  | .num _ => Nat.le_refl _
  | .nam _ => Nat.le_refl _
  | .op _ _ _ => Nat.succ_le_succ (Nat.zero_le _)
inductive FmAt (K : PySem.W.Frag) (H : Hp) : V → Fm → Prop where
  | num {a : Addr} {n : Int} (h : SqT K H a [.str "number", .int n]) : FmAt K H (.ref a) (.num n)
  | nam {a : Addr} {x : Str} (h : SqT K H a [.str "name", .str x]) : FmAt K H (.ref a) (.nam x)
  | op {a : Addr} {s : Sg} {u v : V} {f g : Fm} (h : SqT K H a [.str s.txt, u, v]) (h1 : FmAt K H u f) (h2 : FmAt K H v g) : FmAt K H (.ref a) (.op s f g)
theorem FmAt.mono {K : PySem.W.Frag} {H H' : Hp} (e : Same H H') {v : V} {f : Fm} (h : FmAt K H v f) : FmAt K H' v f := by
  induction h with
  | num h => exact .num (same_t e h)
  | nam h => exact .nam (same_t e h)
  | op h _ _ i1 i2 => exact .op (same_t e h) i1 i2
theorem sg_num (s : Sg) : decide (s.txt = ("number" : Str)) = false := by cases s <;> decide +kernel
theorem sg_nam (s : Sg) : decide (s.txt = ("name" : Str)) = false := by cases s <;> decide +kernel
def Fm.names : Fm → List Str
  | .num _ => []
  | .nam x => [x]
  | .op _ a b => a.names ++ b.names
theorem Fm.names_len : ∀ f : Fm, f.names.length ≤ 2 ^ f.depth
  | .num _ => Nat.zero_le _
  | .nam _ => by show 1 ≤ 2 ^ 1; decide
  | .op _ a b => by
    have h1 := a.names_len
    have h2 := b.names_len
    have h3 : 2 ^ a.depth ≤ 2 ^ max a.depth b.depth := Nat.pow_le_pow_right (by decide) (Nat.le_max_left _ _)
    have h4 : 2 ^ b.depth ≤ 2 ^ max a.depth b.depth := Nat.pow_le_pow_right (by decide) (Nat.le_max_right _ _)
    show (a.names ++ b.names).length ≤ 2 ^ (max a.depth b.depth + 1)
    rw [List.length_append, Nat.pow_succ]
    omega
def Fm.ok (ns : List Str) : Fm → Prop
  | .num n => 0 ≤ n ∧ n < 1000000
  | .nam x => x ∈ ns
  | .op _ a b => a.ok ns ∧ b.ok ns
theorem Fm.ok_mono {ns ms : List Str} (h : ∀ x ∈ ns, x ∈ ms) : ∀ {f : Fm}, f.ok ns → f.ok ms
  | .num _, q => q
  | .nam _, q => h _ q
  | .op _ _ _, q => ⟨Fm.ok_mono h q.1, Fm.ok_mono h q.2⟩
def sp_law_cell_at (K : PySem.W.Frag) : Sp := fun vs H Q _ => ∃ (a : Addr) (ns : List Int) (k : Int), vs = [.ref a, .int k] ∧ SqL K H a (ns.map V.int) ∧ 0 ≤ k ∧ ∀ c : Int, Q (.int c) H
def sp_law_mixed (_ : PySem.W.Frag) : Sp := fun vs H Q _ => ∃ n : Int, vs = [.int n] ∧ ∀ r : Int, 0 ≤ r → r < 2147483647 → Q (.int r) H
def sp_law_name_by (_ : PySem.W.Frag) : Sp := fun vs H Q _ => ∃ n : Int, vs = [.int n] ∧ ∀ x H', Nm x → Same H H' → Q (.str x) H'
def sp_law_twin (_ : PySem.W.Frag) : Sp := fun vs H Q _ => ∃ (x : Str) (n : Int), vs = [.str x, .int n] ∧ Nm x ∧ ∀ y H', Nm y → Same H H' → Q (.str y) H'
structure Ten (ns : List Str) : Prop where
  len : ns.length = 10
  nd : ns.Nodup
  nm : ∀ x ∈ ns, Nm x
def sp_law_names (_ : PySem.W.Frag) : Sp := fun vs H Q _ => ∃ n m : Int, vs = [.int n, .int m] ∧ ∀ p H' ns, Ten ns → Same H H' → H p = none → H' p = some (.lst (ns.map V.str)) → Q (.ref p) H'
def sp_law_end_by (K : PySem.W.Frag) : Sp := fun vs H Q _ => ∃ (n : Int) (a : Addr) (ns : List Str), vs = [.int n, .ref a] ∧ SqL K H a (ns.map V.str) ∧ (∀ x ∈ ns, Nm x) ∧ ns.length ≤ 1000 ∧ ∀ v H' f, FmAt K H' v f → Same H H' → f.ok ns → f.depth = 1 → Q v H'
def sp_law_formula_by (K : PySem.W.Frag) (n : Nat) : Sp := fun vs H Q _ => ∃ (i : Int) (a b : Addr) (ns ms : List Str) (d : Bool) (l : Int), vs = [.int i, .ref a, .ref b, .bl d, .int l] ∧ SqL K H a (ns.map V.str) ∧ SqL K H b (ms.map V.str) ∧
  (∀ x ∈ ns, Nm x) ∧ (∀ x ∈ ms, Nm x) ∧ ns.length ≤ 1000 ∧ ms.length ≤ 1000 ∧ 1 ≤ l ∧ l ≤ n ∧ ∀ v H' f, FmAt K H' v f → Same H H' → f.ok (ns ++ ms) → (f.depth : Int) ≤ l → Q v H'
abbrev N_law_cell_at : List Str := ["_law_script", "_law_k"]
def t_law_cell_at (K : PySem.W.Frag) : TS :=
  (tSeq (tIfS (tTest (tOp rLt (tVar 1) (tCB (rLenA K) (tCons (tVar 0) tNil)))) (tRet (tOp (rIx K) (tVar 0) (tVar 1))) tNext) (tRet (tC (.int 0))))
abbrev N_law_mixed : List Str := ["_law_number"]
def t_law_mixed (K : PySem.W.Frag) : TS :=
  (tRet (tOp rMod (tOp (rAdd K) (tOp rMul (tVar 0) (tC (.int 48271))) (tC (.int 7919))) (tC (.int 2147483647))))
abbrev N_law_name_by : List Str := ["_law_cell", "_law_found", "_law_number", "_law_k"]
def t_law_name_by (K : PySem.W.Frag) : TS :=
  (tSeq (tAsg (tOp (rIx K) (tC (.str "abcdefghijklmnopqrstuvwxyz")) (tOp rMod (tOp rDiv (tVar 0) (tC (.int 8))) (tC (.int 26)))) (gName 1)) (tSeq (tAsg (tVar 0) (gName 2)) (tSeq (tFor (iRng1 (tCons (tOp rMod (tVar 0) (tC (.int 8))) tNil)) (gName 3) (tSeq (tAsg (tF (sp_law_mixed K) (tCons (tVar 2) tNil)) (gName 2)) (tAsg (tOp (rAdd K) (tVar 1) (tOp (rIx K) (tC (.str "abcdefghijklmnopqrstuvwxyz0123456789")) (tOp rMod (tVar 2) (tC (.int 36))))) (gName 1)))) (tSeq (tIfS (tTest (tOp (rIn2 K false) (tVar 1) (tLst (tCons (tC (.str "set")) (tCons (tC (.str "tell")) (tCons (tC (.str "skip")) (tCons (tC (.str "if")) (tCons (tC (.str "else")) (tCons (tC (.str "while")) (tCons (tC (.str "end")) tNil)))))))))) (tRet (tOp (rAdd K) (tVar 1) (tC (.str "0")))) tNext) (tRet (tVar 1))))))
abbrev N_law_twin : List Str := ["_law_name", "_law_cell", "_law_some", "_law_at", "_law_step", "_law_found"]
def t_law_twin (K : PySem.W.Frag) : TS :=
  (tSeq (tAsg (tC (.str "abcdefghijklmnopqrstuvwxyz")) (gName 2)) (tSeq (tAsg (tOp rMod (tVar 1) (tCB (rLenA K) (tCons (tVar 0) tNil))) (gName 3)) (tSeq (tIfS (tTest (tOp rGt (tVar 3) (tC (.int 0)))) (tAsg (tOp (rAdd K) (tVar 2) (tC (.str "0123456789"))) (gName 2)) tNext) (tSeq (tAsg (tOp (rAdd K) (tOp (rAdd K) (tBM K "str" rFind (tVar 2) (tCons (tOp (rIx K) (tVar 0) (tVar 3)) tNil)) (tC (.int 1))) (tOp rMod (tOp rDiv (tVar 1) (tC (.int 8))) (tOp rSub (tCB (rLenA K) (tCons (tVar 2) tNil)) (tC (.int 1))))) (gName 4)) (tSeq (tAsg (tOp (rAdd K) (tOp (rAdd K) (tSl (rSl K) (tVar 0) tNoPart (tPart (tVar 3))) (tOp (rIx K) (tVar 2) (tOp rMod (tVar 4) (tCB (rLenA K) (tCons (tVar 2) tNil))))) (tSl (rSl K) (tVar 0) (tPart (tOp (rAdd K) (tVar 3) (tC (.int 1)))) tNoPart)) (gName 5)) (tSeq (tIfS (tTest (tOp (rIn2 K false) (tVar 5) (tLst (tCons (tC (.str "set")) (tCons (tC (.str "tell")) (tCons (tC (.str "skip")) (tCons (tC (.str "if")) (tCons (tC (.str "else")) (tCons (tC (.str "while")) (tCons (tC (.str "end")) tNil)))))))))) (tRet (tOp (rAdd K) (tVar 5) (tC (.str "0")))) tNext) (tRet (tVar 5))))))))
abbrev N_law_names : List Str := ["_law_one", "_law_other", "_law_names_here", "_law_k", "_law_name"]
def t_law_names (K : PySem.W.Frag) : TS :=
  (tSeq (tAsg (tLst tNil) (gName 2)) (tSeq (tFor (iRng1 (tCons (tC (.int 10)) tNil)) (gName 3) (tSeq (tAsg (tF (sp_law_mixed K) (tCons (tVar 0) tNil)) (gName 0)) (tSeq (tAsg (tF (sp_law_name_by K) (tCons (tOp rDiv (tVar 0) (tC (.int 5))) tNil)) (gName 4)) (tSeq (tIfS (tAnd (tTest (tOp (rEq2 K) (tOp rMod (tVar 3) (tC (.int 2))) (tC (.int 1)))) (tTest (tOp (rEq2 K) (tOp rMod (tOp rDiv (tVar 1) (tC (.int 4))) (tC (.int 2))) (tC (.int 1))))) (tAsg (tF (sp_law_twin K) (tCons (tOp (rIx K) (tVar 2) (tOp rSub (tVar 3) (tC (.int 1)))) (tCons (tF (sp_law_mixed K) (tCons (tOp (rAdd K) (tVar 1) (tVar 3)) tNil)) tNil))) (gName 4)) tNext) (tSeq (tWhile (tOr (tTest (tOp (rIn2 K false) (tVar 4) (tVar 2))) (tTest (tOp (rIn2 K false) (tVar 4) (tLst (tCons (tC (.str "set")) (tCons (tC (.str "tell")) (tCons (tC (.str "skip")) (tCons (tC (.str "if")) (tCons (tC (.str "else")) (tCons (tC (.str "while")) (tCons (tC (.str "end")) tNil))))))))))) (tSeq (tAsg (tOp (rAdd K) (tSl (rSl K) (tVar 4) tNoPart (tPart (tC (.int 7)))) (tOp (rIx K) (tC (.str "abcdefghijklmnopqrstuvwxyz")) (tOp rMod (tOp (rAdd K) (tOp (rAdd K) (tVar 1) (tCB (rLenA K) (tCons (tVar 4) tNil))) (tVar 3)) (tC (.int 26))))) (gName 4)) (tAsg (tOp (rAdd K) (tVar 1) (tC (.int 5))) (gName 1)))) (tDrop (tBM K "list" rAppend (tVar 2) (tCons (tVar 4) tNil)))))))) (tRet (tVar 2))))
abbrev N_law_end_by : List Str := ["_law_number", "_law_names_here"]
def t_law_end_by (K : PySem.W.Frag) : TS :=
  (tSeq (tIfS (tAnd (tTest (tOp (rNe2 K) (tVar 1) (tLst tNil))) (tTest (tOp rGt (tOp rMod (tVar 0) (tC (.int 3))) (tC (.int 0))))) (tRet (tTup (tCons (tC (.str "name")) (tCons (tOp (rIx K) (tVar 1) (tOp rMod (tOp rDiv (tVar 0) (tC (.int 3))) (tCB (rLenA K) (tCons (tVar 1) tNil)))) tNil)))) tNext) (tSeq (tIfS (tTest (tOp (rEq2 K) (tOp rMod (tOp rDiv (tVar 0) (tC (.int 3))) (tC (.int 4))) (tC (.int 0)))) (tRet (tTup (tCons (tC (.str "number")) (tCons (tOp rMod (tOp rDiv (tVar 0) (tC (.int 12))) (tOp rPow (tC (.int 10)) (tC (.int 6)))) tNil)))) tNext) (tRet (tTup (tCons (tC (.str "number")) (tCons (tOp rMod (tOp rDiv (tVar 0) (tC (.int 12))) (tC (.int 5))) tNil))))))
abbrev N_law_formula_by : List Str := ["_law_number", "_law_names_here", "_law_low", "_law_divide", "_law_left", "_law_sign", "_law_one"]
def t_law_formula_by (K : PySem.W.Frag) (n : Nat) : TS :=
  (tSeq (tAsg (tF (sp_law_mixed K) (tCons (tVar 0) tNil)) (gName 0)) (tSeq (tIfS (tOr (tTest (tOp (rEq2 K) (tVar 4) (tC (.int 1)))) (tTest (tOp rLt (tOp rMod (tVar 0) (tC (.int 8))) (tC (.int 3))))) (tRet (tF (sp_law_end_by K) (tCons (tOp rDiv (tVar 0) (tC (.int 8))) (tCons (tVar 1) tNil)))) tNext) (tSeq (tAsg (tOp (rIx K) (tLst (tCons (tC (.str "+")) (tCons (tC (.str "-")) (tCons (tC (.str "*")) (tCons (tC (.str "<")) (tCons (tC (.str "=")) (tCons (tC (.str "+")) (tCons (tC (.str "-")) (tCons (tC (.str "<")) (tCons (tC (.str "/")) (tCons (tC (.str "/")) tNil))))))))))) (tOp rMod (tOp rDiv (tVar 0) (tC (.int 8))) (tOp (rIx K) (tLst (tCons (tC (.int 8)) (tCons (tC (.int 10)) tNil))) (tCB rInt (tCons (tVar 3) tNil))))) (gName 5)) (tSeq (tAsg (tF (sp_law_formula_by K n) (tCons (tOp (rAdd K) (tOp rMul (tVar 0) (tC (.int 3))) (tC (.int 1))) (tCons (tVar 1) (tCons (tVar 2) (tCons (tVar 3) (tCons (tOp rSub (tVar 4) (tC (.int 1))) tNil)))))) (gName 6)) (tSeq (tIfS (tAnd (tTest (tOp (rEq2 K) (tVar 5) (tC (.str "/")))) (tTest (tOp rLt (tOp rMod (tOp rDiv (tVar 0) (tC (.int 80))) (tC (.int 4))) (tC (.int 3))))) (tRet (tTup (tCons (tVar 5) (tCons (tVar 6) (tCons (tTup (tCons (tC (.str "number")) (tCons (tOp (rAdd K) (tC (.int 1)) (tOp rMod (tOp rDiv (tVar 0) (tC (.int 320))) (tC (.int 9)))) tNil))) tNil))))) tNext) (tSeq (tIfS (tTest (tOp (rEq2 K) (tVar 5) (tC (.str "/")))) (tRet (tTup (tCons (tVar 5) (tCons (tVar 6) (tCons (tF (sp_law_formula_by K n) (tCons (tOp (rAdd K) (tOp rMul (tVar 0) (tC (.int 5))) (tC (.int 2))) (tCons (tVar 2) (tCons (tVar 2) (tCons (tVar 3) (tCons (tOp rSub (tVar 4) (tC (.int 1))) tNil)))))) tNil))))) tNext) (tRet (tTup (tCons (tVar 5) (tCons (tVar 6) (tCons (tF (sp_law_formula_by K n) (tCons (tOp (rAdd K) (tOp rMul (tVar 0) (tC (.int 5))) (tC (.int 2))) (tCons (tVar 1) (tCons (tVar 2) (tCons (tVar 3) (tCons (tOp rSub (tVar 4) (tC (.int 1))) tNil)))))) tNil)))))))))))
theorem at_map {α : Type} {f : α → V} {xs : List α} {k : Int} (h0 : 0 ≤ k) (h : k < (xs.length : Int)) : ∃ x, x ∈ xs ∧ xs[k.toNat]? = some x ∧ atI (xs.map f) k = some (f x) := by
  obtain ⟨j, rfl⟩ := Int.eq_ofNat_of_zero_le h0
  have hj : j < xs.length := by omega
  refine ⟨xs[j], List.getElem_mem hj, by rw [Int.toNat_natCast, List.getElem?_eq_getElem hj], atI_nat ?_⟩
  rw [List.getElem?_map, List.getElem?_eq_getElem hj]
  rfl
theorem mod_in (a : Int) {m : Int} (h : 0 < m) : 0 ≤ a % m ∧ a % m < m := ⟨Int.emod_nonneg a (by omega), Int.emod_lt_of_pos a h⟩
theorem pure_law_cell_at (K : PySem.W.Frag) (vs : List V) (H : Hp) (Q : VK) (E : XK) (h : sp_law_cell_at K vs H Q E) :
    t_law_cell_at K { nx := fun _ H' => Q .non H', rt := Q } (start N_law_cell_at vs) H := by
  obtain ⟨a, ns, k, rfl, hS, h0, q⟩ := h
  unfold t_law_cell_at
  walk_at "go"
  refine w_two (fun e => ?_) (fun e => ?_)
  · have e := of_decide_eq_true e
    rw [List.length_map] at e
    obtain ⟨x, _, _, hx⟩ := at_map (f := V.int) h0 e
    walk_at "go"
    exact w_ixL hS hx (q x)
  · walk_at "go"
    exact q 0
theorem pure_law_mixed (K : PySem.W.Frag) (vs : List V) (H : Hp) (Q : VK) (E : XK) (h : sp_law_mixed K vs H Q E) :
    t_law_mixed K { nx := fun _ H' => Q .non H', rt := Q } (start N_law_mixed vs) H := by
  obtain ⟨n, rfl, q⟩ := h
  unfold t_law_mixed
  walk_at "go"
  refine w_mulI (.inr ⟨by decide, by decide⟩) ?_
  walk_at "go"
  have m := mod_in (n * 48271 + 7919) (show (0 : Int) < 2147483647 by decide)
  exact q _ m.1 m.2
theorem len_le {x : Str} {n : Nat} (h : (cs x).length ≤ n) (hn : n ≤ 16000000) : x.length ≤ sizeLine := sz (by rw [cs_len]; omega)
theorem pure_law_name_by (K : PySem.W.Frag) (vs : List V) (H : Hp) (Q : VK) (E : XK) (h : sp_law_name_by K vs H Q E) :
    t_law_name_by K { nx := fun _ H' => Q .non H', rt := Q } (start N_law_name_by vs) H := by
  obtain ⟨n, rfl, q⟩ := h
  unfold t_law_name_by
  have m26 := mod_in (n / 8) (show (0 : Int) < 26 by decide)
  have m8 := mod_in n (show (0 : Int) < 8 by decide)
  walk_at "go"
  refine w_ixS (sz (by decide +kernel)) (az_at m26.1 m26.2) ?_
  walk_at "go"
  refine ⟨_, rfl, by omega, by omega, for_range (lo := 0) (n := (n % 8).toNat) (fun i σ H' => H' = H ∧ ∃ (x : Str) (m : Int) (v : Option V), σ = [some (.int n), some (.str x), some (.int m), v] ∧ Nw x (i + 1))
    ⟨rfl, _, _, _, rfl, Nw.one ⟨by omega, by omega⟩⟩ ?_ ?_⟩
  · rintro i σ H' hi ⟨rfl, x, m, v, rfl, hx⟩
    show tSeq _ _ _ _ _
    walk_at "go"
    refine ⟨_, rfl, fun r r0 r1 => ?_⟩
    have m36 := mod_in r (show (0 : Int) < 36 by decide)
    obtain ⟨c, hc, sc⟩ := az9_at m36.1 m36.2
    walk_at "go"
    refine w_ixS (sz (by decide +kernel)) hc ?_
    refine w_addT (sz (by have := hx.most; rw [cs_len, cs_len, cs_one, List.length_singleton]; omega)) ?_
    exact ⟨rfl, _, _, _, rfl, hx.snoc sc⟩
  · rintro σ H' ⟨rfl, x, m, v, rfl, hx⟩
    have hx8 : Nw x 8 := ⟨hx.pos, by have := hx.most; omega, hx.hd, hx.all⟩
    walk_at "go"
    walk_at "new"
    refine w_inTxt (xs := words) (SqL.of upd_same) ?_
    walk_at "go"
    refine w_two (fun e => ?_) (fun e => ?_)
    · walk_at "go"
      refine w_addT (sz (by have := hx8.most; have : (cs ("0" : Str)).length = 1 := by decide +kernel
                            rw [cs_len, cs_len]; omega)) ?_
      exact q _ _ (hx.zero (of_decide_eq_true e)) (by walk_at "sm")
    · walk_at "go"
      exact q _ _ (hx8.nm (of_decide_eq_false e)) (by walk_at "sm")
theorem sgn_of_az {i : Int} (h0 : 0 ≤ i) (h : i < 26) : ∃ c, atI (cs az) i = some c ∧ IsSgn c ∧ IsLet c := ⟨_, az_at h0 h, .inl ⟨by omega, by omega⟩, ⟨by omega, by omega⟩⟩
theorem pure_law_twin (K : PySem.W.Frag) (vs : List V) (H : Hp) (Q : VK) (E : XK) (h : sp_law_twin K vs H Q E) :
    t_law_twin K { nx := fun _ H' => Q .non H', rt := Q } (start N_law_twin vs) H := by
  obtain ⟨x, n, rfl, hx, q⟩ := h
  unfold t_law_twin
  have l8 := hx.most
  have l1 := hx.pos
  have lx : x.length = (cs x).length := cs_len x
  walk_at "go"
  have ma := mod_in n (show (0 : Int) < ((x.length : Nat) : Int) by omega)
  generalize hat : n % ((x.length : Nat) : Int) = a at ma ⊢
  have key : ∀ (z : Str) (m : Int), (z = az ∧ m = 26) ∨ (z = az ++ n09 ∧ m = 36 ∧ 0 < a) → ∀ H1, H1 = H → ((z.length : Nat) : Int) = m ∧ z.length ≤ sizeLine ∧ ∀ i : Int, 0 ≤ i → i < m → ∃ c, atI (cs z) i = some c ∧ IsSgn c ∧ (a = 0 → IsLet c) := by
    rintro z m (⟨rfl, rfl⟩ | ⟨rfl, rfl, hp⟩) H1 _
    · refine ⟨by rw [cs_len, az_cs] <;> rfl, sz (by decide +kernel), fun i h0 h1 => ?_⟩
      obtain ⟨c, h2, h3, h4⟩ := sgn_of_az h0 h1
      exact ⟨c, h2, h3, fun _ => h4⟩
    · rw [← az9_eq]
      refine ⟨by rw [cs_len, az9_cs]; simp, sz (by decide +kernel), fun i h0 h1 => ?_⟩
      obtain ⟨c, h2, h3⟩ := az9_at h0 h1
      exact ⟨c, h2, h3, fun z => by omega⟩
  have obt : ∃ c, atI (cs x) a = some c := by
    obtain ⟨j, rfl⟩ := Int.eq_ofNat_of_zero_le ma.1
    have hj : j < (cs x).length := by omega
    exact ⟨_, atI_nat (List.getElem?_eq_getElem hj)⟩
  obtain ⟨c0, hc0⟩ := obt
  have rest : ∀ (z : Str) (m : Int), (z = az ∧ m = 26) ∨ (z = az ++ n09 ∧ m = 36 ∧ 0 < a) →
      (tSeq (tAsg (tOp (rAdd K) (tOp (rAdd K) (tBM K "str" rFind (tVar 2) (tCons (tOp (rIx K) (tVar 0) (tVar 3)) tNil)) (tC (.int 1))) (tOp rMod (tOp rDiv (tVar 1) (tC (.int 8))) (tOp rSub (tCB (rLenA K) (tCons (tVar 2) tNil)) (tC (.int 1))))) (gName 4)) (tSeq (tAsg (tOp (rAdd K) (tOp (rAdd K) (tSl (rSl K) (tVar 0) tNoPart (tPart (tVar 3))) (tOp (rIx K) (tVar 2) (tOp rMod (tVar 4) (tCB (rLenA K) (tCons (tVar 2) tNil))))) (tSl (rSl K) (tVar 0) (tPart (tOp (rAdd K) (tVar 3) (tC (.int 1)))) tNoPart)) (gName 5)) (tSeq (tIfS (tTest (tOp (rIn2 K false) (tVar 5) (tLst (tCons (tC (.str "set")) (tCons (tC (.str "tell")) (tCons (tC (.str "skip")) (tCons (tC (.str "if")) (tCons (tC (.str "else")) (tCons (tC (.str "while")) (tCons (tC (.str "end")) tNil)))))))))) (tRet (tOp (rAdd K) (tVar 5) (tC (.str "0")))) tNext) (tRet (tVar 5)))))
        { nx := fun _ H' => Q .non H', rt := Q } [some (.str x), some (.int n), some (.str z), some (.int a), none, none] H := by
    intro z m hz
    obtain ⟨k1, k2, k3⟩ := key z m hz H rfl
    have mp : 0 < m := by rcases hz with ⟨_, rfl⟩ | ⟨_, rfl, _⟩ <;> decide
    have m1 : 1 < m := by rcases hz with ⟨_, rfl⟩ | ⟨_, rfl, _⟩ <;> decide
    walk_at "go"
    refine w_ixS (len_le l8 (by decide)) hc0 ?_
    walk_at "go"
    rw [k1]
    walk_at "go"
    generalize hst : (Txt.find z ⟨#[c0]⟩ + 1 + n / 8 % (m - 1)) % m = st
    have ms := mod_in (Txt.find z ⟨#[c0]⟩ + 1 + n / 8 % (m - 1)) mp
    rw [hst] at ms
    obtain ⟨c, hc, sc, lc⟩ := k3 st ms.1 ms.2
    refine w_ixS k2 hc ?_
    obtain ⟨j, hj⟩ := Int.eq_ofNat_of_zero_le ma.1
    have hjl : j < (cs x).length := by omega
    have sw := Nw.swap (c := c) hx.nw' hjl sc (fun z => lc (by omega))
    have e0 : (cs (Txt.slice x none (some a))).length ≤ 8 := by rw [cs_slTo ma.1, List.length_take]; omega
    have e1 : (cs (Txt.slice x (some (a + 1)) none)).length ≤ 8 := by rw [cs_slFrom (by omega), List.length_drop]; omega
    refine w_addT (sz (by rw [cs_len, cs_len, cs_one, List.length_singleton]; omega)) ?_
    walk_at "go"
    subst hj
    refine w_addT (sz (by rw [cs_len, cs_len, cs_app, List.length_append, cs_one, List.length_singleton]; omega)) ?_
    walk_at "go"
    walk_at "new"
    refine w_inTxt (xs := words) (SqL.of upd_same) ?_
    walk_at "go"
    refine w_two (fun e => ?_) (fun e => ?_)
    · walk_at "go"
      refine w_addT (sz (by have := sw.most; have : (cs ("0" : Str)).length = 1 := by decide +kernel
                            rw [cs_len, cs_len]; omega)) ?_
      exact q _ _ (sw.zero (of_decide_eq_true e)) (by walk_at "sm")
    · walk_at "go"
      exact q _ _ (sw.nm (of_decide_eq_false e)) (by walk_at "sm")
  refine w_two (fun e => ?_) (fun e => ?_)
  · have e := of_decide_eq_true e
    walk_at "go"
    refine w_addT (sz (by decide +kernel)) ?_
    exact rest _ 36 (.inr ⟨rfl, rfl, e⟩)
  · refine w_next ?_
    exact rest az 26 (.inl ⟨rfl, rfl⟩)
abbrev tNmW (K : PySem.W.Frag) : TS := (tWhile (tOr (tTest (tOp (rIn2 K false) (tVar 4) (tVar 2))) (tTest (tOp (rIn2 K false) (tVar 4) (tLst (tCons (tC (.str "set")) (tCons (tC (.str "tell")) (tCons (tC (.str "skip")) (tCons (tC (.str "if")) (tCons (tC (.str "else")) (tCons (tC (.str "while")) (tCons (tC (.str "end")) tNil))))))))))) (tSeq (tAsg (tOp (rAdd K) (tSl (rSl K) (tVar 4) tNoPart (tPart (tC (.int 7)))) (tOp (rIx K) (tC (.str "abcdefghijklmnopqrstuvwxyz")) (tOp rMod (tOp (rAdd K) (tOp (rAdd K) (tVar 1) (tCB (rLenA K) (tCons (tVar 4) tNil))) (tVar 3)) (tC (.int 26))))) (gName 4)) (tAsg (tOp (rAdd K) (tVar 1) (tC (.int 5))) (gName 1))))
abbrev tNmB (K : PySem.W.Frag) : TS := (tSeq (tAsg (tOp (rAdd K) (tSl (rSl K) (tVar 4) tNoPart (tPart (tC (.int 7)))) (tOp (rIx K) (tC (.str "abcdefghijklmnopqrstuvwxyz")) (tOp rMod (tOp (rAdd K) (tOp (rAdd K) (tVar 1) (tCB (rLenA K) (tCons (tVar 4) tNil))) (tVar 3)) (tC (.int 26))))) (gName 4)) (tAsg (tOp (rAdd K) (tVar 1) (tC (.int 5))) (gName 1)))
abbrev tNmA (K : PySem.W.Frag) : TS := (tDrop (tBM K "list" rAppend (tVar 2) (tCons (tVar 4) tNil)))
def PN (H : Hp) (p : Addr) (i : Nat) : L2.St → Hp → Prop := fun σ H' => Same H H' ∧ ∃ (a b : Int) (ns : List Str) (v w : Option V), σ = [some (.int a), some (.int b), some (.ref p), v, w] ∧ ns.length = i ∧ ns.Nodup ∧ (∀ x ∈ ns, Nm x) ∧ H' p = some (.lst (ns.map V.str))
abbrev DN (H : Hp) (Q : VK) (p : Addr) (i : Nat) : Ends := ⟨PN H p (i + 1), Q, tRet (tVar 2) { nx := fun _ H' => Q .non H', rt := Q }, PN H p (i + 1)⟩
theorem pure_law_names (K : PySem.W.Frag) (vs : List V) (H : Hp) (Q : VK) (E : XK) (h : sp_law_names K vs H Q E) :
    t_law_names K { nx := fun _ H' => Q .non H', rt := Q } (start N_law_names vs) H := by
  obtain ⟨n, m, rfl, q⟩ := h
  unfold t_law_names
  walk_at "go"
  refine w_new (by decide) (fun p hp => ?_)
  walk_at "go"
  refine ⟨_, rfl, by decide, by decide, for_range (lo := 0) (n := 10) (PN H p)
    ⟨by walk_at "sm", _, _, [], _, _, rfl, rfl, List.nodup_nil, (fun x hx => nomatch hx), upd_same⟩ ?_ ?_⟩
  · rintro i σ H1 hi ⟨e1, a, b, ns, v, w, rfl, hl, hd, hN, hL⟩
    show tSeq _ _ _ _ _
    walk_at "go"
    refine ⟨_, rfl, fun r _ _ => ?_⟩
    walk_at "go"
    refine ⟨_, rfl, fun x H2 hx e2 => ?_⟩
    have hL2 := e2 _ _ hL
    walk_at "go"
    -- the twin or not
    have two : ∀ (x : Str) (H2 : Hp), Nm x → Same H1 H2 → tSeq (tNmW K) (tNmA K) (DN H Q p i) [some (.int r), some (.int b), some (.ref p), some (.int (0 + (i : Int))), some (.str x)] H2 := by
      intro x H2 hx e2
      obtain ⟨m0, hm0⟩ := cand_ends x b (0 + (i : Int)) hx.most (ns ++ words) (by rw [List.length_append]; have : words.length = 7 := rfl; omega)
      walk_at "go"
      refine w_while' (fun m σ' H' => Same H1 H' ∧ ∃ (o : Int) (y : Str), σ' = [some (.int r), some (.int o), some (.ref p), some (.int (0 + (i : Int))), some (.str y)] ∧ Nw y 8 ∧ cand y o (0 + (i : Int)) m ∉ ns ++ words) m0 ⟨e2, _, _, rfl, hx.nw', hm0⟩ ?_
      rintro m σ' H' ⟨e3, o, y, rfl, hy, hm⟩
      have hL3 := e3 _ _ hL
      have body : ∀ H4, Same H1 H4 → y ∈ ns ++ words → ∃ N : L2.St → Hp → Prop, (∀ σ2 H2, N σ2 H2 → ∃ m', m' < m ∧ Same H1 H2 ∧ ∃ (o : Int) (y : Str), σ2 = [some (.int r), some (.int o), some (.ref p), some (.int (0 + (i : Int))), some (.str y)] ∧ Nw y 8 ∧ cand y o (0 + (i : Int)) m' ∉ ns ++ words) ∧
          tNmB K ⟨N, Q, tNmA K (DN H Q p i), N⟩
            [some (.int r), some (.int o), some (.ref p), some (.int (0 + (i : Int))), some (.str y)] H4 := by
        intro H4 e4 hin
        cases m with
        | zero => exact absurd hin hm
        | succ m =>
          refine ⟨_, fun σ2 H2 h => h, ?_⟩
          have m26 := mod_in (o + ((y.length : Nat) : Int) + (0 + (i : Int))) (show (0 : Int) < 26 by decide)
          have hy8 := hy.most
          walk_at "go"
          refine w_ixS (sz (by decide +kernel)) (az_at m26.1 m26.2) ?_
          have e0 : (cs (Txt.slice y none (some 7))).length ≤ 8 := by rw [cs_slTo (by decide), List.length_take]; omega
          refine w_addT (sz (by rw [cs_len, cs_len, cs_one, List.length_singleton]; omega)) ?_
          walk_at "go"
          exact ⟨m, Nat.lt_succ_self _, e4, _, _, rfl, hy.cut ⟨by omega, by omega⟩, by rw [cand_succ] at hm; exact hm⟩
      walk_at "go"
      refine w_inTxt (SqL.of hL3) ?_
      walk_at "go"
      refine w_two (fun e => ?_) (fun e => ?_)
      · walk_at "go"
        exact body H' e3 (List.mem_append_left _ (of_decide_eq_true e))
      · have n1 := of_decide_eq_false e
        walk_at "go"
        refine w_new (by decide) (fun r2 hr2 => ?_)
        refine w_inTxt (xs := words) (SqL.of upd_same) ?_
        walk_at "go"
        refine w_two (fun e => ?_) (fun e => ?_)
        · exact body _ (by walk_at "sm") (List.mem_append_right _ (of_decide_eq_true e))
        · have n2 := of_decide_eq_false e
          have nm := hy.nm n2
          have ne : p ≠ r2 := ne_of_none hL3 hr2
          walk_at "go"
          refine w_app (xs := ns.map V.str) (by rw [upd_ne ne]; exact hL3) (Nat.lt_of_le_of_lt (by rw [List.length_map]; omega : _ ≤ 1000) (by decide)) ?_
          refine ⟨same_mut (e1.trans (e3.trans (same_new hr2))) hp, r, o, ns ++ [y], _, _, rfl, by rw [List.length_append, hl] <;> rfl, ?_, ?_, ?_⟩
          · rw [List.nodup_append]
            exact ⟨hd, (List.nodup_cons.mpr ⟨List.not_mem_nil, List.nodup_nil⟩), fun u hu w hw => by rw [List.mem_singleton.mp hw]; exact fun e => n1 (e ▸ hu)⟩
          · intro u hu
            rcases List.mem_append.mp hu with hu | hu
            · exact hN u hu
            · rw [List.mem_singleton.mp hu]; exact nm
          · rw [upd_same, List.map_append] <;> rfl
    refine w_two (fun e => ?_) (fun e => ?_)
    · walk_at "go"
      refine w_two (fun e' => ?_) (fun e' => ?_)
      · have e := of_decide_eq_true e
        have ip : 0 < i := by omega
        obtain ⟨y, ym, _, hy⟩ := at_map (f := V.str) (xs := ns) (k := 0 + (i : Int) - 1) (by omega) (by omega)
        walk_at "go"
        refine w_ixL (SqL.of hL2) hy ?_
        walk_at "go"
        refine ⟨_, rfl, fun r' _ _ => ?_⟩
        refine ⟨_, _, rfl, hN y ym, fun x' H3 hx' e3 => ?_⟩
        exact two x' H3 hx' (e2.trans e3)
      · walk_at "go"
        exact two x H2 hx e2
    · walk_at "go"
      exact two x H2 hx e2
  · rintro σ H1 ⟨e1, a, b, ns, v, w, rfl, hl, hd, hN, hL⟩
    walk_at "go"
    exact q p H1 ns ⟨hl, hd, hN⟩ e1 hp hL
theorem ok_txt {x : Str} (h : Nm x) : PyData.strOk x = true := by
  unfold PyData.strOk
  rw [← Array.all_toList, List.all_eq_true]
  intro c hc
  have := h.all c hc
  unfold IsSgn at this
  exact decide_eq_true (by omega)
theorem shaped_txts {xs : List Str} (h : ∀ x ∈ xs, PyData.strOk x = true) : SeqAt.shaped (.list (xs.map PyData.str)) = true := by
  have c : ∀ xs : List Str, (∀ x ∈ xs, PyData.strOk x = true) → PyData.canLayAll0 (xs.map PyData.str) = true := by
    intro xs
    induction xs with
    | nil => intro _; rfl
    | cons x r ih =>
      intro h
      show (PyData.strOk x && PyData.canLayAll0 (r.map PyData.str)) = true
      rw [h x List.mem_cons_self, ih fun y hy => h y (List.mem_cons_of_mem _ hy)] <;> rfl
  have d : ∀ xs : List Str, PyData.depthAll (xs.map PyData.str) = 0 := by
    intro xs
    induction xs with
    | nil => rfl
    | cons x r ih =>
      show max 0 (PyData.depthAll (r.map PyData.str)) = 0
      rw [ih] <;> rfl
  unfold SeqAt.shaped
  rw [Bool.and_eq_true]
  refine ⟨c xs h, decide_eq_true ?_⟩
  show PyData.depthAll (xs.map PyData.str) + 1 ≤ 64
  rw [d] <;> decide
theorem dp_txts {K : PySem.W.Frag} {H : Hp} : ∀ (xs : List Str), DpAll K H (xs.map V.str) (xs.map PyData.str)
  | [] => .nil
  | x :: r => .cons (.str x) (dp_txts r)
theorem eqv_txts : ∀ xs ys : List Str, PyData.eqvAll (xs.map .str) (ys.map .str) = decide (xs = ys)
  | [], [] => rfl
  | [], _ :: _ => rfl
  | _ :: _, [] => rfl
  | x :: r, y :: t => by
    show ((x == y) && PyData.eqvAll (r.map .str) (t.map .str)) = _
    rw [eqv_txts r t]
    by_cases e : x = y
    · subst e; by_cases e2 : r = t <;> simp [e2]
    · simp [e]
theorem w_neTxt {K : PySem.W.Frag} {H : Hp} {Q : VK} {a b : Addr} {xs ys : List Str} (ha : SqL K H a (xs.map V.str)) (hb : SqL K H b (ys.map V.str)) (ox : ∀ x ∈ xs, PyData.strOk x = true) (oy : ∀ x ∈ ys, PyData.strOk x = true) (q : Q (.bl (!decide (xs = ys))) H) : rNe2 K (.ref a) (.ref b) H Q :=
  w_neD (.lst ha (dp_txts xs)) (.lst hb (dp_txts ys)) (shaped_txts ox) (shaped_txts oy) (by rw [show PyData.eqv (.list (xs.map .str)) (.list (ys.map .str)) = _ from eqv_txts xs ys]; exact q)
theorem pure_law_end_by (K : PySem.W.Frag) (vs : List V) (H : Hp) (Q : VK) (E : XK) (h : sp_law_end_by K vs H Q E) :
    t_law_end_by K { nx := fun _ H' => Q .non H', rt := Q } (start N_law_end_by vs) H := by
  obtain ⟨n, a, ns, rfl, hS, hN, hl, q⟩ := h
  unfold t_law_end_by
  have m3 := mod_in n (show (0 : Int) < 3 by decide)
  have num : ∀ (H1 : Hp) (i : Int), Same H H1 → 0 ≤ i → i < 1000000 → [V.str "number", V.int i].length ≤ sizeLine ∧ ∀ p, H1 p = none → Q (.ref p) (upd H1 p (.tup [.str "number", .int i])) := fun H1 i e h0 h1 =>
    ⟨by walk_at "sz", fun p hp => q _ _ (.num i) (.num (SqT.of upd_same)) (e.trans (same_new hp)) ⟨h0, h1⟩ rfl⟩
  have rest : ∀ H1, Same H H1 → (tSeq (tIfS (tTest (tOp (rEq2 K) (tOp rMod (tOp rDiv (tVar 0) (tC (.int 3))) (tC (.int 4))) (tC (.int 0)))) (tRet (tTup (tCons (tC (.str "number")) (tCons (tOp rMod (tOp rDiv (tVar 0) (tC (.int 12))) (tOp rPow (tC (.int 10)) (tC (.int 6)))) tNil)))) tNext) (tRet (tTup (tCons (tC (.str "number")) (tCons (tOp rMod (tOp rDiv (tVar 0) (tC (.int 12))) (tC (.int 5))) tNil)))))
      { nx := fun _ H' => Q .non H', rt := Q } (start N_law_end_by [.int n, .ref a]) H1 := by
    intro H1 e
    walk_at "go"
    refine w_two (fun _ => ?_) (fun _ => ?_)
    · walk_at "go"
      refine w_pow ⟨by decide, by decide, by decide⟩ ?_
      refine w_mod (by decide) ?_
      walk_at "go"
      have m := mod_in (n / 12) (show (0 : Int) < 10 ^ (6 : Int).toNat by decide)
      exact num H1 _ e m.1 (Int.lt_of_lt_of_le m.2 (by decide))
    · walk_at "go"
      have m := mod_in (n / 12) (show (0 : Int) < 5 by decide)
      exact num H1 _ e m.1 (by omega)
  walk_at "go"
  refine w_new (by walk_at "sz") (fun p hp => ?_)
  refine w_neTxt (xs := ns) (ys := []) (same_l (same_new hp) hS) (SqL.of upd_same) (fun x hx => ok_txt (hN x hx)) (fun x hx => nomatch hx) ?_
  walk_at "go"
  refine w_two (fun e1 => ?_) (fun e1 => ?_)
  · walk_at "go"
    refine w_two (fun e2 => ?_) (fun e2 => ?_)
    · have ne : ns ≠ [] := by simpa using e1
      have pos : 0 < ns.length := List.length_pos_iff.mpr ne
      walk_at "go"
      rw [List.length_map]
      refine w_mod (by omega) ?_
      have m := mod_in (n / 3) (show (0 : Int) < ((ns.length : Nat) : Int) by omega)
      obtain ⟨x, xm, _, hx⟩ := at_map (f := V.str) (xs := ns) m.1 m.2
      refine w_ixL (same_l (same_new hp) hS) hx ?_
      walk_at "go"
      exact ⟨by walk_at "sz", fun r hr => q _ _ (.nam x) (.nam (SqT.of upd_same)) ((same_new hp).trans (same_new hr)) xm rfl⟩
    · walk_at "gn"
      exact rest _ (same_new hp)
  · walk_at "gn"
    exact rest _ (same_new hp)
theorem sg_div (s : Sg) : decide (s.txt = ("/" : Str)) = decide (s = .div) := by cases s <;> decide +kernel
theorem no_law_formula_by {K : PySem.W.Frag} : ∀ vs H Q E, ¬ sp_law_formula_by K 0 vs H Q E := by
  rintro vs H Q E ⟨i, a, b, ns, ms, d, l, _, _, _, _, _, _, _, h1, h2, _⟩
  omega
theorem pure_law_formula_by (K : PySem.W.Frag) (n : Nat) (vs : List V) (H : Hp) (Q : VK) (E : XK) (h : sp_law_formula_by K (n + 1) vs H Q E) :
    t_law_formula_by K n { nx := fun _ H' => Q .non H', rt := Q } (start N_law_formula_by vs) H := by
  obtain ⟨i, a, b, ns, ms, d, l, rfl, hS, hT, hN, hM, hl, hm, h1, h2, q⟩ := h
  unfold t_law_formula_by
  walk_at "go"
  refine ⟨_, rfl, fun r r0 r1 => ?_⟩
  have endby : ∀ H1, Same H H1 → sp_law_end_by K [.int (r / 8), .ref a] H1 Q E0 := by
    intro H1 e
    exact ⟨_, _, ns, rfl, same_l e hS, hN, hl, fun v H' f hf e' ho hd => q v H' f hf (e.trans e') (Fm.ok_mono (fun x hx => List.mem_append_left _ hx) ho) (by omega)⟩
  walk_at "go"
  refine w_two (fun e1 => ?_) (fun e1 => ?_)
  · walk_at "go"
    exact endby H (Same.refl H)
  · walk_at "go"
    refine w_two (fun e2 => ?_) (fun e2 => ?_)
    · walk_at "go"
      exact endby H (Same.refl H)
    · have e1 := of_decide_eq_false e1
      walk_at "go"
      refine w_new (by walk_at "sz") (fun p hp => ?_)
      walk_at "go"
      refine w_new (by walk_at "sz") (fun p2 hp2 => ?_)
      walk_at "go"
      have hd2 : atI [V.int 8, V.int 10] (if d then 1 else 0) = some (.int (if d then 10 else 8)) := by cases d <;> rfl
      refine w_ixL (SqL.of upd_same) hd2 ?_
      have m := mod_in (r / 8) (show (0 : Int) < (if d then 10 else 8) by cases d <;> decide)
      refine w_mod (by cases d <;> decide) ?_
      have m10 : r / 8 % (if d then 10 else 8) < 10 := by
        cases d
        · exact Int.lt_trans m.2 (by decide)
        · exact m.2
      generalize hx : r / 8 % (if d then 10 else 8) = x at m m10 ⊢
      have np : p ≠ p2 := ne_of_none upd_same hp2
      obtain ⟨z, zm, _, hz⟩ := at_map (f := fun s : Sg => V.str s.txt) (xs := [.add, .sub, .mul, .lt, .eq, .add, .sub, .lt, .div, .div]) (k := x) m.1 m10
      refine w_ixL (SqL.of ((upd_ne np).trans upd_same)) hz ?_
      have e0 : Same H (upd (upd H p (.lst [.str "+", .str "-", .str "*", .str "<", .str "=", .str "+", .str "-", .str "<", .str "/", .str "/"])) p2 (.lst [.int 8, .int 10])) := (same_new hp).trans (same_new hp2)
      generalize (upd (upd H p (.lst [.str "+", .str "-", .str "*", .str "<", .str "=", .str "+", .str "-", .str "<", .str "/", .str "/"])) p2 (.lst [.int 8, .int 10])) = H0 at e0 ⊢
      walk_at "go"
      refine w_mulI (.inr ⟨by decide, by decide⟩) ?_
      walk_at "go"
      refine ⟨_, a, b, ns, ms, d, _, rfl, same_l e0 hS, same_l e0 hT, hN, hM, hl, hm, by omega, by omega, fun u H1 f hf e3 of df => ?_⟩
      walk_at "go"
      rw [sg_div]
      have last : ∀ (H2 : Hp) (w : V) (g : Fm), Same H1 H2 → FmAt K H2 w g → g.ok (ns ++ ms) → (g.depth : Int) ≤ l - 1 → [V.str z.txt, u, w].length ≤ sizeLine ∧ ∀ p, H2 p = none → Q (.ref p) (upd H2 p (.tup [.str z.txt, u, w])) := fun H2 w g e4 hg og dg =>
        ⟨by walk_at "sz", fun p hp => q _ _ (.op z f g) (.op (SqT.of upd_same) (hf.mono (e4.trans (same_new hp))) (hg.mono (same_new hp))) (((e0.trans e3).trans e4).trans (same_new hp)) ⟨of, og⟩ (by simp only [Fm.depth]; omega)⟩
      have again : ∀ c : Addr, (c = a ∨ c = b) → ∀ i' : Int, sp_law_formula_by K n [.int i', .ref c, .ref b, .bl d, .int (l - 1)] H1 (fun w H2 => [V.str z.txt, u, w].length ≤ sizeLine ∧ ∀ p, H2 p = none → Q (.ref p) (upd H2 p (.tup [.str z.txt, u, w]))) E0 := by
        rintro c (rfl | rfl) i'
        · exact ⟨_, c, b, ns, ms, d, _, rfl, same_l (e0.trans e3) hS, same_l (e0.trans e3) hT, hN, hM, hl, hm, by omega, by omega, fun w H2 g hg e4 og dg => last H2 w g e4 hg og dg⟩
        · exact ⟨_, c, c, ms, ms, d, _, rfl, same_l (e0.trans e3) hT, same_l (e0.trans e3) hT, hM, hM, hm, hm, by omega, by omega, fun w H2 g hg e4 og dg => last H2 w g e4 hg (Fm.ok_mono (fun x hx => List.mem_append_right _ (by simpa using hx)) og) dg⟩
      have tail : (tSeq (tIfS (tTest (tOp (rEq2 K) (tVar 5) (tC (.str "/")))) (tRet (tTup (tCons (tVar 5) (tCons (tVar 6) (tCons (tF (sp_law_formula_by K n) (tCons (tOp (rAdd K) (tOp rMul (tVar 0) (tC (.int 5))) (tC (.int 2))) (tCons (tVar 2) (tCons (tVar 2) (tCons (tVar 3) (tCons (tOp rSub (tVar 4) (tC (.int 1))) tNil)))))) tNil))))) tNext) (tRet (tTup (tCons (tVar 5) (tCons (tVar 6) (tCons (tF (sp_law_formula_by K n) (tCons (tOp (rAdd K) (tOp rMul (tVar 0) (tC (.int 5))) (tC (.int 2))) (tCons (tVar 1) (tCons (tVar 2) (tCons (tVar 3) (tCons (tOp rSub (tVar 4) (tC (.int 1))) tNil)))))) tNil))))))
          { nx := fun _ H' => Q .non H', rt := Q } [some (.int r), some (.ref a), some (.ref b), some (.bl d), some (.int l), some (.str z.txt), some u] H1 := by
        walk_at "go"
        rw [sg_div]
        refine w_two (fun _ => ?_) (fun _ => ?_)
        · walk_at "go"
          refine w_mulI (.inr ⟨by decide, by decide⟩) ?_
          walk_at "go"
          exact again b (.inr rfl) _
        · walk_at "go"
          refine w_mulI (.inr ⟨by decide, by decide⟩) ?_
          walk_at "go"
          exact again a (.inl rfl) _
      refine w_two (fun e4 => ?_) (fun e4 => ?_)
      · walk_at "go"
        refine w_two (fun e5 => ?_) (fun e5 => ?_)
        · walk_at "go"
          refine w_new (by walk_at "sz") (fun p3 hp3 => ?_)
          walk_at "go"
          have m9 := mod_in (r / 320) (show (0 : Int) < 9 by decide)
          exact last _ _ (.num _) (same_new hp3) (.num (SqT.of upd_same)) ⟨by omega, by omega⟩ (by simp only [Fm.depth]; omega)
        · walk_at "gn"
          exact tail
      · walk_at "gn"
        exact tail
mutual
theorem eqv_self : ∀ d : PyData, d.canLay0 = true → PyData.eqv d d = true
  | .none, _ => rfl
  | .bool b, _ => by show (b == b) = true; simp
  | .int i, _ => by show (i == i) = true; simp
  | .str x, _ => by show (x == x) = true; simp
  | .list xs, h => eqvAll_self xs h
  | .tuple xs, h => eqvAll_self xs h
  | .dict _, h => nomatch h
theorem eqvAll_self : ∀ xs : List PyData, PyData.canLayAll0 xs = true → PyData.eqvAll xs xs = true
  | [], _ => rfl
  | x :: r, h => by
    have h' := Bool.and_eq_true_iff.mp (show (x.canLay0 && PyData.canLayAll0 r) = true from h)
    show (PyData.eqv x x && PyData.eqvAll r r) = true
    rw [eqv_self x h'.1, eqvAll_self r h'.2] <;> rfl
end
structure Dk (d : PyData) (k : Nat) : Prop where
  lay : d.canLay0 = true
  dep : d.depth ≤ k
theorem Dk.shaped {d : PyData} {k : Nat} (h : Dk d k) (hk : k ≤ 64) : SeqAt.shaped d = true := by
  unfold SeqAt.shaped
  rw [h.lay, decide_eq_true (Nat.le_trans h.dep hk)] <;> rfl
theorem Dk.mono {d : PyData} {k j : Nat} (h : Dk d k) (hk : k ≤ j) : Dk d j := ⟨h.lay, Nat.le_trans h.dep hk⟩
theorem Dk.int {i : Int} {k : Nat} : Dk (.int i) k := ⟨rfl, Nat.zero_le _⟩
theorem Dk.bl {i : Bool} {k : Nat} : Dk (.bool i) k := ⟨rfl, Nat.zero_le _⟩
theorem Dk.non {k : Nat} : Dk .none k := ⟨rfl, Nat.zero_le _⟩
theorem Dk.str {x : Str} {k : Nat} (h : PyData.strOk x = true) : Dk (.str x) k := ⟨h, Nat.zero_le _⟩
theorem dk_all {k : Nat} : ∀ {ds : List PyData}, (∀ d ∈ ds, Dk d k) → PyData.canLayAll0 ds = true ∧ PyData.depthAll ds ≤ k
  | [], _ => ⟨rfl, Nat.zero_le _⟩
  | d :: r, h => by
    have h1 := h d List.mem_cons_self
    have h2 := dk_all fun y hy => h y (List.mem_cons_of_mem d hy)
    constructor
    · show (d.canLay0 && PyData.canLayAll0 r) = true
      rw [h1.lay, h2.1] <;> rfl
    · show max d.depth (PyData.depthAll r) ≤ k
      exact Nat.max_le.mpr ⟨h1.dep, h2.2⟩
theorem Dk.list {ds : List PyData} {k : Nat} (h : ∀ d ∈ ds, Dk d k) : Dk (.list ds) (k + 1) := ⟨(dk_all h).1, Nat.succ_le_succ (dk_all h).2⟩
theorem Dk.tup {ds : List PyData} {k : Nat} (h : ∀ d ∈ ds, Dk d k) : Dk (.tuple ds) (k + 1) := ⟨(dk_all h).1, Nat.succ_le_succ (dk_all h).2⟩
theorem dk_nil {k : Nat} : ∀ d ∈ ([] : List PyData), Dk d k := fun _ h => nomatch h
theorem dk_cons {k : Nat} {x : PyData} {ds : List PyData} (a : Dk x k) (b : ∀ d ∈ ds, Dk d k) : ∀ d ∈ x :: ds, Dk d k := fun d h => (List.mem_cons.mp h).elim (fun e => e ▸ a) (b d)
theorem dk_map {α : Type} {k : Nat} {f : α → PyData} {xs : List α} (h : ∀ x ∈ xs, Dk (f x) k) : ∀ d ∈ xs.map f, Dk d k := fun d hd => by
  obtain ⟨x, hx, e⟩ := List.mem_map.mp hd
  exact e ▸ h x hx
theorem dk_txts {xs : List Str} (h : ∀ x ∈ xs, PyData.strOk x = true) {k : Nat} : Dk (.list (xs.map PyData.str)) (k + 1) := Dk.list (dk_map fun x hx => Dk.str (h x hx))
section
variable {K : PySem.W.Frag} {H : Hp} {Q : VK} {x y : V} {d : PyData}
theorem w_eqSelf {k : Nat} (hx : Dp K H x d) (hy : Dp K H y d) (hd : Dk d k) (hk : k ≤ 64) (q : Q (.bl true) H) : rEq2 K x y H Q := w_eqD hx hy (hd.shaped hk) (hd.shaped hk) (by rw [eqv_self d hd.lay]; exact q)
theorem w_neSelf {k : Nat} (hx : Dp K H x d) (hy : Dp K H y d) (hd : Dk d k) (hk : k ≤ 64) (q : Q (.bl false) H) : rNe2 K x y H Q := w_neD hx hy (hd.shaped hk) (hd.shaped hk) (by rw [eqv_self d hd.lay]; exact q)
theorem w_isi {t c : String} (h : TyX K H x (.type t)) (e : PySem.W.kitOne K (.type t) (.type c) = some true) (q : Q (.bl true) H) : rIsi2 K [x, .ty c] H Q := .inl ⟨_, _, _, _, _, rfl, .ty _, h, e, q⟩
theorem w_isiNo {t c : String} (h : TyX K H x (.type t)) (e : PySem.W.kitOne K (.type t) (.type c) = some false) (q : Q (.bl false) H) : rIsi2 K [x, .ty c] H Q := .inl ⟨_, _, _, _, _, rfl, .ty _, h, e, q⟩
theorem w_listL {p : Addr} {xs : List V} (h : SqL K H p xs) (q : ∀ l, H l = none → Q (.ref l) (upd H l (.lst xs))) : rList K [.ref p] H Q := .inl ⟨p, xs, rfl, .inl h, q⟩
theorem w_listT {p : Addr} {xs : List V} (h : SqT K H p xs) (q : ∀ l, H l = none → Q (.ref l) (upd H l (.lst xs))) : rList K [.ref p] H Q := .inl ⟨p, xs, rfl, .inr h, q⟩
end
theorem rising_all : ∀ {xs : List Str} {p : Str}, risingS p xs = true → (∀ y ∈ xs, ¬ (y.cps.toList < p.cps.toList)) ∧ sortedS xs = true
  | [], _, _ => ⟨(fun _ h => nomatch h), rfl⟩
  | x :: r, p, h => by
    have h' : (!ltCps x.cps.toList p.cps.toList && risingS x r) = true := h
    have h2 := Bool.and_eq_true_iff.mp h'
    have h3 : ¬ (x.cps.toList < p.cps.toList) := by
      have := h2.1
      rw [ltCps_eq] at this
      simpa using this
    have ih := rising_all h2.2
    refine ⟨fun y hy => ?_, h2.2⟩
    rcases List.mem_cons.mp hy with rfl | hy
    · exact h3
    · intro c
      exact ih.1 y hy (Decidable.byContradiction fun n => h3 (List.lt_of_le_of_lt (List.not_lt.mp n) c))
theorem str_ext {x y : Str} (h : x.cps.toList = y.cps.toList) : x = y := by
  cases x with
  | mk a =>
    cases y with
    | mk b => exact congrArg Str.mk (Array.toList_inj.mp h)
theorem sort_one : ∀ {xs ys : List Str}, sortedS xs = true → xs.Nodup → sortedS ys = true → ys.Nodup → (∀ z, z ∈ xs ↔ z ∈ ys) → xs = ys
  | [], [], _, _, _, _, _ => rfl
  | [], y :: t, _, _, _, _, h => absurd ((h y).mpr List.mem_cons_self) List.not_mem_nil
  | x :: r, [], _, _, _, _, h => absurd ((h x).mp List.mem_cons_self) List.not_mem_nil
  | x :: r, y :: t, sx, nx, sy, ny, h => by
    have rx := rising_all (p := x) (xs := r) sx
    have ry := rising_all (p := y) (xs := t) sy
    have hx : ¬ (x.cps.toList < y.cps.toList) := by
      rcases List.mem_cons.mp ((h x).mp List.mem_cons_self) with e | e
      · rw [e]; exact List.lt_irrefl _
      · exact ry.1 x e
    have hy : ¬ (y.cps.toList < x.cps.toList) := by
      rcases List.mem_cons.mp ((h y).mpr List.mem_cons_self) with e | e
      · rw [e]; exact List.lt_irrefl _
      · exact rx.1 y e
    have e : x = y := str_ext (List.le_antisymm (List.not_lt.mp hy) (List.not_lt.mp hx))
    subst e
    obtain ⟨nx1, nx2⟩ := List.nodup_cons.mp nx
    obtain ⟨ny1, ny2⟩ := List.nodup_cons.mp ny
    have : r = t := sort_one rx.2 nx2 ry.2 ny2 fun z => by
      constructor
      · intro hz
        rcases List.mem_cons.mp ((h z).mp (List.mem_cons_of_mem _ hz)) with e | e
        · exact absurd (e ▸ hz) nx1
        · exact e
      · intro hz
        rcases List.mem_cons.mp ((h z).mpr (List.mem_cons_of_mem _ hz)) with e | e
        · exact absurd (e ▸ hz) ny1
        · exact e
    rw [this]
theorem none_of {H H' : Hp} {a : Addr} (e : Same H H') (h : H' a = none) : H a = none := by
  cases c : H a with
  | none => rfl
  | some u => rw [e a u c] at h; exact nomatch h
theorem w_sortSet {K : PySem.W.Frag} {σ : L2.St} {H : Hp} {Q : VK} {ta : TE} (h : ta σ H fun x H1 => ∃ (l : Addr) (xs ns : List Str), x = .ref l ∧ SqL K H1 l (xs.map V.str) ∧ (∀ y ∈ xs, y ∈ ns) ∧ ns.length ≤ 4000 ∧
  ∀ (ys : List Str) (p : Addr) (H2 : Hp), sortedS ys = true → ys.Nodup → (∀ y, y ∈ ys ↔ y ∈ xs) → Same H1 H2 → H1 p = none → H2 p = some (.lst (ys.map V.str)) → Q (.ref p) H2) : tSortSet K ta σ H Q := h
theorem w_lc {wi : TI} {g : TG} {tt : TT} {te : TE} {vs : List Nat} {σ : L2.St} {H : Hp} {Q : VK} (h : wi σ H fun J H1 => ∀ D, H1 D = none → ∃ W : Nat → Nat → Hp → Prop, (∃ m, W 0 m (upd H1 D (.lst []))) ∧ ∀ i m H, W i m H →
  (J.stop i H ∧ Q (.ref D) H) ∨ (J.go i H ∧ ∃ Nx : Hp → Prop, (∀ H', Nx H' → ∃ m', m' < m ∧ W (i + 1) m' H') ∧ ∀ x H', J.yld i H x H' → g x (wipe σ vs) H' fun σ2 H2 => wipe σ2 vs = wipe σ vs ∧ tt σ2 H2 fun b H3 =>
    if b = true then te σ2 H3 fun y H4 => ∃ acc, H4 D = some (.lst acc) ∧ acc.length < sizeLine ∧ Nx (upd H4 D (.lst (acc ++ [y]))) else Nx H3)) : tLc wi g tt te vs σ H Q := h
def SameX (D : Addr) (H H' : Hp) : Prop := ∀ a u, a ≠ D → H a = some u → H' a = some u
theorem list_one {α : Type} : ∀ {l : List α}, l.length = 1 → ∃ a, l = [a]
  | [a], _ => ⟨a, rfl⟩
theorem list_two {α : Type} : ∀ {l : List α}, l.length = 2 → ∃ a b, l = [a, b]
  | [a, b], _ => ⟨a, b, rfl⟩
theorem for_enum {K : PySem.W.Frag} {a : Addr} {xs : List V} {g : TG} {tb : TS} {D : Ends} {σ : L2.St} {H : Hp} (Pv : Nat → L2.St → Hp → Prop) (h0 : Pv 0 σ H) (hl : ∀ i σ H, i ≤ xs.length → Pv i σ H → SqL K H a xs)
    (hs : ∀ i x σ H T, xs[i]? = some x → H T = none → Pv i σ H → g (.ref T) σ (upd H T (.tup [.int (i : Nat), x])) fun σ2 H2 => tb { D with nx := Pv (i + 1), ct := Pv (i + 1), bk := D.nx } σ2 H2) (hd : ∀ σ H, Pv xs.length σ H → D.nx σ H) :
    ∃ W : Nat → Nat → L2.St → Hp → Prop, (∃ m, W 0 m σ H) ∧ ∀ i m σ H, W i m σ H →
      ((Ite K a).stop i H ∧ D.nx σ H) ∨ ((Ite K a).go i H ∧ ∃ N : L2.St → Hp → Prop, (∀ σ' H', N σ' H' → ∃ m', m' < m ∧ W (i + 1) m' σ' H') ∧ ∀ x H', (Ite K a).yld i H x H' → g x σ H' fun σ2 H2 => tb { D with nx := N, ct := N, bk := D.nx } σ2 H2) := by
  refine ⟨fun i m σ H => m = xs.length - i ∧ i ≤ xs.length ∧ Pv i σ H, ⟨xs.length, by simp, Nat.zero_le _, h0⟩, ?_⟩
  rintro i m σ H ⟨rfl, hi, p⟩
  have q := hl i σ H hi p
  by_cases hlt : i < xs.length
  · refine .inr ⟨⟨xs, xs[i], q, by simp [hlt]⟩, Pv (i + 1), fun σ' H' p' => ⟨xs.length - (i + 1), by omega, rfl, hlt, p'⟩, fun x H' y => ?_⟩
    obtain ⟨T, z, rfl, hT, rfl, hz⟩ := y
    exact hs i z σ _ T (hz xs q) hT p
  · have e : i = xs.length := by omega
    subst e
    exact .inl ⟨⟨xs, q, Nat.le_refl _⟩, hd σ H p⟩
theorem Fm.ok_names {ns : List Str} : ∀ {f : Fm}, f.ok ns → ∀ x ∈ f.names, x ∈ ns
  | .num _, _, x, hx => nomatch hx
  | .nam y, q, x, hx => by rw [List.mem_singleton.mp hx]; exact q
  | .op _ a b, q, x, hx => (List.mem_append.mp hx).elim (Fm.ok_names q.1 x) (Fm.ok_names q.2 x)
theorem Fm.names_small18 {f : Fm} (h : f.depth ≤ 18) : f.names.length ≤ 262144 := Nat.le_trans f.names_len (Nat.pow_le_pow_right (by decide) h)
def sp_all_names (K : PySem.W.Frag) (n : Nat) : Sp := fun vs H Q _ => ∃ (v : V) (f : Fm), vs = [v] ∧ FmAt K H v f ∧ f.depth ≤ n ∧ f.depth ≤ 18 ∧ ∀ p H', Same H H' → H p = none → H' p = some (.lst (f.names.map V.str)) → Q (.ref p) H'
def sp_names_in (K : PySem.W.Frag) : Sp := fun vs H Q _ => ∃ (v : V) (f : Fm) (ns : List Str), vs = [v] ∧ FmAt K H v f ∧ f.ok ns ∧ ns.length ≤ 1000 ∧ f.depth ≤ 18 ∧
  ∀ p H' ys, sortedS ys = true → ys.Nodup → (∀ y, y ∈ ys ↔ y ∈ f.names) → Same H H' → H p = none → H' p = some (.lst (ys.map V.str)) → Q (.ref p) H'
abbrev N_all_names : List Str := ["formula"]
def t_all_names (K : PySem.W.Frag) (n : Nat) : TS :=
  (tSeq (tIfS (tTest (tOp (rEq2 K) (tOp (rIx K) (tVar 0) (tC (.int 0))) (tC (.str "number")))) (tRet (tLst tNil)) tNext) (tSeq (tIfS (tTest (tOp (rEq2 K) (tOp (rIx K) (tVar 0) (tC (.int 0))) (tC (.str "name")))) (tRet (tLst (tCons (tOp (rIx K) (tVar 0) (tC (.int 1))) tNil))) tNext) (tRet (tOp (rAdd K) (tF (sp_all_names K n) (tCons (tOp (rIx K) (tVar 0) (tC (.int 1))) tNil)) (tF (sp_all_names K n) (tCons (tOp (rIx K) (tVar 0) (tC (.int 2))) tNil))))))
abbrev N_names_in : List Str := ["formula"]
def t_names_in (K : PySem.W.Frag) : TS :=
  (tRet (tSortSet K (tF (sp_all_names K 18) (tCons (tVar 0) tNil))))
theorem pure_all_names (K : PySem.W.Frag) (n : Nat) (vs : List V) (H : Hp) (Q : VK) (E : XK) (h : sp_all_names K (n + 1) vs H Q E) :
    t_all_names K n { nx := fun _ H' => Q .non H', rt := Q } (start N_all_names vs) H := by
  obtain ⟨v, f, rfl, hf, hd, hn, q⟩ := h
  unfold t_all_names
  cases hf with
  | num h =>
    walk_at "go"
    exact w_new (by walk_at "sz") (fun p hp => q _ _ (same_new hp) hp upd_same)
  | nam h =>
    walk_at "go"
    exact w_new (by walk_at "sz") (fun p hp => q _ _ (same_new hp) hp upd_same)
  | @op a s u v f g h h1 h2 =>
    have e1 := sg_num s
    have e2 := sg_nam s
    have l1 : f.depth ≤ n := by simp only [Fm.depth] at hd; omega
    have l2 : g.depth ≤ n := by simp only [Fm.depth] at hd; omega
    have k1 : f.depth ≤ 18 := by simp only [Fm.depth] at hn; omega
    have k2 : g.depth ≤ 18 := by simp only [Fm.depth] at hn; omega
    walk_at "go"
    refine ⟨_, f, rfl, h1, l1, k1, fun p H1 e hp hp1 => ?_⟩
    walk_at "go"
    refine ⟨_, g, rfl, h2.mono e, l2, k2, fun p2 H2 e' hp2 hp3 => ?_⟩
    have y1 := Fm.names_small18 k1
    have y2 := Fm.names_small18 k2
    refine w_addL (e' p _ hp1) hp3 (sz (by rw [List.length_map, List.length_map]; omega)) fun p4 hp4 => ?_
    exact q _ _ ((e.trans e').trans (same_new hp4)) (none_of (e.trans e') hp4) (by rw [upd_same, ← List.map_append] <;> rfl)
theorem no_all_names {K : PySem.W.Frag} : ∀ vs H Q E, ¬ sp_all_names K 0 vs H Q E := by
  rintro vs H Q E ⟨v, f, _, _, h, _⟩
  have := f.depth_pos
  omega
theorem pure_names_in (K : PySem.W.Frag) (vs : List V) (H : Hp) (Q : VK) (E : XK) (h : sp_names_in K vs H Q E) :
    t_names_in K { nx := fun _ H' => Q .non H', rt := Q } (start N_names_in vs) H := by
  obtain ⟨v, f, ns, rfl, hf, ho, hl, hn, q⟩ := h
  unfold t_names_in
  walk_at "go"
  refine w_sortSet ?_
  walk_at "go"
  refine ⟨_, f, rfl, hf, hn, hn, fun p H1 e hp hp1 => ?_⟩
  refine ⟨p, f.names, ns, rfl, SqL.of hp1, Fm.ok_names ho, by omega, fun ys r H2 s1 s2 s3 e2 hr hr2 => ?_⟩
  exact q r H2 ys s1 s2 s3 (e.trans e2) (none_of e hr) hr2
def In6 (i : Int) : Prop := 0 ≤ i ∧ i < 1000000
theorem In6.mod (i : Int) : In6 (i % 1000000) := mod_in i (by decide)
def DAt (H : Hp) (a : Addr) (ns : List Str) (g : Str → Int) : Prop := ∃ kvs : List (Key × V), H a = some (.dK kvs) ∧ ∀ x ∈ ns, valV kvs (.inr x) = some (.int (g x))
theorem DAt.mono {H H' : Hp} {a : Addr} {ns : List Str} {g : Str → Int} (e : Same H H') (h : DAt H a ns g) : DAt H' a ns g := by
  obtain ⟨kvs, h1, h2⟩ := h
  exact ⟨kvs, e a _ h1, h2⟩
inductive Rw where
  | set (x : Str) (f : Fm)
  | tell (f : Fm)
  | skip
  | ite (f : Fm) (a b : List Rw)
  | whl (f : Fm) (a : List Rw)
mutual
def Rw.size : Rw → Nat
  | .set _ _ => 1
  | .tell _ => 1
  | .skip => 1
  | .ite _ a b => 1 + (szs a + szs b)
  | .whl _ a => 1 + szs a
def szs : List Rw → Nat
  | [] => 0
  | r :: l => r.size + szs l
end
mutual
def Rw.nest : Rw → Nat
  | .set _ _ => 1
  | .tell _ => 1
  | .skip => 1
  | .ite _ a b => 1 + max (nests a) (nests b)
  | .whl _ a => 1 + nests a
def nests : List Rw → Nat
  | [] => 0
  | r :: l => max r.nest (nests l)
end
def Fm.fine (ns : List Str) (f : Fm) : Prop := f.ok ns ∧ f.depth ≤ 12
mutual
def Rw.ok (ns : List Str) : Rw → Prop
  | .set x f => x ∈ ns ∧ f.fine ns
  | .tell f => f.fine ns
  | .skip => True
  | .ite f a b => f.fine ns ∧ oks ns a ∧ oks ns b
  | .whl f a => f.fine ns ∧ oks ns a
def oks (ns : List Str) : List Rw → Prop
  | [] => True
  | r :: l => r.ok ns ∧ oks ns l
end
theorem szs_app : ∀ a b : List Rw, szs (a ++ b) = szs a + szs b
  | [], b => by show szs b = 0 + szs b; omega
  | r :: l, b => by
    show r.size + szs (l ++ b) = r.size + szs l + szs b
    rw [szs_app l b]
    omega
theorem nests_app : ∀ a b : List Rw, nests (a ++ b) = max (nests a) (nests b)
  | [], b => by show nests b = max 0 (nests b); omega
  | r :: l, b => by
    show max r.nest (nests (l ++ b)) = max (max r.nest (nests l)) (nests b)
    rw [nests_app l b]
    omega
theorem oks_app {ns : List Str} : ∀ {a b : List Rw}, oks ns a → oks ns b → oks ns (a ++ b)
  | [], _, _, hb => hb
  | _ :: _, _, ha, hb => ⟨ha.1, oks_app ha.2 hb⟩
theorem oks_mem {ns : List Str} : ∀ {a : List Rw}, oks ns a → ∀ r ∈ a, r.ok ns
  | _ :: _, h, r, hr => (List.mem_cons.mp hr).elim (fun e => e ▸ h.1) fun hr => oks_mem h.2 r hr
theorem nest_mem : ∀ {a : List Rw} {r : Rw}, r ∈ a → r.nest ≤ nests a
  | s :: l, r, hr => by
    show r.nest ≤ max s.nest (nests l)
    rcases List.mem_cons.mp hr with e | hr
    · rw [e]; omega
    · have := nest_mem hr; omega
theorem size_pos (r : Rw) : 1 ≤ r.size := by
  cases r <;> simp only [Rw.size] <;> omega
theorem nest_pos (r : Rw) : 1 ≤ r.nest := by
  cases r <;> simp only [Rw.nest] <;> omega
theorem szs_len : ∀ a : List Rw, a.length ≤ szs a
  | [] => Nat.zero_le _
  | r :: l => by
    show l.length + 1 ≤ r.size + szs l
    have := size_pos r
    have := szs_len l
    omega
theorem sz_mem : ∀ {a : List Rw} {r : Rw}, r ∈ a → r.size ≤ szs a
  | s :: l, r, hr => by
    show r.size ≤ s.size + szs l
    rcases List.mem_cons.mp hr with e | hr
    · rw [e]; omega
    · have := sz_mem hr; omega
/-- rows as they stand in a heap; S tells how a row's blocks stand: as tuples, as lists, either -/
abbrev SQ := Hp → Addr → List V → Prop
mutual
inductive RwAt (K : PySem.W.Frag) (S : SQ) (H : Hp) : V → Rw → Prop where
  | set {a : Addr} {x : Str} {u : V} {f : Fm} (h : SqT K H a [.str "set", .str x, u]) (hf : FmAt K H u f) : RwAt K S H (.ref a) (.set x f)
  | tell {a : Addr} {u : V} {f : Fm} (h : SqT K H a [.str "tell", u]) (hf : FmAt K H u f) : RwAt K S H (.ref a) (.tell f)
  | skip {a : Addr} (h : SqT K H a [.str "skip"]) : RwAt K S H (.ref a) .skip
  | ite {a p q : Addr} {u : V} {f : Fm} {xs ys : List V} {b c : List Rw} (h : SqT K H a [.str "if", u, .ref p, .ref q]) (hf : FmAt K H u f) (hp : S H p xs) (hb : BkAt K S H xs b) (hq : S H q ys) (hc : BkAt K S H ys c) : RwAt K S H (.ref a) (.ite f b c)
  | whl {a p : Addr} {u : V} {f : Fm} {xs : List V} {b : List Rw} (h : SqT K H a [.str "while", u, .ref p]) (hf : FmAt K H u f) (hp : S H p xs) (hb : BkAt K S H xs b) : RwAt K S H (.ref a) (.whl f b)
inductive BkAt (K : PySem.W.Frag) (S : SQ) (H : Hp) : List V → List Rw → Prop where
  | nil : BkAt K S H [] []
  | cons {v : V} {vs : List V} {r : Rw} {l : List Rw} (h : RwAt K S H v r) (t : BkAt K S H vs l) : BkAt K S H (v :: vs) (r :: l)
end
/-- what never changes is as it was -/
def Fix : HO → Bool
  | .tup _ => true
  | .frz _ _ => true
  | _ => false
def SameT (H H' : Hp) : Prop := ∀ a o, H a = some o → Fix o = true → H' a = some o
theorem SameT.refl (H : Hp) : SameT H H := fun _ _ h _ => h
theorem SameT.of {H H' : Hp} (e : Same H H') : SameT H H' := fun a o h _ => e a o h
theorem SameT.trans {H H1 H2 : Hp} (a : SameT H H1) (b : SameT H1 H2) : SameT H H2 := fun x o h f => b x o (a x o h f) f
theorem SameT.upd {H : Hp} {p : Addr} {o o' : HO} (h : H p = some o) (f : Fix o = false) : SameT H (upd H p o') := fun a u ha hu => by
  rw [upd_ne (fun e => by rw [e, h] at ha; rw [← Option.some.inj ha, f] at hu; exact nomatch hu)]
  exact ha
theorem sameT_t {K : PySem.W.Frag} {H H' : Hp} {a : Addr} {xs : List V} (e : SameT H H') (h : SqT K H a xs) : SqT K H' a xs := by
  rcases h with (h | ⟨o, h⟩) | h
  · exact .inl (.inl (e a _ h rfl))
  · exact .inl (.inr ⟨o, e a _ h rfl⟩)
  · exact .inr h
theorem FmAt.monoT {K : PySem.W.Frag} {H H' : Hp} (e : SameT H H') {v : V} {f : Fm} (h : FmAt K H v f) : FmAt K H' v f := by
  induction h with
  | num h => exact .num (sameT_t e h)
  | nam h => exact .nam (sameT_t e h)
  | op h _ _ i1 i2 => exact .op (sameT_t e h) i1 i2
mutual
theorem RwAt.go {K : PySem.W.Frag} {S S' : SQ} {H H' : Hp} (e : SameT H H') (s : ∀ a xs, S H a xs → S' H' a xs) : ∀ {v : V} {r : Rw}, RwAt K S H v r → RwAt K S' H' v r
  | _, _, .set h hf => .set (sameT_t e h) (hf.monoT e)
  | _, _, .tell h hf => .tell (sameT_t e h) (hf.monoT e)
  | _, _, .skip h => .skip (sameT_t e h)
  | _, _, .ite h hf hp hb hq hc => .ite (sameT_t e h) (hf.monoT e) (s _ _ hp) (BkAt.go e s hb) (s _ _ hq) (BkAt.go e s hc)
  | _, _, .whl h hf hp hb => .whl (sameT_t e h) (hf.monoT e) (s _ _ hp) (BkAt.go e s hb)
theorem BkAt.go {K : PySem.W.Frag} {S S' : SQ} {H H' : Hp} (e : SameT H H') (s : ∀ a xs, S H a xs → S' H' a xs) : ∀ {vs : List V} {l : List Rw}, BkAt K S H vs l → BkAt K S' H' vs l
  | _, _, .nil => .nil
  | _, _, .cons h t => .cons (RwAt.go e s h) (BkAt.go e s t)
end
theorem BkAt.monoT {K : PySem.W.Frag} {H H' : Hp} (e : SameT H H') {vs : List V} {l : List Rw} (h : BkAt K (SqT K) H vs l) : BkAt K (SqT K) H' vs l := h.go e fun _ _ => sameT_t e
theorem RwAt.monoT {K : PySem.W.Frag} {H H' : Hp} (e : SameT H H') {v : V} {r : Rw} (h : RwAt K (SqT K) H v r) : RwAt K (SqT K) H' v r := h.go e fun _ _ => sameT_t e
theorem BkAt.len {K : PySem.W.Frag} {S : SQ} {H : Hp} : ∀ {vs : List V} {l : List Rw}, BkAt K S H vs l → vs.length = l.length
  | _, _, .nil => rfl
  | _, _, .cons _ t => congrArg (· + 1) t.len
theorem BkAt.app {K : PySem.W.Frag} {S : SQ} {H : Hp} : ∀ {vs : List V} {l : List Rw} {us : List V} {m : List Rw}, BkAt K S H vs l → BkAt K S H us m → BkAt K S H (vs ++ us) (l ++ m)
  | _, _, _, _, .nil, h => h
  | _, _, _, _, .cons a t, h => .cons a (t.app h)
theorem BkAt.one {K : PySem.W.Frag} {S : SQ} {H : Hp} {v : V} {r : Rw} (h : RwAt K S H v r) : BkAt K S H [v] [r] := .cons h .nil
theorem BkAt.get {K : PySem.W.Frag} {S : SQ} {H : Hp} : ∀ {vs : List V} {l : List Rw} {i : Nat} {v : V}, BkAt K S H vs l → vs[i]? = some v → ∃ r, l[i]? = some r ∧ RwAt K S H v r
  | _, _, 0, _, .cons h _, e => ⟨_, rfl, by rw [← Option.some.inj e]; exact h⟩
  | _, _, i + 1, _, .cons _ t, e => t.get (i := i) e
  | _, _, _, _, .nil, e => by simp at e
theorem BkAt.ref {K : PySem.W.Frag} {S : SQ} {H : Hp} {v : V} {r : Rw} (h : RwAt K S H v r) : ∃ a, v = .ref a := by
  cases h <;> exact ⟨_, rfl⟩
def Fm.pd : Fm → PyData
  | .num n => .tuple [.str "number", .int n]
  | .nam x => .tuple [.str "name", .str x]
  | .op s a b => .tuple [.str s.txt, a.pd, b.pd]
theorem FmAt.dp {K : PySem.W.Frag} {H : Hp} {v : V} {f : Fm} (h : FmAt K H v f) : Dp K H v f.pd := by
  induction h with
  | num h => exact .tup h (.cons (.str _) (.cons (.int _) .nil))
  | nam h => exact .tup h (.cons (.str _) (.cons (.str _) .nil))
  | op h _ _ i1 i2 => exact .tup h (.cons (.str _) (.cons i1 (.cons i2 .nil)))
theorem sg_ok (s : Sg) : PyData.strOk s.txt = true := by cases s <;> decide +kernel
theorem num_ok : PyData.strOk ("number" : Str) = true := by decide +kernel
theorem nam_ok : PyData.strOk ("name" : Str) = true := by decide +kernel
theorem Fm.dk {ns : List Str} (hn : ∀ x ∈ ns, Nm x) : ∀ {f : Fm}, f.ok ns → Dk f.pd f.depth
  | .num _, _ => Dk.tup (dk_cons (Dk.str num_ok) (dk_cons Dk.int dk_nil))
  | .nam x, h => Dk.tup (dk_cons (Dk.str nam_ok) (dk_cons (Dk.str (ok_txt (hn x h))) dk_nil))
  | .op s a b, h => Dk.tup (dk_cons (Dk.str (sg_ok s)) (dk_cons ((Fm.dk hn h.1).mono (Nat.le_max_left _ _)) (dk_cons ((Fm.dk hn h.2).mono (Nat.le_max_right _ _)) dk_nil)))
mutual
def Rw.pd (B : List PyData → PyData) : Rw → PyData
  | .set x f => .tuple [.str "set", .str x, f.pd]
  | .tell f => .tuple [.str "tell", f.pd]
  | .skip => .tuple [.str "skip"]
  | .ite f a b => .tuple [.str "if", f.pd, B (pds B a), B (pds B b)]
  | .whl f a => .tuple [.str "while", f.pd, B (pds B a)]
def pds (B : List PyData → PyData) : List Rw → List PyData
  | [] => []
  | r :: l => r.pd B :: pds B l
end
mutual
theorem RwAt.dp {K : PySem.W.Frag} {S : SQ} {H : Hp} {B : List PyData → PyData} (s : ∀ a xs ds, S H a xs → DpAll K H xs ds → Dp K H (.ref a) (B ds)) : ∀ {v : V} {r : Rw}, RwAt K S H v r → Dp K H v (r.pd B)
  | _, _, .set h hf => .tup h (.cons (.str _) (.cons (.str _) (.cons hf.dp .nil)))
  | _, _, .tell h hf => .tup h (.cons (.str _) (.cons hf.dp .nil))
  | _, _, .skip h => .tup h (.cons (.str _) .nil)
  | _, _, .ite h hf hp hb hq hc => .tup h (.cons (.str _) (.cons hf.dp (.cons (s _ _ _ hp (BkAt.dp s hb)) (.cons (s _ _ _ hq (BkAt.dp s hc)) .nil))))
  | _, _, .whl h hf hp hb => .tup h (.cons (.str _) (.cons hf.dp (.cons (s _ _ _ hp (BkAt.dp s hb)) .nil)))
theorem BkAt.dp {K : PySem.W.Frag} {S : SQ} {H : Hp} {B : List PyData → PyData} (s : ∀ a xs ds, S H a xs → DpAll K H xs ds → Dp K H (.ref a) (B ds)) : ∀ {vs : List V} {l : List Rw}, BkAt K S H vs l → DpAll K H vs (pds B l)
  | _, _, .nil => .nil
  | _, _, .cons h t => .cons (RwAt.dp s h) (BkAt.dp s t)
end
theorem set_ok : PyData.strOk ("set" : Str) = true := by decide +kernel
theorem tell_ok : PyData.strOk ("tell" : Str) = true := by decide +kernel
theorem skip_ok : PyData.strOk ("skip" : Str) = true := by decide +kernel
theorem if_ok : PyData.strOk ("if" : Str) = true := by decide +kernel
theorem while_ok : PyData.strOk ("while" : Str) = true := by decide +kernel
mutual
theorem Rw.dk {ns : List Str} (hn : ∀ x ∈ ns, Nm x) {B : List PyData → PyData} (s : ∀ ds k, (∀ d ∈ ds, Dk d k) → Dk (B ds) (k + 1)) : ∀ {r : Rw}, r.ok ns → Dk (r.pd B) (2 * r.nest + 11)
  | .set x f, h => (Dk.tup (k := 12) (dk_cons (Dk.str set_ok) (dk_cons (Dk.str (ok_txt (hn x h.1))) (dk_cons ((Fm.dk hn h.2.1).mono h.2.2) dk_nil)))).mono (Nat.le_refl 13)
  | .tell f, h => (Dk.tup (k := 12) (dk_cons (Dk.str tell_ok) (dk_cons ((Fm.dk hn h.1).mono h.2) dk_nil))).mono (Nat.le_refl 13)
  | .skip, _ => (Dk.tup (k := 12) (dk_cons (Dk.str skip_ok) dk_nil)).mono (Nat.le_refl 13)
  | .ite f a b, h => by
    have e : (Rw.ite f a b).nest = 1 + max (nests a) (nests b) := rfl
    have q1 := s _ _ (pds_dk hn s h.2.1)
    have q2 := s _ _ (pds_dk hn s h.2.2)
    exact (Dk.tup (k := 2 * max (nests a) (nests b) + 12) (dk_cons (Dk.str if_ok) (dk_cons ((Fm.dk hn h.1.1).mono (Nat.le_trans h.1.2 (by omega))) (dk_cons (q1.mono (by omega)) (dk_cons (q2.mono (by omega)) dk_nil))))).mono (by omega)
  | .whl f a, h => by
    have e : (Rw.whl f a).nest = 1 + nests a := rfl
    have q1 := s _ _ (pds_dk hn s h.2)
    exact (Dk.tup (k := 2 * nests a + 12) (dk_cons (Dk.str while_ok) (dk_cons ((Fm.dk hn h.1.1).mono (Nat.le_trans h.1.2 (by omega))) (dk_cons (q1.mono (by omega)) dk_nil)))).mono (by omega)
theorem pds_dk {ns : List Str} (hn : ∀ x ∈ ns, Nm x) {B : List PyData → PyData} (s : ∀ ds k, (∀ d ∈ ds, Dk d k) → Dk (B ds) (k + 1)) : ∀ {l : List Rw}, oks ns l → ∀ d ∈ pds B l, Dk d (2 * nests l + 11)
  | [], _ => dk_nil
  | r :: l, h => by
    have e : nests (r :: l) = max r.nest (nests l) := rfl
    exact dk_cons ((Rw.dk hn s h.1).mono (by omega)) fun d hd => (pds_dk hn s h.2 d hd).mono (by omega)
end
theorem tupB {K : PySem.W.Frag} {H : Hp} : ∀ a xs ds, SqT K H a xs → DpAll K H xs ds → Dp K H (.ref a) (PyData.tuple ds) := fun _ _ _ h t => .tup h t
theorem tupD : ∀ (ds : List PyData) k, (∀ d ∈ ds, Dk d k) → Dk (.tuple ds) (k + 1) := fun _ _ h => Dk.tup h
section
variable {K : PySem.W.Frag} {σ : L2.St} {H : Hp} {ta tb : TE} {t u : TT} {Q : VK}
theorem w_andP {c d : Bool} {Q : Bool → Hp → Prop} (h1 : ∀ Q : Bool → Hp → Prop, Q c H → t σ H Q) (h2 : ∀ Q : Bool → Hp → Prop, Q d H → u σ H Q) (q : Q (c && d) H) : tAnd t u σ H Q := by
  refine w_and (h1 _ ?_)
  cases c with
  | true => exact iteT (h2 _ q)
  | false => exact iteF q
end
structure Frm where
  a : Addr
  r : Addr
  kd : Nat
  f : Fm
  rows : List Rw
  sec : Bool
  els : Option (List Rw)
def kdT : Nat → Str
  | 0 => ""
  | 1 => "if"
  | _ => "while"
def elSz : Option (List Rw) → Nat
  | none => 0
  | some b => szs b
def Frm.w (x : Frm) : Nat := szs x.rows + elSz x.els + 2
def Frm.mu (x : Frm) : Nat := if x.kd = 1 ∧ x.els = none then 2 else 1
def ElAt (K : PySem.W.Frag) (H : Hp) (v : V) : Option (List Rw) → Prop
  | none => v = .non
  | some b => ∃ p ys, v = .ref p ∧ SqT K H p ys ∧ BkAt K (SqT K) H ys b
theorem ElAt.monoT {K : PySem.W.Frag} {H H' : Hp} (e : SameT H H') {v : V} : ∀ {o : Option (List Rw)}, ElAt K H v o → ElAt K H' v o
  | none, h => h
  | some _, ⟨p, ys, h1, h2, h3⟩ => ⟨p, ys, h1, sameT_t e h2, h3.monoT e⟩
structure FrIn (K : PySem.W.Frag) (H : Hp) (x : Frm) (vf ve : V) (xs : List V) : Prop where
  ha : H x.a = some (.lst [.str (kdT x.kd), vf, .ref x.r, .bl x.sec, ve])
  hr : H x.r = some (.lst xs)
  hb : BkAt K (SqT K) H xs x.rows
  f0 : x.kd = 0 → vf = .non
  f1 : x.kd ≠ 0 → FmAt K H vf x.f
  he : ElAt K H ve x.els
def FrAt (K : PySem.W.Frag) (H : Hp) (x : Frm) : Prop := ∃ vf ve xs, FrIn K H x vf ve xs
theorem FrIn.moves {K : PySem.W.Frag} {H H' : Hp} {x : Frm} {vf ve : V} {xs : List V} (e : SameT H H') (h : FrIn K H x vf ve xs) (ha : H' x.a = H x.a) (hr : H' x.r = H x.r) : FrIn K H' x vf ve xs :=
  ⟨ha.trans h.ha, hr.trans h.hr, h.hb.monoT e, h.f0, fun c => (h.f1 c).monoT e, h.he.monoT e⟩
theorem FrAt.mono {K : PySem.W.Frag} {H H' : Hp} {x : Frm} (e : Same H H') (h : FrAt K H x) : FrAt K H' x := by
  obtain ⟨vf, ve, xs, h⟩ := h
  exact ⟨vf, ve, xs, h.moves (SameT.of e) ((e _ _ h.ha).trans h.ha.symm) ((e _ _ h.hr).trans h.hr.symm)⟩
theorem FrAt.other {K : PySem.W.Frag} {H : Hp} {x : Frm} {q : Addr} {zs : List V} {o : HO} (h : FrAt K H x) (hq : H q = some (.lst zs)) (na : x.a ≠ q) (nr : x.r ≠ q) : FrAt K (upd H q o) x := by
  obtain ⟨vf, ve, xs, h⟩ := h
  exact ⟨vf, ve, xs, h.moves (SameT.upd hq rfl) (upd_ne na) (upd_ne nr)⟩
theorem bk_not5 {K : PySem.W.Frag} {H : Hp} {z : Str} {b c d e : V} {l : List Rw} (h : BkAt K (SqT K) H [.str z, b, c, d, e] l) : False := by
  cases h with
  | cons h _ =>
    obtain ⟨a, e⟩ := BkAt.ref h
    exact nomatch e
theorem FrAt.ne {K : PySem.W.Frag} {H : Hp} {x : Frm} {q : Addr} {zs : List V} {l : List Rw} (h : FrAt K H x) (hq : H q = some (.lst zs)) (hb : BkAt K (SqT K) H zs l) : x.a ≠ q := by
  intro e
  obtain ⟨vf, ve, xs, h⟩ := h
  have := h.ha
  rw [e, hq] at this
  have := HO.lst.inj (Option.some.inj this)
  rw [this] at hb
  exact bk_not5 hb
structure Stk (K : PySem.W.Frag) (H0 H : Hp) (st : Addr) (ns : List Str) (L : List Frm) (W : Nat) : Prop where
  same : Same H0 H
  s0 : H0 st = none
  hs : H st = some (.lst (L.map fun x => .ref x.a))
  fr : ∀ x ∈ L, FrAt K H x
  r0 : ∀ x ∈ L, H0 x.r = none
  ra : ∀ x ∈ L, x.r ≠ st
  nd : (L.map (·.r)).Nodup
  ok : ∀ x ∈ L, oks ns x.rows ∧ (x.kd ≠ 0 → x.f.fine ns) ∧ ∀ b, x.els = some b → oks ns b
  nest : ∀ (i : Nat) x, L[i]? = some x → nests x.rows + i ≤ 8 ∧ (∀ b, x.els = some b → nests b + i ≤ 8) ∧ (i = 0 → x.kd = 0 ∧ x.els = none) ∧ (0 < i → x.kd ≠ 0)
  len : 1 ≤ L.length ∧ L.length ≤ 8
  w : (L.map Frm.w).sum ≤ W
def mus (L : List Frm) : Nat := (L.map Frm.mu).sum
section
variable {K : PySem.W.Frag} {H0 H H' : Hp} {st : Addr} {ns : List Str} {L : List Frm} {W : Nat}
theorem Stk.mono (S : Stk K H0 H st ns L W) (e : Same H H') : Stk K H0 H' st ns L W :=
  ⟨S.same.trans e, S.s0, e _ _ S.hs, fun x hx => (S.fr x hx).mono e, S.r0, S.ra, S.nd, S.ok, S.nest, S.len, S.w⟩
theorem Stk.wle (S : Stk K H0 H st ns L W) {W' : Nat} (h : W ≤ W') : Stk K H0 H st ns L W' :=
  ⟨S.same, S.s0, S.hs, S.fr, S.r0, S.ra, S.nd, S.ok, S.nest, S.len, Nat.le_trans S.w h⟩
theorem ref_not5 {z : Str} {b c d e : V} {l : List Frm} (h : [.str z, b, c, d, e] = l.map fun x => V.ref x.a) : False := by
  cases l with
  | nil => exact nomatch h
  | cons x r => exact nomatch (List.cons.inj h).1
theorem Stk.ast (S : Stk K H0 H st ns L W) {x : Frm} (hx : FrAt K H x) : x.a ≠ st := by
  intro e
  obtain ⟨vf, ve, xs, h⟩ := hx
  have := h.ha
  rw [e, S.hs] at this
  exact ref_not5 (HO.lst.inj (Option.some.inj this)).symm
theorem Stk.other {q : Addr} {zs zs' : List V} (S : Stk K H0 H st ns L W) (q0 : H0 q = none) (hq : H q = some (.lst zs)) (qs : q ≠ st) (qa : ∀ x ∈ L, x.a ≠ q) (qr : ∀ x ∈ L, x.r ≠ q) : Stk K H0 (upd H q (.lst zs')) st ns L W :=
  ⟨same_mut S.same q0, S.s0, (upd_ne qs.symm).trans S.hs, fun x hx => (S.fr x hx).other hq (qa x hx) (qr x hx), S.r0, S.ra, S.nd, S.ok, S.nest, S.len, S.w⟩
theorem sum_snoc (l : List Nat) (n : Nat) : (l ++ [n]).sum = l.sum + n := by simp
/-- one more row in the topmost frame -/
theorem Stk.row {x : Frm} {vf ve v : V} {xs : List V} {r : Rw} (S : Stk K H0 H st ns (L ++ [x]) W) (h : FrIn K H x vf ve xs) (hv : RwAt K (SqT K) H v r) (ho : r.ok ns) (hn : r.nest + L.length ≤ 8) :
    Stk K H0 (upd H x.r (.lst (xs ++ [v]))) st ns (L ++ [{ x with rows := x.rows ++ [r] }]) (W + r.size) := by
  have hx : x ∈ L ++ [x] := List.mem_append_right _ (List.mem_singleton.mpr rfl)
  have eT : SameT H (upd H x.r (.lst (xs ++ [v]))) := SameT.upd h.hr rfl
  have nd := S.nd
  rw [List.map_append, List.nodup_append] at nd
  have rx : ∀ y ∈ L, y.r ≠ x.r := fun y hy => nd.2.2 y.r (List.mem_map.mpr ⟨y, hy, rfl⟩) x.r (List.mem_map.mpr ⟨x, List.mem_singleton.mpr rfl, rfl⟩)
  have hm : ∀ y ∈ L ++ [{ x with rows := x.rows ++ [r] }], y ∈ L ∨ y = { x with rows := x.rows ++ [r] } := fun y hy => (List.mem_append.mp hy).imp_right List.mem_singleton.mp
  refine ⟨same_mut S.same (S.r0 x hx), S.s0, ?_, ?_, ?_, ?_, ?_, ?_, ?_, ?_, ?_⟩
  · rw [upd_ne (S.ra x hx).symm, S.hs, List.map_append, List.map_append] <;> rfl
  · intro y hy
    rcases hm y hy with hy | rfl
    · exact (S.fr y (List.mem_append_left _ hy)).other h.hr ((S.fr y (List.mem_append_left _ hy)).ne h.hr h.hb) (rx y hy)
    · exact ⟨vf, ve, xs ++ [v], (upd_ne (FrAt.ne ⟨vf, ve, xs, h⟩ h.hr h.hb)).trans h.ha, upd_same, (h.hb.app (BkAt.one hv)).monoT eT, h.f0, fun c => (h.f1 c).monoT eT, h.he.monoT eT⟩
  · intro y hy
    rcases hm y hy with hy | rfl
    · exact S.r0 y (List.mem_append_left _ hy)
    · exact S.r0 x hx
  · intro y hy
    rcases hm y hy with hy | rfl
    · exact S.ra y (List.mem_append_left _ hy)
    · exact S.ra x hx
  · have := S.nd
    rw [List.map_append] at this ⊢
    exact this
  · intro y hy
    rcases hm y hy with hy | rfl
    · exact S.ok y (List.mem_append_left _ hy)
    · have := S.ok x hx
      exact ⟨oks_app this.1 ⟨ho, trivial⟩, this.2⟩
  · intro i y hy
    rcases Nat.lt_or_ge i L.length with lt | ge
    · rw [List.getElem?_append_left lt] at hy
      exact S.nest i y (by rw [List.getElem?_append_left lt]; exact hy)
    · rw [List.getElem?_append_right ge] at hy
      have hj : i - L.length = 0 := by
        have := (List.getElem?_eq_some_iff.mp hy).1
        simp only [List.length_singleton] at this
        omega
      have hi : i = L.length := by omega
      rw [hj] at hy
      have hy := Option.some.inj hy
      have q := S.nest i x (by rw [List.getElem?_append_right ge, hj]; rfl)
      rw [← hy]
      refine ⟨?_, q.2⟩
      show nests (x.rows ++ [r]) + i ≤ 8
      rw [nests_app]
      have : nests [r] = r.nest := by show max r.nest 0 = r.nest; omega
      rw [this]
      have := q.1
      omega
  · have := S.len
    rw [List.length_append] at this ⊢
    exact this
  · have := S.w
    rw [List.map_append, List.map_cons, List.map_nil, sum_snoc] at this ⊢
    have : Frm.w { x with rows := x.rows ++ [r] } = x.w + r.size := by
      show szs (x.rows ++ [r]) + elSz x.els + 2 = szs x.rows + elSz x.els + 2 + r.size
      rw [szs_app]
      have : szs [r] = r.size := by show r.size + 0 = r.size; omega
      rw [this]
      omega
    rw [this]
    omega
/-- a new frame -/
theorem Stk.push {x : Frm} (S : Stk K H0 H st ns L W) (h : FrAt K H x) (r0 : H0 x.r = none) (rs : x.r ≠ st) (rr : ∀ y ∈ L, y.r ≠ x.r) (kd : x.kd ≠ 0) (ok : oks ns x.rows ∧ (x.kd ≠ 0 → x.f.fine ns) ∧ ∀ b, x.els = some b → oks ns b)
    (hl : L.length < 8) (n1 : nests x.rows + L.length ≤ 8) (n2 : ∀ b, x.els = some b → nests b + L.length ≤ 8) :
    Stk K H0 (upd H st (.lst (L.map (fun x => V.ref x.a) ++ [.ref x.a]))) st ns (L ++ [x]) (W + x.w) := by
  have hm : ∀ y ∈ L ++ [x], y ∈ L ∨ y = x := fun y hy => (List.mem_append.mp hy).imp_right List.mem_singleton.mp
  refine ⟨same_mut S.same S.s0, S.s0, ?_, ?_, ?_, ?_, ?_, ?_, ?_, ?_, ?_⟩
  · rw [upd_same, List.map_append] <;> rfl
  · intro y hy
    rcases hm y hy with hy | rfl
    · exact (S.fr y hy).other S.hs (S.ast (S.fr y hy)) (S.ra y hy)
    · exact h.other S.hs (S.ast h) rs
  · intro y hy
    rcases hm y hy with hy | rfl
    · exact S.r0 y hy
    · exact r0
  · intro y hy
    rcases hm y hy with hy | rfl
    · exact S.ra y hy
    · exact rs
  · rw [List.map_append, List.nodup_append]
    refine ⟨S.nd, List.nodup_cons.mpr ⟨List.not_mem_nil, List.nodup_nil⟩, fun u hu w hw => ?_⟩
    obtain ⟨y, hy, rfl⟩ := List.mem_map.mp hu
    rw [List.mem_singleton.mp hw]
    exact rr y hy
  · intro y hy
    rcases hm y hy with hy | rfl
    · exact S.ok y hy
    · exact ok
  · intro i y hy
    rcases Nat.lt_or_ge i L.length with lt | ge
    · rw [List.getElem?_append_left lt] at hy
      exact S.nest i y hy
    · rw [List.getElem?_append_right ge] at hy
      have hj : i - L.length = 0 := by
        have := (List.getElem?_eq_some_iff.mp hy).1
        simp only [List.length_singleton] at this
        omega
      have hi : i = L.length := by omega
      rw [hj] at hy
      have hy := Option.some.inj hy
      have l1 := S.len.1
      rw [← hy, hi]
      exact ⟨n1, n2, fun c => by omega, fun _ => kd⟩
  · rw [List.length_append, List.length_singleton]
    have := S.len
    omega
  · have := S.w
    rw [List.map_append, List.map_cons, List.map_nil, sum_snoc]
    omega
/-- the topmost frame is taken off -/
theorem Stk.pop {x : Frm} (S : Stk K H0 H st ns (L ++ [x]) W) (hl : L ≠ []) : Stk K H0 (upd H st (.lst (L.map fun x => .ref x.a))) st ns L (W - x.w) ∧ FrAt K (upd H st (.lst (L.map fun x => .ref x.a))) x := by
  have hx : x ∈ L ++ [x] := List.mem_append_right _ (List.mem_singleton.mpr rfl)
  have hm : ∀ y ∈ L, y ∈ L ++ [x] := fun y hy => List.mem_append_left _ hy
  refine ⟨⟨same_mut S.same S.s0, S.s0, upd_same, fun y hy => (S.fr y (hm y hy)).other S.hs (S.ast (S.fr y (hm y hy))) (S.ra y (hm y hy)), fun y hy => S.r0 y (hm y hy), fun y hy => S.ra y (hm y hy), ?_, fun y hy => S.ok y (hm y hy), ?_, ?_, ?_⟩,
    (S.fr x hx).other S.hs (S.ast (S.fr x hx)) (S.ra x hx)⟩
  · have := S.nd
    rw [List.map_append, List.nodup_append] at this
    exact this.1
  · intro i y hy
    exact S.nest i y (by rw [List.getElem?_append_left (List.getElem?_eq_some_iff.mp hy).1]; exact hy)
  · have := S.len
    rw [List.length_append] at this
    have := List.length_pos_iff.mpr hl
    omega
  · have := S.w
    rw [List.map_append, List.map_cons, List.map_nil, sum_snoc] at this
    omega
theorem snoc_of {α : Type} {l : List α} (h : l ≠ []) : ∃ m x, l = m ++ [x] := ⟨l.dropLast, l.getLast h, (List.dropLast_concat_getLast h).symm⟩
end
def sp_law_all_names (K : PySem.W.Frag) (n : Nat) : Sp := fun vs H Q _ => ∃ (v : V) (f : Fm), vs = [v] ∧ FmAt K H v f ∧ f.depth ≤ n ∧ f.depth ≤ 18 ∧ ∀ p H', Same H H' → H p = none → H' p = some (.lst (f.names.map V.str)) → Q (.ref p) H'
def sp_law_row_by (K : PySem.W.Frag) : Sp := fun vs H Q _ => ∃ (a : Addr) (ns : List Str) (m : Int) (d : Bool) (o : Int), vs = [.ref a, .int m, .bl d, .int o] ∧ SqL K H a (ns.map V.str) ∧ Ten ns ∧
  ∀ (p : Addr) (H' : Hp) (u : V) (f : Fm) (b : Bool), Same H H' → SqT K H' p [u, .bl b] → FmAt K H' u f → f.ok ns → f.depth ≤ 4 → Q (.ref p) H'
def sp_law_closed (K : PySem.W.Frag) : Sp := fun vs H Q _ => ∃ (H0 : Hp) (st : Addr) (ns : List Str) (L : List Frm) (W : Nat), vs = [.ref st] ∧ Stk K H0 H st ns L W ∧ 2 ≤ L.length ∧ W ≤ 1000 ∧
  ∀ (v : V) (H' : Hp) (L' : List Frm), Stk K H0 H' st ns L' W → mus L' < mus L → Q v H'
def sp_law_put (K : PySem.W.Frag) : Sp := fun vs H Q _ => ∃ (H0 : Hp) (st a : Addr) (ns : List Str) (L : List Frm) (W : Nat) (m o : Int), vs = [.ref st, .ref a, .int m, .int o] ∧ Stk K H0 H st ns L W ∧ SqL K H0 a (ns.map V.str) ∧ Ten ns ∧ 0 ≤ o ∧ o ≤ 2 ∧ W ≤ 1000 ∧
  ∀ (v : V) (H' : Hp) (L' : List Frm), Stk K H0 H' st ns L' (W + 2) → Q v H'
structure GoodB (K : PySem.W.Frag) (H : Hp) (ns : List Str) (xs : List V) (b : List Rw) : Prop where
  at_ : BkAt K (SqT K) H xs b
  ok : oks ns b
  nest : nests b ≤ 8
def sp_law_block_by (K : PySem.W.Frag) : Sp := fun vs H Q _ => ∃ (c a : Addr) (cells : List Int) (ns : List Str) (o : Int), vs = [.ref c, .ref a, .int o] ∧ SqL K H c (cells.map V.int) ∧ cells.length ≤ 63 ∧ SqL K H a (ns.map V.str) ∧ Ten ns ∧
  ∀ (p : Addr) (H' : Hp) (xs : List V) (b : List Rw), Same H H' → H p = none → H' p = some (.lst xs) → GoodB K H' ns xs b → szs b ≤ 130 → Q (.ref p) H'
abbrev N_law_all_names : List Str := ["_law_formula_here"]
def t_law_all_names (K : PySem.W.Frag) (n : Nat) : TS :=
  (tSeq (tIfS (tTest (tOp (rEq2 K) (tOp (rIx K) (tVar 0) (tC (.int 0))) (tC (.str "number")))) (tRet (tLst tNil)) tNext) (tSeq (tIfS (tTest (tOp (rEq2 K) (tOp (rIx K) (tVar 0) (tC (.int 0))) (tC (.str "name")))) (tRet (tLst (tCons (tOp (rIx K) (tVar 0) (tC (.int 1))) tNil))) tNext) (tRet (tOp (rAdd K) (tF (sp_law_all_names K n) (tCons (tOp (rIx K) (tVar 0) (tC (.int 1))) tNil)) (tF (sp_law_all_names K n) (tCons (tOp (rIx K) (tVar 0) (tC (.int 2))) tNil))))))
abbrev N_law_row_by : List Str := ["_law_names_here", "_law_more_here", "_law_dark", "_law_mode", "_law_low", "_law_some", "_law_formula_here", "_law_name"]
def t_law_row_by_j1 (K : PySem.W.Frag) : TS :=
  (tSeq (tAsg (tF (sp_law_formula_by K 6) (tCons (tVar 1) (tCons (tVar 5) (tCons (tVar 4) (tCons (tOrV (tOp rGt (tVar 3) (tC (.int 0))) (tNotV (tVar 2))) (tCons (tOp (rAdd K) (tC (.int 1)) (tOp rMod (tOp rDiv (tVar 1) (tC (.int 24))) (tC (.int 4)))) tNil)))))) (gName 6)) (tRet (tTup (tCons (tVar 6) (tCons (tOp (rNe2 K) (tLc (iSeq K (tF (sp_law_all_names K 18) (tCons (tVar 6) tNil))) (gName 7) (tTest (tOp (rIn2 K false) (tVar 7) (tSl (rSl K) (tVar 0) (tPart (tC (.int 5))) tNoPart))) (tVar 7) [7]) (tLst tNil)) tNil)))))
def t_law_row_by_j2 (K : PySem.W.Frag) : TS :=
  (tSeq (tIfS (tTest (tOp rGt (tVar 3) (tC (.int 0)))) (tAsg (tVar 5) (gName 4)) tNext) (t_law_row_by_j1 K))
def t_law_row_by (K : PySem.W.Frag) : TS :=
  (tSeq (tAsg (tSl (rSl K) (tVar 0) tNoPart (tPart (tC (.int 5)))) (gName 4)) (tSeq (tAsg (tVar 0) (gName 5)) (tSeq (tIfS (tOr (tAnd (tTest (tOp (rEq2 K) (tVar 3) (tC (.int 0)))) (tTest (tOp (rEq2 K) (tOp rMod (tOp rDiv (tVar 1) (tC (.int 12))) (tC (.int 2))) (tC (.int 0))))) (tAnd (tTest (tOp (rEq2 K) (tVar 3) (tC (.int 2)))) (tAnd (tB (tVar 2)) (tTest (tOp rGt (tOp rMod (tOp rDiv (tVar 1) (tC (.int 12))) (tC (.int 3))) (tC (.int 0))))))) (tAsg (tVar 4) (gName 5)) (tIfS (tTest (tOp (rEq2 K) (tVar 3) (tC (.int 2)))) (tAsg (tSl (rSl K) (tVar 0) (tPart (tC (.int 5))) tNoPart) (gName 5)) tNext)) (t_law_row_by_j2 K))))
abbrev N_law_closed : List Str := ["_law_stack", "_law_frame"]
def t_law_closed_j1 (K : PySem.W.Frag) : TS :=
  (tDrop (tBM K "list" rAppend (tOp (rIx K) (tOp (rIx K) (tVar 0) (tUn rNeg (tC (.int 1)))) (tC (.int 2))) (tCons (tTup (tCons (tC (.str "while")) (tCons (tOp (rIx K) (tVar 1) (tC (.int 1))) (tCons (tCB (rTupO K) (tCons (tOp (rIx K) (tVar 1) (tC (.int 2))) tNil)) tNil)))) tNil)))
def t_law_closed (K : PySem.W.Frag) : TS :=
  (tSeq (tAsg (tBM0 K "list" rPop (tVar 0)) (gName 1)) (tIfS (tTest (tOp (rEq2 K) (tOp (rIx K) (tVar 1) (tC (.int 0))) (tC (.str "while")))) (tSeq (tIfS (tAnd (tTest (tOp (rEq2 K) (tOp (rIx K) (tOp (rIx K) (tVar 1) (tC (.int 1))) (tC (.int 0))) (tC (.str "<")))) (tTest (tOp (rEq2 K) (tOp (rIx K) (tOp (rIx K) (tOp (rIx K) (tVar 1) (tC (.int 1))) (tC (.int 1))) (tC (.int 0))) (tC (.str "name"))))) (tDrop (tBM K "list" rAppend (tOp (rIx K) (tVar 1) (tC (.int 2))) (tCons (tTup (tCons (tC (.str "set")) (tCons (tOp (rIx K) (tOp (rIx K) (tOp (rIx K) (tVar 1) (tC (.int 1))) (tC (.int 1))) (tC (.int 1))) (tCons (tTup (tCons (tC (.str "+")) (tCons (tOp (rIx K) (tOp (rIx K) (tVar 1) (tC (.int 1))) (tC (.int 1))) (tCons (tTup (tCons (tC (.str "number")) (tCons (tC (.int 1)) tNil))) tNil)))) tNil)))) tNil))) tNext) (t_law_closed_j1 K)) (tIfS (tTest (tOp (rIsN2 false) (tOp (rIx K) (tVar 1) (tC (.int 4))) (tC .non))) (tDrop (tBM K "list" rAppend (tVar 0) (tCons (tLst (tCons (tOp (rIx K) (tVar 1) (tC (.int 0))) (tCons (tOp (rIx K) (tVar 1) (tC (.int 1))) (tCons (tLst tNil) (tCons (tOp (rIx K) (tVar 1) (tC (.int 3))) (tCons (tCB (rTupO K) (tCons (tOp (rIx K) (tVar 1) (tC (.int 2))) tNil)) tNil)))))) tNil))) (tDrop (tBM K "list" rAppend (tOp (rIx K) (tOp (rIx K) (tVar 0) (tUn rNeg (tC (.int 1)))) (tC (.int 2))) (tCons (tTup (tCons (tC (.str "if")) (tCons (tOp (rIx K) (tVar 1) (tC (.int 1))) (tCons (tOp (rIx K) (tVar 1) (tC (.int 4))) (tCons (tCB (rTupO K) (tCons (tOp (rIx K) (tVar 1) (tC (.int 2))) tNil)) tNil))))) tNil))))))
abbrev N_law_put : List Str := ["_law_stack", "_law_names_here", "_law_more_here", "_law_mode", "_law_way", "_law_dark", "_law_frame", "_law_formula_here", "_law_secret", "_law_shut", "_law_some"]
def t_law_put_j1 (K : PySem.W.Frag) : TS :=
  (tDrop (tBM K "list" rAppend (tOp (rIx K) (tOp (rIx K) (tVar 0) (tUn rNeg (tC (.int 1)))) (tC (.int 2))) (tCons (tTup (tCons (tC (.str "set")) (tCons (tOp (rIx K) (tVar 10) (tOp rMod (tOp rDiv (tVar 2) (tC (.int 96))) (tCB (rLenA K) (tCons (tVar 10) tNil)))) (tCons (tVar 7) tNil)))) tNil)))
def t_law_put_j2 (K : PySem.W.Frag) : TS :=
  (tDrop (tBM K "list" rAppend (tVar 0) (tCons (tLst (tCons (tC (.str "while")) (tCons (tVar 7) (tCons (tLst tNil) (tCons (tVar 8) (tCons (tC .non) tNil)))))) tNil)))
def t_law_put_j3 (K : PySem.W.Frag) : TS :=
  (tIfS (tTest (tOp rLt (tVar 4) (tC (.int 4)))) (tSeq (tAsg (tOp (rIx K) (tLst (tCons (tVar 1) (tCons (tVar 1) (tCons (tOp (rIx K) (tLst (tCons (tSl (rSl K) (tVar 1) tNoPart (tPart (tC (.int 5)))) (tCons (tSl (rSl K) (tVar 1) (tPart (tC (.int 5))) tNoPart) tNil))) (tCB rInt (tCons (tOp (rEq2 K) (tOp rMod (tOp rDiv (tVar 2) (tC (.int 7))) (tC (.int 4))) (tC (.int 3))) tNil))) tNil)))) (tVar 3)) (gName 10)) (tSeq (tIfS (tB (tVar 9)) (tAsg (tSl (rSl K) (tVar 1) (tPart (tC (.int 5))) tNoPart) (gName 10)) tNext) (t_law_put_j1 K))) (tIfS (tAnd (tTest (tOp (rEq2 K) (tVar 4) (tC (.int 4)))) (tNot (tB (tVar 9)))) (tDrop (tBM K "list" rAppend (tOp (rIx K) (tOp (rIx K) (tVar 0) (tUn rNeg (tC (.int 1)))) (tC (.int 2))) (tCons (tTup (tCons (tC (.str "tell")) (tCons (tVar 7) tNil))) tNil))) (tIfS (tTest (tOp (rEq2 K) (tVar 4) (tC (.int 5)))) (tDrop (tBM K "list" rAppend (tOp (rIx K) (tOp (rIx K) (tVar 0) (tUn rNeg (tC (.int 1)))) (tC (.int 2))) (tCons (tTup (tCons (tC (.str "skip")) tNil)) tNil))) (tIfS (tAnd (tTest (tOp rLt (tVar 4) (tC (.int 8)))) (tTest (tOp rLt (tCB (rLenA K) (tCons (tVar 0) tNil)) (tC (.int 8))))) (tDrop (tBM K "list" rAppend (tVar 0) (tCons (tLst (tCons (tC (.str "if")) (tCons (tVar 7) (tCons (tLst tNil) (tCons (tVar 8) (tCons (tC .non) tNil)))))) tNil))) (tIfS (tAnd (tTest (tOp rLt (tVar 4) (tC (.int 10)))) (tAnd (tTest (tOp rLt (tCB (rLenA K) (tCons (tVar 0) tNil)) (tC (.int 8)))) (tNot (tB (tVar 9))))) (tSeq (tIfS (tAnd (tTest (tOp (rEq2 K) (tVar 3) (tC (.int 0)))) (tTest (tOp rGt (tOp rMod (tOp rDiv (tVar 2) (tC (.int 96))) (tC (.int 4))) (tC (.int 0))))) (tAsg (tTup (tCons (tC (.str "<")) (tCons (tTup (tCons (tC (.str "name")) (tCons (tOp (rIx K) (tVar 1) (tOp rMod (tOp rDiv (tVar 2) (tC (.int 384))) (tC (.int 5)))) tNil))) (tCons (tTup (tCons (tC (.str "number")) (tCons (tOp (rAdd K) (tC (.int 1)) (tOp rMod (tOp rDiv (tVar 2) (tC (.int 1920))) (tC (.int 4)))) tNil))) tNil)))) (gName 7)) tNext) (t_law_put_j2 K)) (tIfS (tTest (tOp rGt (tCB (rLenA K) (tCons (tVar 0) tNil)) (tC (.int 1)))) (tDrop (tF (sp_law_closed K) (tCons (tVar 0) tNil))) tNext))))))
def t_law_put (K : PySem.W.Frag) : TS :=
  (tSeq (tAsg (tOp rMod (tVar 2) (tC (.int 12))) (gName 4)) (tSeq (tAsg (tOp (rNe2 K) (tLc (iSeq K (tVar 0)) (gName 6) (tB (tOp (rIx K) (tVar 6) (tC (.int 3)))) (tVar 6) [6]) (tLst tNil)) (gName 5)) (tSeq (tAsg (tF (sp_law_row_by K) (tCons (tVar 1) (tCons (tVar 2) (tCons (tVar 5) (tCons (tVar 3) tNil))))) (gTup K 2 (gCons (gName 7) (gCons (gName 8) gNil)))) (tSeq (tAsg (tAndV (tOp (rEq2 K) (tVar 3) (tC (.int 0))) (tOrV (tVar 5) (tVar 8))) (gName 9)) (tSeq (tIfS (tTest (tOp (rEq2 K) (tVar 3) (tC (.int 2)))) (tAsg (tOp (rIx K) (tLst (tCons (tC (.int 0)) (tCons (tC (.int 4)) (tCons (tC (.int 8)) (tCons (tC (.int 0)) tNil))))) (tOp rMod (tOp rDiv (tVar 2) (tC (.int 7))) (tC (.int 4)))) (gName 4)) tNext) (t_law_put_j3 K))))))
abbrev N_law_block_by : List Str := ["_law_cells", "_law_names_here", "_law_loose", "_law_stack", "_law_turn", "_law_cell", "_law_more_here", "_law_mode"]
def t_law_block_by_j1 (K : PySem.W.Frag) : TS :=
  (tDrop (tF (sp_law_put K) (tCons (tVar 3) (tCons (tVar 1) (tCons (tVar 6) (tCons (tVar 7) tNil))))))
def t_law_block_by_j2 (K : PySem.W.Frag) : TS :=
  (tSeq (tIfS (tAnd (tTest (tOp rGt (tVar 2) (tC (.int 1)))) (tTest (tOp (rEq2 K) (tVar 4) (tOp rMod (tVar 2) (tCB (rLenA K) (tCons (tVar 0) tNil)))))) (tAsg (tC (.int 2)) (gName 7)) tNext) (t_law_block_by_j1 K))
def t_law_block_by (K : PySem.W.Frag) : TS :=
  (tSeq (tAsg (tLst (tCons (tLst (tCons (tC (.str "")) (tCons (tC .non) (tCons (tLst tNil) (tCons (tC (.bl false)) (tCons (tC .non) tNil)))))) tNil)) (gName 3)) (tSeq (tFor (iEnum K (tCons (tVar 0) tNil)) (gTup K 2 (gCons (gName 4) (gCons (gName 5) gNil))) (tSeq (tAsg (tF (sp_law_mixed K) (tCons (tOp rMul (tF (sp_law_mixed K) (tCons (tOp (rAdd K) (tVar 5) (tOp rMul (tC (.int 131)) (tVar 4))) tNil)) (tOp (rAdd K) (tVar 4) (tC (.int 2)))) tNil)) (gName 6)) (tSeq (tAsg (tC (.int 0)) (gName 7)) (tSeq (tIfS (tAnd (tTest (tOp (rEq2 K) (tVar 2) (tC (.int 1)))) (tTest (tOp (rEq2 K) (tOp rMod (tOp rDiv (tVar 6) (tC (.int 4096))) (tC (.int 4))) (tC (.int 0))))) (tAsg (tC (.int 1)) (gName 7)) tNext) (t_law_block_by_j2 K))))) (tSeq (tWhile (tTest (tOp rGt (tCB (rLenA K) (tCons (tVar 3) tNil)) (tC (.int 1)))) (tDrop (tF (sp_law_closed K) (tCons (tVar 3) tNil)))) (tRet (tOp (rIx K) (tOp (rIx K) (tVar 3) (tC (.int 0))) (tC (.int 2)))))))
theorem pure_law_all_names (K : PySem.W.Frag) (n : Nat) (vs : List V) (H : Hp) (Q : VK) (E : XK) (h : sp_law_all_names K (n + 1) vs H Q E) :
    t_law_all_names K n { nx := fun _ H' => Q .non H', rt := Q } (start N_law_all_names vs) H := by
  obtain ⟨v, f, rfl, hf, hd, hn, q⟩ := h
  unfold t_law_all_names
  cases hf with
  | num h =>
    walk_at "go"
    exact w_new (by walk_at "sz") (fun p hp => q _ _ (same_new hp) hp upd_same)
  | nam h =>
    walk_at "go"
    exact w_new (by walk_at "sz") (fun p hp => q _ _ (same_new hp) hp upd_same)
  | @op a s u v f g h h1 h2 =>
    have e1 := sg_num s
    have e2 := sg_nam s
    have l1 : f.depth ≤ n := by simp only [Fm.depth] at hd; omega
    have l2 : g.depth ≤ n := by simp only [Fm.depth] at hd; omega
    have k1 : f.depth ≤ 18 := by simp only [Fm.depth] at hn; omega
    have k2 : g.depth ≤ 18 := by simp only [Fm.depth] at hn; omega
    walk_at "go"
    refine ⟨_, f, rfl, h1, l1, k1, fun p H1 e hp hp1 => ?_⟩
    walk_at "go"
    refine ⟨_, g, rfl, h2.mono e, l2, k2, fun p2 H2 e' hp2 hp3 => ?_⟩
    have y1 := Fm.names_small18 k1
    have y2 := Fm.names_small18 k2
    refine w_addL (e' p _ hp1) hp3 (sz (by rw [List.length_map, List.length_map]; omega)) fun p4 hp4 => ?_
    exact q _ _ ((e.trans e').trans (same_new hp4)) (none_of (e.trans e') hp4) (by rw [upd_same, ← List.map_append] <;> rfl)
theorem no_law_all_names {K : PySem.W.Frag} : ∀ vs H Q E, ¬ sp_law_all_names K 0 vs H Q E := by
  rintro vs H Q E ⟨v, f, _, _, h, _⟩
  have := f.depth_pos
  omega
theorem cut_map {α : Type} {f : α → V} {xs : List α} (lo hi : Option Int) : ∃ ys, cutV (xs.map f) lo hi = ys.map f ∧ List.Sublist ys xs := by
  unfold cutV
  exact ⟨_, by rw [← List.map_drop, ← List.map_take], (List.take_sublist _ _).trans (List.drop_sublist _ _)⟩
theorem cut_lo {α : Type} {f : α → V} {xs : List α} {k : Nat} : cutV (xs.map f) none (some (k : Int)) = (xs.take k).map f := by
  unfold cutV
  rw [HT.sIx_none, show HT.sIx (xs.map f).length (xs.map f).length (some (k : Int)) = min k (xs.map f).length from HT.sIx_nat _ _ k, List.drop_zero, Nat.sub_zero, ← List.map_take, List.length_map]
  congr 1
  rcases Nat.le_total k xs.length with h | h
  · rw [Nat.min_eq_left h]
  · rw [Nat.min_eq_right h, List.take_of_length_le (Nat.le_refl _), List.take_of_length_le h]
theorem cut_hi {α : Type} {f : α → V} {xs : List α} {k : Nat} : cutV (xs.map f) (some (k : Int)) none = (xs.drop k).map f := by
  unfold cutV
  rw [HT.sIx_none, show HT.sIx (xs.map f).length 0 (some (k : Int)) = min k (xs.map f).length from HT.sIx_nat _ _ k, List.length_map]
  rw [← List.map_drop]
  rcases Nat.le_total k xs.length with h | h
  · rw [Nat.min_eq_left h, List.take_of_length_le (by rw [List.length_map, List.length_drop] <;> exact Nat.le_refl _)]
  · rw [Nat.min_eq_right h, List.drop_of_length_le (Nat.le_refl _), List.drop_of_length_le h]
    simp
/-- some of a list, by a test of each -/
theorem lc_filter {K : PySem.W.Frag} {α : Type} {f : α → V} {ys : List α} {a : Addr} {g : TG} {tt : TT} {te : TE} {vs : List Nat} {σ : L2.St} {H0 : Hp} {D : Addr} {Qd : Hp → Prop} (p : α → Bool) (hv : α → V) (hq : SqL K H0 a (ys.map f)) (hl : ys.length ≤ 16000000) (hD : H0 D = none)
    (hs : ∀ x H (Nx : Hp → Prop), x ∈ ys → Same H0 H → (∃ zs, H D = some (.lst zs)) → (p x = true → ∀ H4, Same H H4 → ∃ acc, H4 D = some (.lst acc) ∧ acc.length < sizeLine ∧ Nx (upd H4 D (.lst (acc ++ [hv x])))) → (p x = false → ∀ H4, Same H H4 → Nx H4) →
      g (f x) (wipe σ vs) H fun σ2 H2 => wipe σ2 vs = wipe σ vs ∧ tt σ2 H2 fun b H3 => if b = true then te σ2 H3 fun y H4 => ∃ acc, H4 D = some (.lst acc) ∧ acc.length < sizeLine ∧ Nx (upd H4 D (.lst (acc ++ [y]))) else Nx H3)
    (hd : ∀ H, Same H0 H → H D = some (.lst ((ys.filter p).map hv)) → Qd H) :
    ∃ W : Nat → Nat → Hp → Prop, (∃ m, W 0 m (upd H0 D (.lst []))) ∧ ∀ i m H, W i m H →
      ((Itl K a).stop i H ∧ Qd H) ∨ ((Itl K a).go i H ∧ ∃ Nx : Hp → Prop, (∀ H', Nx H' → ∃ m', m' < m ∧ W (i + 1) m' H') ∧ ∀ x H', (Itl K a).yld i H x H' → g x (wipe σ vs) H' fun σ2 H2 => wipe σ2 vs = wipe σ vs ∧ tt σ2 H2 fun b H3 =>
        if b = true then te σ2 H3 fun y H4 => ∃ acc, H4 D = some (.lst acc) ∧ acc.length < sizeLine ∧ Nx (upd H4 D (.lst (acc ++ [y]))) else Nx H3) := by
  refine lc_list (xs := ys.map f) (fun i H => Same H0 H ∧ H D = some (.lst (((ys.take i).filter p).map hv))) ⟨same_new hD, upd_same⟩ (fun i H _ h => same_l h.1 hq) ?_ ?_
  · rintro i x H hx ⟨e, hD2⟩
    rw [List.getElem?_map] at hx
    cases c : ys[i]? with
    | none => rw [c] at hx; exact nomatch hx
    | some y =>
      rw [c] at hx
      obtain rfl : f y = x := Option.some.inj hx
      have tk : ys.take (i + 1) = ys.take i ++ [y] := by rw [List.take_succ, c] <;> rfl
      refine hs y H _ (List.mem_of_getElem? c) e ⟨_, hD2⟩ (fun hp H4 e4 => ?_) (fun hp H4 e4 => ?_)
      · refine ⟨_, e4 D _ hD2, Nat.lt_of_le_of_lt (Nat.le_trans (by rw [List.length_map]; exact Nat.le_trans (List.length_filter_le _ _) (List.length_take_le' _ _)) hl) (by decide), same_mut (e.trans e4) hD, ?_⟩
        rw [upd_same, tk, List.filter_append, List.map_append, List.filter_cons_of_pos hp] <;> rfl
      · refine ⟨e.trans e4, ?_⟩
        rw [e4 D _ hD2, tk, List.filter_append, List.filter_cons_of_neg (by rw [hp]; decide), List.filter_nil, List.append_nil]
  · rintro H ⟨e, hD2⟩
    rw [List.length_map, List.take_length] at hD2
    exact hd H e hD2
theorem pure_law_row_by (K : PySem.W.Frag) (vs : List V) (H : Hp) (Q : VK) (E : XK) (h : sp_law_row_by K vs H Q E) :
    t_law_row_by K { nx := fun _ H' => Q .non H', rt := Q } (start N_law_row_by vs) H := by
  obtain ⟨a, ns, m, d, o, rfl, hS, hT, q⟩ := h
  unfold t_law_row_by
  have m4 := mod_in (m / 24) (show (0 : Int) < 4 by decide)
  have j2 : ∀ (H1 : Hp) (c e : Addr) (ls ms : List Str), Same H H1 → SqL K H1 c (ls.map V.str) → SqL K H1 e (ms.map V.str) → List.Sublist ls ns → List.Sublist ms ns →
      t_law_row_by_j2 K { nx := fun _ H' => Q .non H', rt := Q } [some (.ref a), some (.int m), some (.bl d), some (.int o), some (.ref c), some (.ref e), none, none] H1 := by
    intro H1 c e ls ms e1 hc he sl sm
    unfold t_law_row_by_j2
    have j1 : ∀ (H2 : Hp) (c : Addr) (ls : List Str), Same H H2 → SqL K H2 c (ls.map V.str) → SqL K H2 e (ms.map V.str) → List.Sublist ls ns →
        t_law_row_by_j1 K { nx := fun _ H' => Q .non H', rt := Q } [some (.ref a), some (.int m), some (.bl d), some (.int o), some (.ref c), some (.ref e), none, none] H2 := by
      intro H2 c ls e2 hc he sl
      unfold t_law_row_by_j1
      have fml : ∀ b : Bool, sp_law_formula_by K 6 [.int m, .ref e, .ref c, .bl b, .int (1 + m / 24 % 4)] H2 (fun x H1 => (tRet (tTup (tCons (tVar 6) (tCons (tOp (rNe2 K) (tLc (iSeq K (tF (sp_law_all_names K 18) (tCons (tVar 6) tNil))) (gName 7) (tTest (tOp (rIn2 K false) (tVar 7) (tSl (rSl K) (tVar 0) (tPart (tC (.int 5))) tNoPart))) (tVar 7) [7]) (tLst tNil)) tNil)))) { nx := fun _ H' => Q .non H', rt := Q }
            [some (.ref a), some (.int m), some (.bl d), some (.int o), some (.ref c), some (.ref e), some x, none] H1) E0 := by
        intro b
        have nl : ns.length ≤ 1000 := by rw [hT.len]; decide
        refine ⟨m, e, c, ms, ls, b, _, rfl, he, hc, fun x hx => hT.nm x (sm.subset hx), fun x hx => hT.nm x (sl.subset hx), Nat.le_trans sm.length_le nl, Nat.le_trans sl.length_le nl, by omega, by omega, fun u H3 f hf e3 ho hd => ?_⟩
        have ho' : f.ok ns := Fm.ok_mono (fun x hx => (List.mem_append.mp hx).elim (fun h => sm.subset h) fun h => sl.subset h) ho
        have hd4 : f.depth ≤ 4 := by omega
        walk_at "go"
        refine w_lc ?_
        walk_at "go"
        refine ⟨_, f, rfl, hf, by omega, by omega, fun p1 H4 e4 hp1 hp2 => ?_⟩
        refine w_isL (SqL.of hp2) (fun D hD => ?_)
        refine lc_filter (ys := f.names) (fun x => decide (x ∈ ns.drop 5)) V.str (SqL.of hp2) (Nat.le_trans (Fm.names_small18 (by omega)) (by decide)) hD ?_ ?_
        · rintro x H5 Nx hx e5 ⟨zs, hzs⟩ yes no
          refine ⟨rfl, ?_⟩
          have hS5 := same_l (e2.trans (e3.trans (e4.trans e5))) hS
          walk_at "go"
          refine w_slL hS5 (fun p6 hp6 => ?_)
          have := cut_hi (f := V.str) (xs := ns) (k := 5)
          refine w_inTxt (xs := ns.drop 5) (by rw [← this]; exact SqL.of upd_same) ?_
          walk_at "go"
          refine w_two (fun c => ?_) (fun c => ?_)
          · walk_at "go"
            exact yes c _ (same_new hp6)
          · exact no c _ (same_new hp6)
        · intro H5 e5 hD5
          walk_at "go"
          refine w_new (by walk_at "sz") (fun p6 hp6 => ?_)
          have nmz : ∀ x ∈ f.names.filter (fun x => decide (x ∈ ns.drop 5)), PyData.strOk x = true := fun x hx => ok_txt (hT.nm x (Fm.ok_names ho' x (List.mem_filter.mp hx).1))
          refine w_neTxt (xs := f.names.filter fun x => decide (x ∈ ns.drop 5)) (ys := []) (SqL.of ((same_new hp6) D _ hD5)) (SqL.of upd_same) nmz (fun x hx => nomatch hx) ?_
          walk_at "go"
          refine w_new (by walk_at "sz") (fun p7 hp7 => ?_)
          have e67 := e4.trans (e5.trans (same_new (o := .lst []) hp6))
          exact q p7 _ u f _ (e2.trans (e3.trans (e67.trans (same_new hp7)))) (SqT.of upd_same) (hf.mono (e67.trans (same_new hp7))) ho' hd4
      walk_at "go"
      refine w_two (fun c1 => ?_) (fun c1 => ?_)
      · walk_at "go"
        exact fml _
      · walk_at "go"
        exact fml _
    walk_at "go"
    refine w_two (fun c1 => ?_) (fun c1 => ?_)
    · walk_at "go"
      exact j1 H1 e ms e1 he he sm
    · walk_at "go"
      exact j1 H1 c ls e1 hc he sl
  walk_at "go"
  have c5 : cutV (ns.map V.str) none (some 5) = (ns.take 5).map V.str := cut_lo (k := 5)
  have c6 : cutV (ns.map V.str) (some 5) none = (ns.drop 5).map V.str := cut_hi (k := 5)
  refine w_slL hS (fun p1 hp1 => ?_)
  rw [c5]
  have e1 := same_new (o := .lst ((ns.take 5).map V.str)) hp1
  have hp1' : upd H p1 (.lst ((ns.take 5).map V.str)) p1 = _ := upd_same
  generalize upd H p1 (.lst ((ns.take 5).map V.str)) = H1 at e1 hp1'
  have hS1 := same_l e1 hS
  have low := j2 H1 p1 p1 _ _ e1 (SqL.of hp1') (SqL.of hp1') (List.take_sublist 5 ns) (List.take_sublist 5 ns)
  have all := j2 H1 p1 a _ _ e1 (SqL.of hp1') hS1 (List.take_sublist 5 ns) (List.Sublist.refl _)
  have high : ∀ p2, H1 p2 = none → t_law_row_by_j2 K { nx := fun _ H' => Q .non H', rt := Q } [some (.ref a), some (.int m), some (.bl d), some (.int o), some (.ref p1), some (.ref p2), none, none] (upd H1 p2 (.lst ((ns.drop 5).map V.str))) := fun p2 hp2 =>
    j2 _ p1 p2 _ _ (e1.trans (same_new hp2)) (SqL.of ((same_new hp2) p1 _ hp1')) (SqL.of upd_same) (List.take_sublist 5 ns) (List.drop_sublist 5 ns)
  repeat' (first | walk_at "go1" | (refine w_two (fun _ => ?_) (fun _ => ?_)) | (refine w_slL hS1 (fun p2 hp2 => ?_); rw [c6]; exact high p2 hp2) | exact low | exact all)
theorem at_last {α : Type} {f : α → V} {L : List α} {x : α} : atI ((L ++ [x]).map f) (-1) = some (f x) := by
  have e : (L ++ [x]).map f = L.map f ++ [f x] := by rw [List.map_append] <;> rfl
  rw [e]
  exact atI_last _ _
theorem sum_le {l : List Nat} {n : Nat} (h : n ∈ l) : n ≤ l.sum := by
  induction l with
  | nil => exact nomatch h
  | cons m r ih =>
    rw [List.sum_cons]
    rcases List.mem_cons.mp h with e | h
    · omega
    · have := ih h; omega
theorem pure_law_closed (K : PySem.W.Frag) (vs : List V) (H : Hp) (Q : VK) (E : XK) (h : sp_law_closed K vs H Q E) :
    t_law_closed K { nx := fun _ H' => Q .non H', rt := Q } (start N_law_closed vs) H := by
  obtain ⟨H0, st, ns, L, W, rfl, S, hl, hW0, q⟩ := h
  obtain ⟨M, x, rfl⟩ := snoc_of (show L ≠ [] from fun e => by rw [e] at hl; simp at hl)
  have hM : M ≠ [] := fun e => by rw [e] at hl; simp at hl
  obtain ⟨L1, y, rfl⟩ := snoc_of hM
  unfold t_law_closed
  have hx : x ∈ (L1 ++ [y]) ++ [x] := List.mem_append_right _ (List.mem_singleton.mpr rfl)
  have hy0 : y ∈ L1 ++ [y] := List.mem_append_right _ (List.mem_singleton.mpr rfl)
  have hxk : x.kd ≠ 0 := by
    have := S.nest (L1 ++ [y]).length x (by rw [List.getElem?_append_right (Nat.le_refl _), Nat.sub_self]; rfl)
    exact this.2.2.2 (by rw [List.length_append, List.length_singleton]; omega)
  have xok := S.ok x hx
  have xn := S.nest (L1 ++ [y]).length x (by rw [List.getElem?_append_right (Nat.le_refl _), Nat.sub_self]; rfl)
  have xrs := S.ra x hx
  have x0 := S.r0 x hx
  have nd := S.nd
  rw [List.map_append, List.nodup_append] at nd
  have rne : ∀ z ∈ L1 ++ [y], z.r ≠ x.r := fun z hz => nd.2.2 z.r (List.mem_map.mpr ⟨z, hz, rfl⟩) x.r (List.mem_map.mpr ⟨x, List.mem_singleton.mpr rfl, rfl⟩)
  obtain ⟨S1, F1⟩ := S.pop hM
  have hW : x.w ≤ W := Nat.le_trans (sum_le (List.mem_map.mpr ⟨x, hx, rfl⟩)) S.w
  have dl : (((L1 ++ [y]) ++ [x]).map fun x => V.ref x.a).dropLast = (L1 ++ [y]).map fun x => V.ref x.a := by
    rw [List.map_append, List.map_cons, List.map_nil, List.dropLast_concat]
  have lst : (((L1 ++ [y]) ++ [x]).map fun x => V.ref x.a)[(((L1 ++ [y]) ++ [x]).map fun x => V.ref x.a).length - 1]? = some (.ref x.a) := by
    rw [List.map_append (l₁ := L1 ++ [y]), List.length_append, List.getElem?_append_right (by simp only [List.length_map, List.length_singleton]; omega)]
    simp
  walk_at "go"
  refine ⟨.inl ⟨rfl, _, SqL.of S.hs⟩, ?_⟩
  refine w_pop S.hs lst ?_
  rw [dl]
  walk_at "go"
  generalize hH1 : upd H st (.lst ((L1 ++ [y]).map fun x => V.ref x.a)) = H1 at S1 F1
  obtain ⟨vf, ve, xs, G⟩ := F1
  have hf := G.f1 hxk
  have hst := S1.hs
  have hst1 : H1 x.a = some (.lst [.str (kdT x.kd), vf, .ref x.r, .bl x.sec, ve]) := G.ha
  -- the row that comes of the frame is put into the next one
  have close : ∀ (H3 : Hp) (T : Addr) (r : Rw) (vf3 ve3 : V) (zs : List V), Stk K H0 H3 st ns (L1 ++ [y]) (W - x.w) → FrIn K H3 y vf3 ve3 zs → RwAt K (SqT K) H3 (.ref T) r → r.ok ns → r.size ≤ x.w → r.nest + L1.length ≤ 8 →
      rAppend (.ref y.r) [.ref T] H3 (fun v H4 => Q .non H4) := by
    intro H3 T r vf3 ve3 zs S3 G3 hr ro rs rn
    have b1 : szs y.rows ≤ y.w := by unfold Frm.w; omega
    have b2 : y.w ≤ W - x.w := Nat.le_trans (sum_le (List.mem_map.mpr ⟨y, hy0, rfl⟩)) S3.w
    have b3 := szs_len y.rows
    have b4 := G3.hb.len
    refine w_app G3.hr (Nat.lt_of_le_of_lt (by omega : zs.length ≤ 1000) (by decide)) (q _ _ _ ((S3.row G3 hr ro rn).wle (by omega)) ?_)
    unfold mus
    rw [List.map_append, List.map_append (l₁ := L1 ++ [y]), List.map_append, List.map_cons, List.map_nil, List.map_cons, List.map_nil, List.map_cons, List.map_nil, sum_snoc, sum_snoc, sum_snoc]
    have : 1 ≤ x.mu := by unfold Frm.mu; split <;> omega
    have e : Frm.mu { y with rows := y.rows ++ [r] } = y.mu := rfl
    rw [e]
    omega
  have xl : L1.length + 1 + nests x.rows ≤ 8 := by have := xn.1; rw [List.length_append, List.length_singleton] at this; omega
  have yl : L1.length + 2 ≤ 8 := by have := S.len.2; simp only [List.length_append, List.length_singleton] at this; omega
  have j1 : ∀ (H3 : Hp) (xs3 : List V) (rows3 : List Rw), Stk K H0 H3 st ns (L1 ++ [y]) (W - x.w) → H3 x.a = some (.lst [.str "while", vf, .ref x.r, .bl x.sec, ve]) → H3 x.r = some (.lst xs3) → BkAt K (SqT K) H3 xs3 rows3 → FmAt K H3 vf x.f → oks ns rows3 →
      szs rows3 ≤ szs x.rows + 1 → nests rows3 ≤ max (nests x.rows) 1 → t_law_closed_j1 K { nx := fun _ H' => Q .non H', rt := Q } [some (.ref st), some (.ref x.a)] H3 := by
    intro H3 xs3 rows3 S3 h1 h2 h3 h4 h5 h6 h7
    unfold t_law_closed_j1
    obtain ⟨vf3, ve3, zs, G3⟩ := S3.fr y hy0
    have hst3 := S3.hs
    have gy := G3.ha
    have gr := G3.hr
    walk_at "go"
    refine w_ixL (SqL.of hst3) at_last ?_
    walk_at "go"
    refine w_tupL (SqL.of h2) (fun t1 ht1 => ?_)
    walk_at "go"
    refine w_new (by walk_at "sz") (fun T hT => ?_)
    have e1 := same_new (o := .tup xs3) ht1
    have e12 := e1.trans (same_new (o := .tup [.str "while", vf, .ref t1]) hT)
    refine close _ T (.whl x.f rows3) vf3 ve3 zs (S3.mono e12) (G3.moves (SameT.of e12) ((e12 _ _ gy).trans gy.symm) ((e12 _ _ gr).trans gr.symm))
      (.whl (SqT.of upd_same) (h4.mono e12) (sameT_t (SameT.of (same_new hT)) (SqT.of upd_same)) (h3.monoT (SameT.of e12))) ⟨xok.2.1 hxk, h5⟩ ?_ ?_
    · show 1 + szs rows3 ≤ szs x.rows + elSz x.els + 2
      omega
    · show 1 + nests rows3 + L1.length ≤ 8
      omega
  have other : ∀ (H2 : Hp) (xs2 xs3 : List V) (l : List Rw), Stk K H0 H2 st ns (L1 ++ [y]) (W - x.w) → H2 x.r = some (.lst xs2) → BkAt K (SqT K) H2 xs2 l → Stk K H0 (upd H2 x.r (.lst xs3)) st ns (L1 ++ [y]) (W - x.w) := fun H2 xs2 xs3 l S2 h hb =>
    S2.other x0 h xrs (fun z hz => (S2.fr z hz).ne h hb) rne
  rcases Nat.lt_or_ge x.kd 2 with k2 | k2
  · -- an if
    have k1 : x.kd = 1 := by omega
    have hk1 : kdT x.kd = "if" := by rw [k1] <;> rfl
    rw [hk1] at hst1
    have gxr := G.hr
    cases hel : x.els with
    | none =>
      have hve : ve = .non := by have := G.he; rw [hel] at this; exact this
      subst hve
      walk_at "go"
      refine w_new (by walk_at "sz") (fun r' hr' => ?_)
      have e1 := same_new (o := .lst []) hr'
      have a1 := e1 _ _ hst1
      have g1 := e1 _ _ gxr
      have r1 : upd H1 r' (.lst []) r' = _ := upd_same
      generalize upd H1 r' (.lst []) = H2 at e1 a1 g1 r1
      walk_at "go"
      refine w_tupL (SqL.of g1) (fun t1 ht1 => ?_)
      have e2 := same_new (o := .tup xs) ht1
      have t2 : upd H2 t1 (.tup xs) t1 = _ := upd_same
      have r2 := e2 _ _ r1
      generalize upd H2 t1 (.tup xs) = H3 at e2 t2 r2
      walk_at "go"
      refine w_new (by walk_at "sz") (fun F hF => ?_)
      have e3 := same_new (o := .lst [.str "if", vf, .ref r', .bl x.sec, .ref t1]) hF
      have f3 : upd H3 F (.lst [.str "if", vf, .ref r', .bl x.sec, .ref t1]) F = _ := upd_same
      have r3 := e3 _ _ r2
      have t3 := sameT_t (K := K) (SameT.of e3) (SqT.of t2)
      generalize upd H3 F (.lst [.str "if", vf, .ref r', .bl x.sec, .ref t1]) = H4 at e3 f3 r3 t3
      have e14 := e1.trans (e2.trans e3)
      have S4 := S1.mono e14
      have P := S4.push (x := { x with a := F, r := r', rows := [], els := some x.rows }) ⟨vf, .ref t1, [], by show H4 F = some (.lst [.str (kdT x.kd), vf, .ref r', .bl x.sec, .ref t1]); rw [hk1]; exact f3, r3, .nil, fun c => absurd (show x.kd = 0 from c) hxk, fun _ => hf.mono e14, t1, xs, rfl, t3, G.hb.monoT (SameT.of e14)⟩
        (none_of S1.same hr') (ne_of_none hst hr').symm (fun z hz => by obtain ⟨_, _, _, Gz⟩ := S1.fr z hz; exact ne_of_none Gz.hr hr') hxk ⟨trivial, xok.2.1, fun b hb => by rw [← Option.some.inj hb]; exact xok.1⟩
        (by rw [List.length_append, List.length_singleton]; omega) (by rw [List.length_append, List.length_singleton]; show 0 + _ ≤ 8; omega) (fun b hb => by rw [← Option.some.inj hb, List.length_append, List.length_singleton]; omega)
      have xw : x.w = szs x.rows + 2 := by unfold Frm.w; rw [hel]; show szs x.rows + 0 + 2 = _; omega
      have xw' : Frm.w { x with a := F, r := r', rows := [], els := some x.rows } = szs x.rows + 2 := by show 0 + szs x.rows + 2 = _; omega
      refine w_app S4.hs (Nat.lt_of_le_of_lt (by rw [List.length_map, List.length_append, List.length_singleton]; omega : _ ≤ 8) (by decide)) (q _ _ _ (P.wle (by omega)) ?_)
      unfold mus
      rw [List.map_append, List.map_append (l₂ := [x]), List.map_cons, List.map_nil, List.map_cons (a := x), List.map_nil, sum_snoc, sum_snoc]
      have m1 : x.mu = 2 := by unfold Frm.mu; rw [if_pos ⟨k1, hel⟩]
      have m2 : Frm.mu { x with a := F, r := r', rows := [], els := some x.rows } = 1 := by unfold Frm.mu; rw [if_neg (fun c => nomatch c.2)]
      omega
    | some b =>
      obtain ⟨p, ys, rfl, hp, hpb⟩ : ElAt K H1 ve (some b) := by have := G.he; rw [hel] at this; exact this
      obtain ⟨vf3, ve3, zs, G3⟩ := S1.fr y hy0
      have gy := G3.ha
      have gr := G3.hr
      walk_at "go"
      refine w_ixL (SqL.of hst) at_last ?_
      walk_at "go"
      refine w_tupL (SqL.of gxr) (fun t1 ht1 => ?_)
      walk_at "go"
      refine w_new (by walk_at "sz") (fun T hT => ?_)
      have e1 := same_new (o := .tup xs) ht1
      have e12 := e1.trans (same_new (o := .tup [.str "if", vf, .ref p, .ref t1]) hT)
      have bn := xn.2.1 b hel
      rw [List.length_append, List.length_singleton] at bn
      have xw : x.w = szs x.rows + szs b + 2 := by unfold Frm.w; rw [hel] <;> rfl
      refine close _ T (.ite x.f b x.rows) vf3 ve3 zs (S1.mono e12) (G3.moves (SameT.of e12) ((e12 _ _ gy).trans gy.symm) ((e12 _ _ gr).trans gr.symm))
        (.ite (SqT.of upd_same) (hf.mono e12) (sameT_t (SameT.of e12) hp) (hpb.monoT (SameT.of e12)) (sameT_t (SameT.of (same_new hT)) (SqT.of upd_same)) (G.hb.monoT (SameT.of e12))) ⟨xok.2.1 hxk, xok.2.2 b hel, xok.1⟩ ?_ ?_
      · show 1 + (szs b + szs x.rows) ≤ x.w
        omega
      · show 1 + max (nests b) (nests x.rows) + L1.length ≤ 8
        omega
  · -- a while
    have hk : kdT x.kd = "while" := by
      match h : x.kd with
      | 0 => rw [h] at k2; omega
      | 1 => rw [h] at k2; omega
      | _ + 2 => rfl
    rw [hk] at hst1
    have gxr := G.hr
    have base := j1 H1 xs x.rows S1 hst1 gxr G.hb hf xok.1 (by omega) (by omega)
    -- name < ..: one more row
    cases hx1 : x.f with
    | num i =>
      rw [hx1] at hf
      cases hf with
      | num hq => walk_at "go"; exact base
    | nam i =>
      rw [hx1] at hf
      cases hf with
      | nam hq => walk_at "go"; exact base
    | op s f1 f2 =>
      have hff := hf
      rw [hx1] at hf
      cases hf with
      | op hq hu hv =>
        walk_at "go"
        refine w_two (fun c1 => ?_) (fun c1 => ?_)
        · cases hu with
          | num hq1 => walk_at "go"; exact base
          | @op pu s2 u1 v1 g1 g2 hq1 hu1 hv1 =>
            have sn := sg_nam s2
            walk_at "go"
            exact base
          | @nam pu z hq1 =>
            walk_at "go"
            refine w_new (by walk_at "sz") (fun n1 hn1 => ?_)
            walk_at "go"
            refine w_new (by walk_at "sz") (fun n2 hn2 => ?_)
            walk_at "go"
            refine w_new (by walk_at "sz") (fun n3 hn3 => ?_)
            have d1 := same_new (o := .tup [.str "number", .int 1]) hn1
            have d2 := same_new (o := .tup [.str "+", .ref pu, .ref n1]) hn2
            have d3 := same_new (o := .tup [.str "set", .str z, .ref n2]) hn3
            have d13 := d1.trans (d2.trans d3)
            have y3 := SqT.of (K := K) (upd_same (H := upd (upd H1 n1 (.tup [.str "number", .int 1])) n2 (.tup [.str "+", .ref pu, .ref n1])) (a := n3) (o := .tup [.str "set", .str z, .ref n2]))
            have y2 := same_t d3 (SqT.of (K := K) (upd_same (H := upd H1 n1 (.tup [.str "number", .int 1])) (a := n2) (o := .tup [.str "+", .ref pu, .ref n1])))
            have y1 := same_t (d2.trans d3) (SqT.of (K := K) (upd_same (H := H1) (a := n1) (o := .tup [.str "number", .int 1])))
            generalize upd (upd (upd H1 n1 (.tup [.str "number", .int 1])) n2 (.tup [.str "+", .ref pu, .ref n1])) n3 (.tup [.str "set", .str z, .ref n2]) = H4 at d13 y1 y2 y3
            have g4 := d13 _ _ gxr
            have hz : z ∈ ns := by have := (xok.2.1 hxk).1; rw [hx1] at this; exact this.1
            have b1 : szs x.rows ≤ x.w := by unfold Frm.w; omega
            have b3 := szs_len x.rows
            have b4 := G.hb.len
            have xne := FrAt.ne ⟨_, ve, xs, G⟩ G.hr G.hb
            have hr4 : RwAt K (SqT K) H4 (.ref n3) (.set z (.op .add (.nam z) (.num 1))) := .set y3 (.op (s := .add) y2 (.nam (same_t d13 hq1)) (.num y1))
            have eT : SameT H4 (upd H4 x.r (.lst (xs ++ [.ref n3]))) := SameT.upd g4 rfl
            have eT1 := (SameT.of d13).trans eT
            walk_at "go"
            refine w_app g4 (Nat.lt_of_le_of_lt (by omega : xs.length ≤ 1000) (by decide)) ?_
            refine j1 _ (xs ++ [.ref n3]) (x.rows ++ [.set z (.op .add (.nam z) (.num 1))]) (other H4 xs _ x.rows (S1.mono d13) g4 (G.hb.monoT (SameT.of d13))) ((upd_ne xne).trans (d13 _ _ hst1)) upd_same ((G.hb.monoT eT1).app (BkAt.one (hr4.monoT eT)))
              (by rw [hx1]; rw [hx1] at hff; exact hff.monoT eT1) (oks_app (b := [.set z (.op .add (.nam z) (.num 1))]) xok.1 ⟨⟨hz, ⟨⟨hz, by decide, by decide⟩, show 2 ≤ 12 from by decide⟩⟩, trivial⟩) ?_ ?_
            · rw [szs_app]; exact Nat.le_refl _
            · rw [nests_app]; exact Nat.le_refl _
        · walk_at "go"
          exact base
local macro_rules | `(tactic| walk_at "pv") => `(tactic| (intro Qp qp; walk_at "go"; exact qp))
theorem root_ok : PyData.strOk ("" : Str) = true := by decide +kernel
theorem kdT_ok (k : Nat) : PyData.strOk (kdT k) = true := by
  match k with
  | 0 => exact root_ok
  | 1 => exact if_ok
  | _ + 2 => exact while_ok
theorem frs_dp {K : PySem.W.Frag} {H : Hp} {ns : List Str} (hn : ∀ x ∈ ns, Nm x) : ∀ {L : List Frm}, (∀ x ∈ L, FrAt K H x) → (∀ x ∈ L, oks ns x.rows ∧ (x.kd ≠ 0 → x.f.fine ns) ∧ ∀ b, x.els = some b → oks ns b) → (∀ x ∈ L, nests x.rows ≤ 8 ∧ ∀ b, x.els = some b → nests b ≤ 8) →
    ∃ ds, DpAll K H (L.map fun x => .ref x.a) ds ∧ ∀ d ∈ ds, Dk d 40
  | [], _, _, _ => ⟨[], .nil, dk_nil⟩
  | x :: L, h1, h2, h3 => by
    obtain ⟨ds, i1, i2⟩ := frs_dp hn (L := L) (fun y hy => h1 y (List.mem_cons_of_mem _ hy)) (fun y hy => h2 y (List.mem_cons_of_mem _ hy)) fun y hy => h3 y (List.mem_cons_of_mem _ hy)
    obtain ⟨vf, ve, xs, G⟩ := h1 x List.mem_cons_self
    have o := h2 x List.mem_cons_self
    have n := h3 x List.mem_cons_self
    have df : ∃ d, Dp K H vf d ∧ Dk d 30 := by
      rcases Nat.eq_zero_or_pos x.kd with k | k
      · rw [G.f0 k]; exact ⟨_, .non, Dk.non⟩
      · have c : x.kd ≠ 0 := by omega
        have q := o.2.1 c
        exact ⟨_, (G.f1 c).dp, (Fm.dk hn q.1).mono (Nat.le_trans q.2 (by decide))⟩
    have de : ∃ d, Dp K H ve d ∧ Dk d 30 := by
      have he := G.he
      cases e : x.els with
      | none => rw [e] at he; rw [show ve = .non from he]; exact ⟨_, .non, Dk.non⟩
      | some b =>
        rw [e] at he
        obtain ⟨p, ys, rfl, hp, hb⟩ := he
        exact ⟨_, .tup hp (hb.dp tupB), Dk.tup fun d hd => (pds_dk hn tupD (o.2.2 b e) d hd).mono (by have := n.2 b e; omega)⟩
    obtain ⟨d1, f1, f2⟩ := df
    obtain ⟨d2, g1, g2⟩ := de
    exact ⟨_, .cons (.lst (SqL.of G.ha) (.cons (.str _) (.cons f1 (.cons (.lst (SqL.of G.hr) (G.hb.dp tupB)) (.cons (.bl _) (.cons g1 .nil)))))) i1,
      dk_cons (Dk.list (k := 39) (dk_cons (Dk.str (kdT_ok _)) (dk_cons (f2.mono (by decide)) (dk_cons ((Dk.list fun d hd => (pds_dk hn tupD o.1 d hd)).mono (by have := n.1; omega)) (dk_cons Dk.bl (dk_cons (g2.mono (by decide)) dk_nil)))))) i2⟩
theorem sl5 {ns : List Str} : cutV (ns.map V.str) none (some 5) = (ns.take 5).map V.str ∧ cutV (ns.map V.str) (some 5) none = (ns.drop 5).map V.str := ⟨cut_lo (k := 5), cut_hi (k := 5)⟩
theorem pure_law_put (K : PySem.W.Frag) (vs : List V) (H : Hp) (Q : VK) (E : XK) (h : sp_law_put K vs H Q E) :
    t_law_put K { nx := fun _ H' => Q .non H', rt := Q } (start N_law_put vs) H := by
  obtain ⟨H0, st, a, ns, L, W, m, o, rfl, S, hA, hT, o0, o2, hW, q⟩ := h
  have hne : L ≠ [] := fun e => by have := S.len.1; rw [e] at this; simp at this
  have lst_put : ∀ (M : List Frm) (x : Frm), L = M ++ [x] → ∀ (H7 : Hp) (T : Addr) (r : Rw), Stk K H0 H7 st ns L W → RwAt K (SqT K) H7 (.ref T) r → r.ok ns → r.nest = 1 → r.size = 1 → ∀ vf ve xs, FrIn K H7 x vf ve xs → rAppend (.ref x.r) [.ref T] H7 (fun _ H8 => Q .non H8) := by
    rintro M x rfl H7 T r S7 hr ro rn rs vf ve xs G
    have b1 : szs x.rows ≤ x.w := by unfold Frm.w; omega
    have b2 : x.w ≤ W := Nat.le_trans (sum_le (List.mem_map.mpr ⟨x, List.mem_append_right _ (List.mem_singleton.mpr rfl), rfl⟩)) S7.w
    have b3 := szs_len x.rows
    have b4 := G.hb.len
    have ml := S7.len.2
    rw [List.length_append, List.length_singleton] at ml
    exact w_app G.hr (Nat.lt_of_le_of_lt (by omega : xs.length ≤ 1000) (by decide)) (q _ _ _ ((S7.row G hr ro (by omega)).wle (by omega)))
  have push : ∀ (H7 : Hp) (kd : Nat) (u : V) (f : Fm) (b : Bool) (r F : Addr), Stk K H0 H7 st ns L W → FmAt K H7 u f → f.fine ns → kd ≠ 0 → L.length < 8 → H7 r = none → upd H7 r (.lst []) F = none →
      rAppend (.ref st) [.ref F] (upd (upd H7 r (.lst [])) F (.lst [.str (kdT kd), u, .ref r, .bl b, .non])) (fun _ H8 => Q .non H8) := by
    intro H7 kd u f b r F S7 hf ff hk hl hr hF
    have e1 := same_new (o := .lst []) hr
    have e2 := same_new (o := .lst [.str (kdT kd), u, .ref r, .bl b, .non]) hF
    have S9 := S7.mono (e1.trans e2)
    have P := S9.push (x := ⟨F, r, kd, f, [], b, none⟩) ⟨u, .non, [], upd_same, e2 _ _ upd_same, .nil, fun c => absurd c hk, fun _ => hf.mono (e1.trans e2), rfl⟩
      (none_of S7.same hr) (ne_of_none S7.hs hr).symm (fun z hz => by obtain ⟨_, _, _, Gz⟩ := S7.fr z hz; exact ne_of_none Gz.hr hr) hk ⟨trivial, fun _ => ff, fun b hb => nomatch hb⟩ hl (by show 0 + L.length ≤ 8; omega) (fun b hb => nomatch hb)
    exact w_app S9.hs (Nat.lt_of_le_of_lt (by rw [List.length_map]; omega : _ ≤ 8) (by decide)) (q _ _ _ (P.wle (Nat.le_refl _)))
  unfold t_law_put
  walk_at "go"
  refine w_lc ?_
  walk_at "go"
  refine w_isL (SqL.of S.hs) (fun D hD => ?_)
  refine lc_filter (ys := L) (fun x => x.sec) (fun x => .ref x.a) (SqL.of S.hs) (Nat.le_trans S.len.2 (by decide)) hD ?_ ?_
  · rintro x H5 Nx hx e5 ⟨zs, hzs⟩ yes no
    refine ⟨rfl, ?_⟩
    obtain ⟨vf, ve, xs, G⟩ := (S.mono e5).fr x hx
    have ga := G.ha
    walk_at "go"
    refine w_two (fun c => ?_) (fun c => ?_)
    · walk_at "go"
      exact yes c _ (Same.refl _)
    · exact no c _ (Same.refl _)
  · intro H5 e5 hD5
    walk_at "go"
    refine w_new (by walk_at "sz") (fun p hp => ?_)
    have e6 := e5.trans (same_new (o := .lst []) hp)
    have S6 := S.mono e6
    obtain ⟨ds, dd, dk⟩ := frs_dp hT.nm (L := L.filter fun x => x.sec) (fun x hx => S6.fr x (List.mem_filter.mp hx).1) (fun x hx => S6.ok x (List.mem_filter.mp hx).1) (fun x hx => by
      obtain ⟨i, hi⟩ := List.getElem?_of_mem (List.mem_filter.mp hx).1
      have := S6.nest i x hi
      exact ⟨by omega, fun b hb => by have := this.2.1 b hb; omega⟩)
    refine w_neD (.lst (SqL.of ((same_new hp) _ _ hD5)) dd) (.lst (SqL.of upd_same) .nil) ((Dk.list dk).shaped (by decide)) ((Dk.list (k := 0) dk_nil).shaped (by decide)) ?_
    generalize (!PyData.eqv (.list ds) (.list [])) = d
    generalize upd H5 p (.lst []) = H6 at e6 S6
    walk_at "go"
    refine ⟨a, ns, m, d, o, rfl, same_l S6.same hA, hT, fun p1 H7 u f b e7 hp1 hf ho hd => ?_⟩
    have S7 := S6.mono e7
    have hA7 := same_l S7.same hA
    have ff : f.fine ns := ⟨ho, by omega⟩
    obtain ⟨M, x, hLx⟩ := snoc_of hne
    have hst : H7 st = some (.lst ((M ++ [x]).map fun x => V.ref x.a)) := by rw [← hLx]; exact S7.hs
    have hxL : x ∈ L := by rw [hLx]; exact List.mem_append_right _ (List.mem_singleton.mpr rfl)
    obtain ⟨vf, ve, xs, G⟩ := S7.fr x hxL
    have ga := G.ha
    have gr := G.hr
    have j1 : ∀ (way : Int) (sh : Bool) (H8 : Hp) (z : Addr) (zs : List Str), Same H7 H8 → SqL K H8 z (zs.map V.str) → List.Sublist zs ns → 0 < zs.length →
        t_law_put_j1 K { nx := fun _ H' => Q .non H', rt := Q } [some (.ref st), some (.ref a), some (.int m), some (.int o), some (.int way), some (.bl d), none, some u, some (.bl b), some (.bl sh), some (.ref z)] H8 := by
      intro way sh H8 z zs e8 hz sl pos
      unfold t_law_put_j1
      have ga8 := e8 _ _ ga
      have gr8 := e8 _ _ gr
      walk_at "go"
      refine w_ixL (SqL.of (e8 _ _ hst)) at_last ?_
      walk_at "go"
      have pm : (0 : Int) < ((zs.map V.str).length : Nat) := by rw [List.length_map]; omega
      refine w_mod pm ?_
      have mm := mod_in (m / 96) pm
      rw [List.length_map] at mm
      obtain ⟨y, ym, _, hy⟩ := at_map (f := V.str) (xs := zs) mm.1 mm.2
      refine w_ixL hz (by rw [List.length_map]; exact hy) ?_
      walk_at "go"
      refine w_new (by walk_at "sz") (fun T hT1 => ?_)
      have e9 := e8.trans (same_new (o := .tup [.str "set", .str y, u]) hT1)
      exact lst_put M x hLx _ T (.set y f) (S7.mono e9) (.set (SqT.of upd_same) (hf.mono e9)) ⟨sl.subset ym, ff⟩ rfl rfl vf ve xs (G.moves (SameT.of e9) ((e9 _ _ ga).trans ga.symm) ((e9 _ _ gr).trans gr.symm))
    have j3 : ∀ (way : Int) (sh : Bool) (w10 : Unit) (H8 : Hp), Same H7 H8 → t_law_put_j3 K { nx := fun _ H' => Q .non H', rt := Q } [some (.ref st), some (.ref a), some (.int m), some (.int o), some (.int way), some (.bl d), none, some u, some (.bl b), some (.bl sh), none] H8 := by
      intro way sh _ H8 e8
      unfold t_law_put_j3
      have S8 := S7.mono e8
      have hA8 := same_l S8.same hA
      have ga8 := e8 _ _ ga
      have gr8 := e8 _ _ gr
      have hst8 := e8 _ _ hst
      have hf8 := hf.mono e8
      have hlen : ((M ++ [x]).map fun x => V.ref x.a).length = L.length := by rw [hLx, List.length_map]
      walk_at "go"
      refine w_two (fun _ => ?_) (fun _ => ?_)
      · walk_at "go"
        refine w_slL hA8 (fun p2 hp2 => ?_)
        rw [sl5.1]
        have f1 := same_new (o := .lst ((ns.take 5).map V.str)) hp2
        have q2 : upd H8 p2 (.lst ((ns.take 5).map V.str)) p2 = _ := upd_same
        generalize upd H8 p2 (.lst ((ns.take 5).map V.str)) = H9 at f1 q2
        have hA9 := same_l f1 hA8
        walk_at "go"
        refine w_slL hA9 (fun p3 hp3 => ?_)
        rw [sl5.2]
        have f2 := same_new (o := .lst ((ns.drop 5).map V.str)) hp3
        have q3 : upd H9 p3 (.lst ((ns.drop 5).map V.str)) p3 = _ := upd_same
        have q23 := f2 _ _ q2
        generalize upd H9 p3 (.lst ((ns.drop 5).map V.str)) = H10 at f2 q3 q23
        walk_at "go"
        refine w_new (by walk_at "sz") (fun p4 hp4 => ?_)
        have f3 := same_new (o := .lst [.ref p2, .ref p3]) hp4
        have q4 : upd H10 p4 (.lst [.ref p2, .ref p3]) p4 = _ := upd_same
        have q33 := f3 _ _ q3
        have q24 := f3 _ _ q23
        generalize upd H10 p4 (.lst [.ref p2, .ref p3]) = H11 at f3 q4 q33 q24
        walk_at "go"
        have pick : ∃ (w : Addr) (ws : List Str), atI [V.ref p2, V.ref p3] (if decide (m / 7 % 4 = 3) = true then 1 else 0) = some (.ref w) ∧ H11 w = some (.lst (ws.map V.str)) ∧ List.Sublist ws ns ∧ 0 < ws.length := by
          cases decide (m / 7 % 4 = 3) with
          | true => exact ⟨p3, _, rfl, q33, List.drop_sublist _ _, by rw [List.length_drop, hT.len]; decide⟩
          | false => exact ⟨p2, _, rfl, q24, List.take_sublist _ _, by rw [List.length_take, hT.len]; decide⟩
        obtain ⟨w, ws, hw1, hw2, hw3, hw4⟩ := pick
        refine w_ixL (SqL.of q4) hw1 ?_
        walk_at "go"
        refine w_new (by walk_at "sz") (fun p5 hp5 => ?_)
        have f4 := same_new (o := .lst [.ref a, .ref a, .ref w]) hp5
        have q5 : upd H11 p5 (.lst [.ref a, .ref a, .ref w]) p5 = _ := upd_same
        have hw5 := f4 _ _ hw2
        generalize upd H11 p5 (.lst [.ref a, .ref a, .ref w]) = H12 at f4 q5 hw5
        have f14 : Same H8 H12 := f1.trans (f2.trans (f3.trans f4))
        have hA12 := same_l f14 hA8
        have pick2 : ∃ (z : Addr) (zs : List Str), atI [V.ref a, V.ref a, V.ref w] o = some (.ref z) ∧ SqL K H12 z (zs.map V.str) ∧ List.Sublist zs ns ∧ 0 < zs.length := by
          have c : o = 0 ∨ o = 1 ∨ o = 2 := by omega
          rcases c with rfl | rfl | rfl
          · exact ⟨a, ns, rfl, hA12, List.Sublist.refl _, by rw [hT.len]; decide⟩
          · exact ⟨a, ns, rfl, hA12, List.Sublist.refl _, by rw [hT.len]; decide⟩
          · exact ⟨w, ws, rfl, SqL.of hw5, hw3, hw4⟩
        obtain ⟨z, zs, hz1, hz2, hz3, hz4⟩ := pick2
        walk_at "go"
        refine w_ixL (SqL.of q5) hz1 ?_
        walk_at "go"
        cases sh with
        | true =>
          walk_at "go"
          refine w_slL hA12 (fun p6 hp6 => ?_)
          rw [sl5.2]
          walk_at "go"
          exact j1 way true _ p6 (ns.drop 5) (e8.trans (f14.trans (same_new hp6))) (SqL.of upd_same) (List.drop_sublist _ _) (by rw [List.length_drop, hT.len]; decide)
        | false =>
          walk_at "go"
          exact j1 way false _ z zs (e8.trans f14) hz2 hz3 hz4
      · refine w_if (w_andP (c := decide (way = 4)) (d := !sh) (by walk_at "pv") (by walk_at "pv") ?_)
        refine w_two (fun _ => ?_) (fun _ => ?_)
        · walk_at "go"
          refine w_ixL (SqL.of hst8) at_last ?_
          walk_at "go"
          refine w_new (by walk_at "sz") (fun T hT1 => ?_)
          have e9 := e8.trans (same_new (o := .tup [.str "tell", u]) hT1)
          exact lst_put M x hLx _ T (.tell f) (S7.mono e9) (.tell (SqT.of upd_same) (hf.mono e9)) ff rfl rfl vf ve xs (G.moves (SameT.of e9) ((e9 _ _ ga).trans ga.symm) ((e9 _ _ gr).trans gr.symm))
        walk_at "go"
        refine w_two (fun _ => ?_) (fun _ => ?_)
        · walk_at "go"
          refine w_ixL (SqL.of hst8) at_last ?_
          walk_at "go"
          refine w_new (by walk_at "sz") (fun T hT1 => ?_)
          have e9 := e8.trans (same_new (o := .tup [.str "skip"]) hT1)
          exact lst_put M x hLx _ T .skip (S7.mono e9) (.skip (SqT.of upd_same)) trivial rfl rfl vf ve xs (G.moves (SameT.of e9) ((e9 _ _ ga).trans ga.symm) ((e9 _ _ gr).trans gr.symm))
        refine w_if (w_andP (c := decide (way < 8)) (d := decide ((((M ++ [x]).map fun x => V.ref x.a).length : Int) < 8)) (by walk_at "pv") (by walk_at "pv") ?_)
        refine w_two (fun c => ?_) (fun _ => ?_)
        · have c := of_decide_eq_true (Bool.and_eq_true_iff.mp c).2
          rw [hlen] at c
          walk_at "go"
          refine w_new (by walk_at "sz") (fun r' hr' => ?_)
          walk_at "go"
          refine w_new (by walk_at "sz") (fun F hF => ?_)
          walk_at "go"
          exact push H8 1 u f b r' F S8 hf8 ff (by decide) (by omega) hr' hF
        refine w_if (w_andP (c := decide (way < 10)) (d := decide ((((M ++ [x]).map fun x => V.ref x.a).length : Int) < 8) && !sh) (by walk_at "pv") (fun Qp qp => w_andP (by walk_at "pv") (by walk_at "pv") qp) ?_)
        refine w_two (fun c => ?_) (fun _ => ?_)
        · have c := of_decide_eq_true (Bool.and_eq_true_iff.mp (Bool.and_eq_true_iff.mp c).2).1
          rw [hlen] at c
          have j2 : ∀ (H9 : Hp) (u' : V) (f' : Fm), Same H8 H9 → FmAt K H9 u' f' → f'.fine ns →
              t_law_put_j2 K { nx := fun _ H' => Q .non H', rt := Q } [some (.ref st), some (.ref a), some (.int m), some (.int o), some (.int way), some (.bl d), none, some u', some (.bl b), some (.bl sh), none] H9 := by
            intro H9 u' f' e9 hf9 ff9
            unfold t_law_put_j2
            have S9 := S8.mono e9
            have hst9 := e9 _ _ hst8
            walk_at "go"
            refine w_new (by walk_at "sz") (fun r' hr' => ?_)
            walk_at "go"
            refine w_new (by walk_at "sz") (fun F hF => ?_)
            walk_at "go"
            exact push H9 2 u' f' b r' F S9 hf9 ff9 (by decide) (by omega) hr' hF
          refine w_seq (w_if (w_andP (c := decide (o = 0)) (d := decide (0 < m / 96 % 4)) (by walk_at "pv") (by walk_at "pv") ?_))
          refine w_two (fun _ => ?_) (fun _ => ?_)
          · walk_at "go"
            have m5 := mod_in (m / 384) (show (0 : Int) < 5 by decide)
            have m4 := mod_in (m / 1920) (show (0 : Int) < 4 by decide)
            obtain ⟨y, ym, _, hy⟩ := at_map (f := V.str) (xs := ns) m5.1 (by rw [hT.len]; omega)
            refine w_ixL hA8 hy ?_
            walk_at "go"
            refine w_new (by walk_at "sz") (fun n1 hn1 => ?_)
            walk_at "go"
            refine w_new (by walk_at "sz") (fun n2 hn2 => ?_)
            walk_at "go"
            refine w_new (by walk_at "sz") (fun n3 hn3 => ?_)
            walk_at "go"
            have d1 := same_new (o := .tup [.str "name", .str y]) hn1
            have d2 := same_new (o := .tup [.str "number", .int (1 + m / 1920 % 4)]) hn2
            have d3 := same_new (o := .tup [.str "<", .ref n1, .ref n2]) hn3
            exact j2 _ _ (.op .lt (.nam y) (.num (1 + m / 1920 % 4))) (d1.trans (d2.trans d3)) (.op (s := .lt) (SqT.of upd_same) (.nam (same_t (d2.trans d3) (SqT.of upd_same))) (.num (same_t d3 (SqT.of upd_same)))) ⟨⟨ym, by omega, by omega⟩, show 2 ≤ 12 from by decide⟩
          · walk_at "go"
            exact j2 H8 u f (Same.refl _) hf8 ff
        walk_at "go"
        refine w_two (fun c => ?_) (fun _ => ?_)
        · have c := of_decide_eq_true c
          rw [hlen] at c
          walk_at "go"
          exact ⟨H0, st, ns, L, W, rfl, S8, by omega, hW, fun v H9 L' S9 _ => q _ _ _ (S9.wle (by omega))⟩
        · walk_at "go"
          exact q _ _ _ (S8.wle (by omega))
    walk_at "go"
    have sh : ∀ (s : Bool), tSeq (tIfS (tTest (tOp (rEq2 K) (tVar 3) (tC (.int 2)))) (tAsg (tOp (rIx K) (tLst (tCons (tC (.int 0)) (tCons (tC (.int 4)) (tCons (tC (.int 8)) (tCons (tC (.int 0)) tNil))))) (tOp rMod (tOp rDiv (tVar 2) (tC (.int 7))) (tC (.int 4)))) (gName 4)) tNext) (t_law_put_j3 K) { nx := fun _ H' => Q .non H', rt := Q }
        [some (.ref st), some (.ref a), some (.int m), some (.int o), some (.int (m % 12)), some (.bl d), none, some u, some (.bl b), some (.bl s), none] H7 := by
      intro s
      walk_at "go"
      refine w_two (fun _ => ?_) (fun _ => ?_)
      · walk_at "go"
        refine w_new (by walk_at "sz") (fun p5 hp5 => ?_)
        walk_at "go"
        have m4 := mod_in (m / 7) (show (0 : Int) < 4 by decide)
        obtain ⟨z, zm, _, hz⟩ := at_map (f := V.int) (xs := [0, 4, 8, 0]) m4.1 m4.2
        refine w_ixL (SqL.of upd_same) hz ?_
        exact j3 z s () _ (same_new hp5)
      · walk_at "go"
        exact j3 (m % 12) s () H7 (Same.refl _)
    refine w_two (fun _ => ?_) (fun _ => ?_)
    · walk_at "go"
      cases d with
      | true => walk_at "go1"; exact sh _
      | false => walk_at "go1"; walk_at "go1"; exact sh _
    · exact sh _
theorem Stk.init {K : PySem.W.Frag} {H H' : Hp} {ns : List Str} {st a r : Addr} (f : Fm) (e : Same H H') (s0 : H st = none) (r0 : H r = none) (rs : r ≠ st) (hs : H' st = some (.lst [.ref a])) (ha : H' a = some (.lst [.str "", .non, .ref r, .bl false, .non])) (hr : H' r = some (.lst [])) :
    Stk K H H' st ns [⟨a, r, 0, f, [], false, none⟩] 2 := by
  have one : ∀ x ∈ [(⟨a, r, 0, f, [], false, none⟩ : Frm)], x = ⟨a, r, 0, f, [], false, none⟩ := fun x hx => List.mem_singleton.mp hx
  refine ⟨e, s0, hs, ?_, ?_, ?_, ?_, ?_, ?_, ⟨Nat.le_refl _, show 1 ≤ 8 from by decide⟩, Nat.le_refl _⟩
  · intro x hx
    rw [one x hx]
    exact ⟨.non, .non, [], ha, hr, .nil, fun _ => rfl, fun c => absurd rfl c, rfl⟩
  · intro x hx; rw [one x hx]; exact r0
  · intro x hx; rw [one x hx]; exact rs
  · exact List.nodup_cons.mpr ⟨List.not_mem_nil, List.nodup_nil⟩
  · intro x hx
    rw [one x hx]
    exact ⟨trivial, fun c => absurd rfl c, fun b hb => nomatch hb⟩
  · intro i x hx
    cases i with
    | zero =>
      rw [← Option.some.inj hx]
      exact ⟨show 0 + 0 ≤ 8 from by decide, (fun b hb => nomatch hb), fun _ => ⟨rfl, rfl⟩, fun c => absurd c (Nat.lt_irrefl 0)⟩
    | succ i => simp at hx
theorem pure_law_block_by (K : PySem.W.Frag) (vs : List V) (H : Hp) (Q : VK) (E : XK) (h : sp_law_block_by K vs H Q E) :
    t_law_block_by K { nx := fun _ H' => Q .non H', rt := Q } (start N_law_block_by vs) H := by
  obtain ⟨c, a, cells, ns, o, rfl, hC, hcl, hA, hT, q⟩ := h
  unfold t_law_block_by
  walk_at "go"
  refine w_new (by walk_at "sz") (fun r0 hr0 => ?_)
  have e1 := same_new (o := .lst []) hr0
  have y1 : upd H r0 (.lst []) r0 = _ := upd_same
  generalize upd H r0 (.lst []) = H1 at e1 y1
  walk_at "go"
  refine w_new (by walk_at "sz") (fun a0 ha0 => ?_)
  have e2 := same_new (o := .lst [.str "", .non, .ref r0, .bl false, .non]) ha0
  have z2 : upd H1 a0 (.lst [.str "", .non, .ref r0, .bl false, .non]) a0 = _ := upd_same
  have y2 := e2 _ _ y1
  generalize upd H1 a0 (.lst [.str "", .non, .ref r0, .bl false, .non]) = H2 at e2 z2 y2
  walk_at "go"
  refine w_new (by walk_at "sz") (fun st hst => ?_)
  have e3 := same_new (o := .lst [.ref a0]) hst
  have S0 : Stk K H (upd H2 st (.lst [.ref a0])) st ns [⟨a0, r0, 0, .num 0, [], false, none⟩] 2 :=
    Stk.init (.num 0) (e1.trans (e2.trans e3)) (none_of (e1.trans e2) hst) hr0 (ne_of_none y2 hst) upd_same (e3 _ _ z2) (e3 _ _ y2)
  generalize upd H2 st (.lst [.ref a0]) = H3 at S0
  walk_at "go"
  refine ⟨c, cells.map V.int, rfl, same_l S0.same hC, for_enum (xs := cells.map V.int)
    (fun i σ H' => ∃ (L : List Frm) (w4 w5 w6 w7 : Option V), Stk K H H' st ns L (2 + 2 * i) ∧ σ = [some (.ref c), some (.ref a), some (.int o), some (.ref st), w4, w5, w6, w7])
    ⟨_, _, _, _, _, S0, rfl⟩ (fun i σ H' _ h => by obtain ⟨L, _, _, _, _, S, _⟩ := h; exact same_l S.same hC) ?_ ?_⟩
  · rintro i x σ H4 T hx hT0 ⟨L, w4, w5, w6, w7, S, rfl⟩
    have hi : i < cells.length := by have := (List.getElem?_eq_some_iff.mp hx).1; rw [List.length_map] at this; exact this
    obtain ⟨y, hy, rfl⟩ : ∃ y, cells[i]? = some y ∧ V.int y = x := by
      rw [List.getElem?_map] at hx
      cases d : cells[i]? with
      | none => rw [d] at hx; exact nomatch hx
      | some y => rw [d] at hx; exact ⟨y, rfl, Option.some.inj hx⟩
    have S5 := S.mono (same_new (o := .tup [.int (i : Nat), .int y]) hT0)
    generalize hH5 : upd H4 T (.tup [.int (i : Nat), .int y]) = H5 at S5
    have hC5 := same_l S5.same hC
    rw [← hH5]
    walk_at "go"
    rw [hH5]
    refine w_mulI (.inl ⟨by decide, by decide⟩) ?_
    walk_at "go"
    refine ⟨_, rfl, fun r1 _ _ => ?_⟩
    walk_at "go"
    refine w_mulI (.inr ⟨by omega, by omega⟩) ?_
    walk_at "go"
    refine ⟨_, rfl, fun r2 _ _ => ?_⟩
    have j1 : ∀ md : Int, 0 ≤ md → md ≤ 2 → t_law_block_by_j1 K ⟨fun σ H' => ∃ (L : List Frm) (w4 w5 w6 w7 : Option V), Stk K H H' st ns L (2 + 2 * (i + 1)) ∧ σ = [some (.ref c), some (.ref a), some (.int o), some (.ref st), w4, w5, w6, w7], Q, fun _ _ => False, fun _ _ => False⟩
        [some (.ref c), some (.ref a), some (.int o), some (.ref st), some (.int (i : Nat)), some (.int y), some (.int r2), some (.int md)] H5 := by
      intro md m0 m2
      unfold t_law_block_by_j1
      walk_at "go"
      exact ⟨H, st, a, ns, L, _, r2, md, rfl, S5, hA, hT, m0, m2, by omega, fun v H6 L' S6 => ⟨L', _, _, _, _, S6, rfl⟩⟩
    have pl : (0 : Int) < ((cells.map V.int).length : Nat) := by rw [List.length_map]; omega
    have a1 := j1 0 (by decide) (by decide)
    have a2 := j1 1 (by decide) (by decide)
    have a3 := j1 2 (by decide) (by decide)
    repeat' (first | walk_at "go1" | (refine w_two (fun _ => ?_) (fun _ => ?_)) | exact a1 | exact a2 | exact a3 | (unfold t_law_block_by_j2; skip))
  · rintro σ H4 ⟨L, w4, w5, w6, w7, S, rfl⟩
    rw [List.length_map] at S
    refine w_seq (w_while' (fun m σ H' => ∃ (L : List Frm) (w4 w5 w6 w7 : Option V), Stk K H H' st ns L (2 + 2 * cells.length) ∧ mus L = m ∧ σ = [some (.ref c), some (.ref a), some (.int o), some (.ref st), w4, w5, w6, w7]) (mus L) ⟨L, _, _, _, _, S, rfl, rfl⟩ ?_)
    rintro m σ H5 ⟨L, w4, w5, w6, w7, S, rfl, rfl⟩
    have hs5 := S.hs
    walk_at "go"
    rw [List.length_map]
    refine w_two (fun c1 => ?_) (fun c1 => ?_)
    · have c1 := of_decide_eq_true c1
      refine ⟨_, fun _ _ h => h, ?_⟩
      walk_at "go"
      exact ⟨H, st, ns, L, _, rfl, S, by omega, by omega, fun v H6 L' S6 lt => ⟨mus L', lt, L', _, _, _, _, S6, rfl, rfl⟩⟩
    · have c1 := of_decide_eq_false c1
      have l1 := S.len.1
      obtain ⟨x, rfl⟩ := list_one (show L.length = 1 by omega)
      have hx : x ∈ [x] := List.mem_singleton.mpr rfl
      obtain ⟨vf, ve, xs, G⟩ := S.fr x hx
      have hs6 : H5 st = some (.lst [.ref x.a]) := hs5
      have ga := G.ha
      walk_at "go"
      have w := S.w
      have wx : szs x.rows + elSz x.els + 2 + 0 ≤ 2 + 2 * cells.length := w
      have n := (S.nest 0 x rfl).1
      exact q x.r H5 xs x.rows S.same (S.r0 x hx) G.hr ⟨G.hb, (S.ok x hx).1, n⟩ (by omega)
def sgs : List Str := ["+", "-", "*", "/", "<", "="]
def nmB (x : Str) : Bool := decide (1 ≤ (cs x).length) && (decide ((cs x).length ≤ 8) && (!decide (x ∈ words) && ((match (cs x)[0]? with | some c => decide (c ∈ cs az) | none => false) && (cs x).all fun c => decide (c ∈ cs az) || decide (c ∈ cs n09))))
theorem az_let {c : Nat} (h : IsLet c) : c ∈ cs az := by
  rw [az_cs]
  exact List.mem_map.mpr ⟨c - 97, List.mem_range.mpr (by have := h.1; have := h.2; omega), by have := h.1; omega⟩
theorem n09_fig {c : Nat} (h : 48 ≤ c ∧ c ≤ 57) : c ∈ cs n09 := by
  rw [n09_cs]
  exact List.mem_map.mpr ⟨c - 48, List.mem_range.mpr (by omega), by omega⟩
theorem let_az {c : Nat} (h : c ∈ cs az) : IsLet c := by
  rw [az_cs] at h
  obtain ⟨i, hi, rfl⟩ := List.mem_map.mp h
  have := List.mem_range.mp hi
  exact ⟨by omega, by omega⟩
theorem fig_n09 {c : Nat} (h : c ∈ cs n09) : 48 ≤ c ∧ c ≤ 57 := by
  rw [n09_cs] at h
  obtain ⟨i, hi, rfl⟩ := List.mem_map.mp h
  have := List.mem_range.mp hi
  exact ⟨by omega, by omega⟩
theorem nm_iff {x : Str} : nmB x = true ↔ Nm x := by
  unfold nmB
  rw [Bool.and_eq_true_iff, Bool.and_eq_true_iff, Bool.and_eq_true_iff, Bool.and_eq_true_iff, List.all_eq_true]
  constructor
  · rintro ⟨h1, h2, h3, h4, h5⟩
    refine ⟨of_decide_eq_true h1, of_decide_eq_true h2, fun c hc => ?_, fun c hc => ?_, by simpa using h3⟩
    · rw [hc] at h4
      exact let_az (of_decide_eq_true h4)
    · rcases Bool.or_eq_true_iff.mp (h5 c hc) with h | h
      · exact .inl (let_az (of_decide_eq_true h))
      · exact .inr (fig_n09 (of_decide_eq_true h))
  · intro h
    refine ⟨decide_eq_true h.pos, decide_eq_true h.most, by simpa using h.nw, ?_, fun c hc => ?_⟩
    · have : 0 < (cs x).length := h.pos
      rw [List.getElem?_eq_getElem this]
      exact decide_eq_true (az_let (h.hd _ (List.getElem?_eq_getElem this)))
    · rcases h.all c hc with h | h
      · rw [decide_eq_true (az_let h), Bool.true_or]
      · rw [decide_eq_true (n09_fig h), Bool.or_true]
def SE (K : PySem.W.Frag) : SQ := fun H a xs => SqL K H a xs ∨ SqT K H a xs
theorem se_same {K : PySem.W.Frag} {H H' : Hp} (e : Same H H') {a : Addr} {xs : List V} (h : SE K H a xs) : SE K H' a xs := h.imp (same_l e) (same_t e)
theorem BkAt.monoE {K : PySem.W.Frag} {H H' : Hp} (e : Same H H') {vs : List V} {l : List Rw} (h : BkAt K (SE K) H vs l) : BkAt K (SE K) H' vs l := h.go (SameT.of e) fun _ _ => se_same e
theorem RwAt.monoE {K : PySem.W.Frag} {H H' : Hp} (e : Same H H') {v : V} {r : Rw} (h : RwAt K (SE K) H v r) : RwAt K (SE K) H' v r := h.go (SameT.of e) fun _ _ => se_same e
theorem BkAt.toE {K : PySem.W.Frag} {H : Hp} {vs : List V} {l : List Rw} (h : BkAt K (SqT K) H vs l) : BkAt K (SE K) H vs l := h.go (SameT.refl H) fun _ _ q => .inr q
theorem RwAt.toE {K : PySem.W.Frag} {H : Hp} {v : V} {r : Rw} (h : RwAt K (SqT K) H v r) : RwAt K (SE K) H v r := h.go (SameT.refl H) fun _ _ q => .inr q
def sp_is_name (K : PySem.W.Frag) : Sp := fun vs H Q _ => ∃ x : Str, vs = [.str x] ∧ x.length ≤ sizeLine ∧ Q (.bl (nmB x)) H
abbrev N_is_name : List Str := ["thing", "sign"]
def t_is_name_j1 (K : PySem.W.Frag) : TS :=
  (tSeq (tFor (iStr (tVar 0)) (gName 1) (tIfS (tAnd (tTest (tOp (rIn2 K true) (tVar 1) (tC (.str "abcdefghijklmnopqrstuvwxyz")))) (tTest (tOp (rIn2 K true) (tVar 1) (tC (.str "0123456789"))))) (tRet (tC (.bl false))) tNext)) (tRet (tC (.bl true))))
def t_is_name (K : PySem.W.Frag) : TS :=
  (tSeq (tIfS (tOr (tNot (tB (tCB (rIsi2 K) (tCons (tVar 0) (tCons (tC (.ty "str")) tNil))))) (tOr (tNot (tTest (tChain rLe rLe (tC (.int 1)) (tCB (rLenA K) (tCons (tVar 0) tNil)) (tC (.int 8))))) (tOr (tTest (tOp (rIn2 K false) (tVar 0) (tGT K (words.map V.str)))) (tTest (tOp (rIn2 K true) (tOp (rIx K) (tVar 0) (tC (.int 0))) (tC (.str "abcdefghijklmnopqrstuvwxyz"))))))) (tRet (tC (.bl false))) tNext) (t_is_name_j1 K))
local macro_rules | `(tactic| walk_at "pv") => `(tactic| (intro Qp qp; walk_at "go"; exact qp))
theorem pure_is_name (K : PySem.W.Frag) (vs : List V) (H : Hp) (Q : VK) (E : XK) (h : sp_is_name K vs H Q E) :
    t_is_name K { nx := fun _ H' => Q .non H', rt := Q } (start N_is_name vs) H := by
  obtain ⟨x, rfl, hz, q⟩ := h
  have hl : ((x.length : Nat) : Int) = ((cs x).length : Nat) := by rw [cs_len]
  have no : ∀ {b : Bool}, nmB x = b → b = false → Q (.bl false) H := fun h1 h2 => by rw [h1, h2] at q; exact q
  unfold t_is_name
  walk_at "go"
  refine w_isi (.base (.str x)) rfl ?_
  walk_at "go"
  refine w_two (fun c => ?_) (fun c => ?_)
  · have c1 := of_decide_eq_true c
    walk_at "go"
    by_cases c2 : (cs x).length ≤ 8
    · have d2 : decide (((x.length : Nat) : Int) ≤ 8) = true := decide_eq_true (by omega)
      rw [d2]
      walk_at "go"
      intro a ha
      refine w_inTxtT (xs := words) (ha H) ?_
      walk_at "go"
      refine w_two (fun c3 => ?_) (fun c3 => ?_)
      · walk_at "go"
        exact no (b := nmB x) rfl (by unfold nmB; rw [c3]; simp)
      · walk_at "go"
        have pos : 0 < (cs x).length := by omega
        refine w_ixS (i := 0) hz (c := (cs x)[0]) (atI_nat (j := 0) (List.getElem?_eq_getElem pos)) ?_
        walk_at "go"
        refine w_inSg ?_
        show ∃ k, V.bl (!decide ((cs x)[0] ∈ cs az)) = .bl k ∧ _
        have hd : (match (cs x)[0]? with | some c => decide (c ∈ cs az) | none => false) = decide ((cs x)[0] ∈ cs az) := by rw [List.getElem?_eq_getElem pos]
        walk_at "go"
        by_cases c4 : (cs x)[0] ∈ cs az
        · rw [decide_eq_true c4] at hd ⊢
          walk_at "go"
          unfold t_is_name_j1
          walk_at "go"
          refine ⟨x, rfl, for_str (x := x) (fun i σ H' => H' = H ∧ (∃ w, σ = [some (.str x), w]) ∧ ∀ c ∈ (cs x).take i, (decide (c ∈ cs az) || decide (c ∈ cs n09)) = true) ⟨rfl, ⟨_, rfl⟩, fun c hc => by simp at hc⟩ ?_ ?_⟩
          · rintro i c σ H' hc ⟨rfl, ⟨w, rfl⟩, hall⟩
            have hc' : (cs x)[i]? = some c := by rw [← hc]; exact Array.getElem?_toList
            walk_at "go"
            refine w_inSg ?_
            show ∃ k, V.bl (!decide (c ∈ cs az)) = .bl k ∧ _
            walk_at "go"
            by_cases a1 : c ∈ cs az
            · rw [decide_eq_true a1]
              walk_at "go"
              refine ⟨rfl, ⟨_, rfl⟩, fun d hd2 => ?_⟩
              rw [List.take_succ, hc'] at hd2
              rcases List.mem_append.mp hd2 with h | h
              · exact hall d h
              · rw [List.mem_singleton.mp h, decide_eq_true a1, Bool.true_or]
            · rw [decide_eq_false a1]
              walk_at "go"
              refine w_inSg ?_
              show ∃ k, V.bl (!decide (c ∈ cs n09)) = .bl k ∧ _
              walk_at "go"
              by_cases a2 : c ∈ cs n09
              · rw [decide_eq_true a2]
                walk_at "go"
                refine ⟨rfl, ⟨_, rfl⟩, fun d hd2 => ?_⟩
                rw [List.take_succ, hc'] at hd2
                rcases List.mem_append.mp hd2 with h | h
                · exact hall d h
                · rw [List.mem_singleton.mp h, decide_eq_true a2, Bool.or_true]
              · rw [decide_eq_false a2]
                walk_at "go"
                refine no (b := nmB x) rfl ?_
                have : ((cs x).all fun c => decide (c ∈ cs az) || decide (c ∈ cs n09)) = false := by
                  rw [Bool.eq_false_iff]
                  intro h
                  have := List.all_eq_true.mp h c (List.mem_of_getElem? hc')
                  rw [decide_eq_false a1, decide_eq_false a2] at this
                  exact nomatch this
                unfold nmB
                rw [this]
                simp
          · rintro σ H' ⟨rfl, ⟨w, rfl⟩, hall⟩
            walk_at "go"
            have sz : (cs x).take x.cps.size = cs x := List.take_of_length_le (by show (cs x).length ≤ _; rw [Array.length_toList]; exact Nat.le_refl _)
            rw [sz] at hall
            have e : nmB x = true := by
              unfold nmB
              rw [hd, List.all_eq_true.mpr hall, c3, decide_eq_true (show 1 ≤ (cs x).length from pos), decide_eq_true c2] <;> rfl
            rw [e] at q
            exact q
        · rw [decide_eq_false c4] at hd ⊢
          walk_at "go"
          exact no (b := nmB x) rfl (by unfold nmB; rw [hd]; simp)
    · have d2 : decide (((x.length : Nat) : Int) ≤ 8) = false := decide_eq_false (by omega)
      rw [d2]
      walk_at "go"
      exact no (b := nmB x) rfl (by unfold nmB; rw [decide_eq_false c2]; simp)
  · have c1 := of_decide_eq_false c
    walk_at "go"
    exact no (b := nmB x) rfl (by unfold nmB; rw [decide_eq_false (by omega : ¬ 1 ≤ (cs x).length)]; simp)
theorem sgs_mem (s : Sg) : decide (s.txt ∈ sgs) = true := by cases s <;> decide +kernel
theorem for_se {K : PySem.W.Frag} {a : Addr} {xs : List V} {g : TG} {tb : TS} {D : Ends} {σ : L2.St} {Hb H0 : Hp} (Pv : Nat → L2.St → Hp → Prop) (hq : SE K Hb a xs) (h0 : Pv 0 σ H0) (hl : ∀ i σ H, Pv i σ H → Same Hb H)
    (hs : ∀ i x σ H, xs[i]? = some x → Pv i σ H → g x σ H fun σ2 H2 => tb { D with nx := Pv (i + 1), ct := Pv (i + 1), bk := D.nx } σ2 H2) (hd : ∀ σ H, Pv xs.length σ H → D.nx σ H) :
    ∃ b, V.ref a = .ref b ∧ (((∃ xs, SqL K H0 b xs) ∧ ∃ W : Nat → Nat → L2.St → Hp → Prop, (∃ m, W 0 m σ H0) ∧ ∀ i m σ H, W i m σ H →
      ((Itl K b).stop i H ∧ D.nx σ H) ∨ ((Itl K b).go i H ∧ ∃ N : L2.St → Hp → Prop, (∀ σ' H', N σ' H' → ∃ m', m' < m ∧ W (i + 1) m' σ' H') ∧ ∀ x H', (Itl K b).yld i H x H' → g x σ H' fun σ2 H2 => tb { D with nx := N, ct := N, bk := D.nx } σ2 H2)) ∨
      ((∃ xs, SqT K H0 b xs) ∧ ∃ W : Nat → Nat → L2.St → Hp → Prop, (∃ m, W 0 m σ H0) ∧ ∀ i m σ H, W i m σ H →
      ((Itt K b).stop i H ∧ D.nx σ H) ∨ ((Itt K b).go i H ∧ ∃ N : L2.St → Hp → Prop, (∀ σ' H', N σ' H' → ∃ m', m' < m ∧ W (i + 1) m' σ' H') ∧ ∀ x H', (Itt K b).yld i H x H' → g x σ H' fun σ2 H2 => tb { D with nx := N, ct := N, bk := D.nx } σ2 H2))) := by
  refine ⟨a, rfl, ?_⟩
  rcases hq with hq | hq
  · exact .inl ⟨⟨xs, same_l (hl 0 σ H0 h0) hq⟩, for_list (xs := xs) Pv h0 (fun i σ H _ p => same_l (hl i σ H p) hq) hs hd⟩
  · exact .inr ⟨⟨xs, same_t (hl 0 σ H0 h0) hq⟩, for_tup (xs := xs) Pv h0 (fun i σ H _ p => same_t (hl i σ H p) hq) hs hd⟩
theorem lc_se {K : PySem.W.Frag} {a : Addr} {xs : List V} {g : TG} {tt : TT} {te : TE} {vs : List Nat} {σ : L2.St} {H0 : Hp} {Qd : Addr → Hp → Prop} (R : Nat → V → Hp → Prop) (hq : SE K H0 a xs) (hl : xs.length ≤ 16000000)
    (mono : ∀ i y H H', R i y H → SameT H H' → R i y H')
    (hs : ∀ D i x H (Nx : Hp → Prop), xs[i]? = some x → Same H0 H → (∃ ys, H D = some (.lst ys)) → (∀ y H4, Same H H4 → R i y H4 → ∃ acc, H4 D = some (.lst acc) ∧ acc.length < sizeLine ∧ Nx (upd H4 D (.lst (acc ++ [y])))) →
      g x (wipe σ vs) H fun σ2 H2 => wipe σ2 vs = wipe σ vs ∧ tt σ2 H2 fun b H3 => if b = true then te σ2 H3 fun y H4 => ∃ acc, H4 D = some (.lst acc) ∧ acc.length < sizeLine ∧ Nx (upd H4 D (.lst (acc ++ [y]))) else Nx H3)
    (hd : ∀ D H ys, Same H0 H → H0 D = none → H D = some (.lst ys) → ys.length = xs.length → (∀ (i : Nat) y, ys[i]? = some y → R i y H) → Qd D H) :
    ∃ b, V.ref a = .ref b ∧ (((∃ xs, SqL K H0 b xs) ∧ ∀ D, H0 D = none → ∃ W : Nat → Nat → Hp → Prop, (∃ m, W 0 m (upd H0 D (.lst []))) ∧ ∀ i m H, W i m H →
      ((Itl K b).stop i H ∧ Qd D H) ∨ ((Itl K b).go i H ∧ ∃ Nx : Hp → Prop, (∀ H', Nx H' → ∃ m', m' < m ∧ W (i + 1) m' H') ∧ ∀ x H', (Itl K b).yld i H x H' → g x (wipe σ vs) H' fun σ2 H2 => wipe σ2 vs = wipe σ vs ∧ tt σ2 H2 fun b H3 =>
        if b = true then te σ2 H3 fun y H4 => ∃ acc, H4 D = some (.lst acc) ∧ acc.length < sizeLine ∧ Nx (upd H4 D (.lst (acc ++ [y]))) else Nx H3)) ∨
      ((∃ xs, SqT K H0 b xs) ∧ ∀ D, H0 D = none → ∃ W : Nat → Nat → Hp → Prop, (∃ m, W 0 m (upd H0 D (.lst []))) ∧ ∀ i m H, W i m H →
      ((Itt K b).stop i H ∧ Qd D H) ∨ ((Itt K b).go i H ∧ ∃ Nx : Hp → Prop, (∀ H', Nx H' → ∃ m', m' < m ∧ W (i + 1) m' H') ∧ ∀ x H', (Itt K b).yld i H x H' → g x (wipe σ vs) H' fun σ2 H2 => wipe σ2 vs = wipe σ vs ∧ tt σ2 H2 fun b H3 =>
        if b = true then te σ2 H3 fun y H4 => ∃ acc, H4 D = some (.lst acc) ∧ acc.length < sizeLine ∧ Nx (upd H4 D (.lst (acc ++ [y]))) else Nx H3))) := by
  have step : ∀ D, H0 D = none → ∀ i x H, xs[i]? = some x → (Same H0 H ∧ ∃ ys, H D = some (.lst ys) ∧ ys.length = i ∧ ∀ (j : Nat) y, ys[j]? = some y → R j y H) →
      g x (wipe σ vs) H fun σ2 H2 => wipe σ2 vs = wipe σ vs ∧ tt σ2 H2 fun b H3 => if b = true then te σ2 H3 fun y H4 => ∃ acc, H4 D = some (.lst acc) ∧ acc.length < sizeLine ∧
        (Same H0 (upd H4 D (.lst (acc ++ [y]))) ∧ ∃ ys, (upd H4 D (.lst (acc ++ [y]))) D = some (.lst ys) ∧ ys.length = i + 1 ∧ ∀ (j : Nat) z, ys[j]? = some z → R j z (upd H4 D (.lst (acc ++ [y])))) else (Same H0 H3 ∧ ∃ ys, H3 D = some (.lst ys) ∧ ys.length = i + 1 ∧ ∀ (j : Nat) z, ys[j]? = some z → R j z H3) := by
    rintro D hD i x H hx ⟨e, ys, hy, hl2, hR⟩
    refine hs D i x H (fun H3 => Same H0 H3 ∧ ∃ ys, H3 D = some (.lst ys) ∧ ys.length = i + 1 ∧ ∀ (j : Nat) z, ys[j]? = some z → R j z H3) hx e ⟨ys, hy⟩ fun y H4 e4 hr => ?_
    have hi : i < xs.length := (List.getElem?_eq_some_iff.mp hx).1
    have h4 := e4 D _ hy
    have sx : SameT H4 (upd H4 D (.lst (ys ++ [y]))) := SameT.upd h4 rfl
    have sx0 : SameT H (upd H4 D (.lst (ys ++ [y]))) := (SameT.of e4).trans sx
    refine ⟨ys, h4, Nat.lt_of_le_of_lt (by omega : ys.length ≤ 16000000) (by decide), same_mut (e.trans e4) hD, ys ++ [y], upd_same, by rw [List.length_append, hl2] <;> rfl, fun j z hz => ?_⟩
    rcases Nat.lt_or_ge j ys.length with lt | ge
    · rw [List.getElem?_append_left lt] at hz
      exact mono j z _ _ (hR j z hz) sx0
    · rw [List.getElem?_append_right ge] at hz
      have hj : j - ys.length = 0 := by
        have := (List.getElem?_eq_some_iff.mp hz).1
        simp only [List.length_singleton] at this
        omega
      rw [hj] at hz
      have hz' : y = z := Option.some.inj hz
      have ji : j = i := by omega
      rw [← hz', ji]
      exact mono i y _ _ hr sx
  refine ⟨a, rfl, ?_⟩
  rcases hq with hq | hq
  · exact .inl ⟨⟨xs, hq⟩, fun D hD => lc_list (xs := xs) (fun i H => Same H0 H ∧ ∃ ys, H D = some (.lst ys) ∧ ys.length = i ∧ ∀ (j : Nat) y, ys[j]? = some y → R j y H) ⟨same_new hD, [], upd_same, rfl, fun j y h => by simp at h⟩ (fun i H _ h => same_l h.1 hq) (step D hD)
      fun H ⟨e, ys, hy, hl2, hR⟩ => hd D H ys e hD hy hl2 hR⟩
  · exact .inr ⟨⟨xs, hq⟩, fun D hD => lc_tup (xs := xs) (fun i H => Same H0 H ∧ ∃ ys, H D = some (.lst ys) ∧ ys.length = i ∧ ∀ (j : Nat) y, ys[j]? = some y → R j y H) ⟨same_new hD, [], upd_same, rfl, fun j y h => by simp at h⟩ (fun i H _ h => same_t h.1 hq) (step D hD)
      fun H ⟨e, ys, hy, hl2, hR⟩ => hd D H ys e hD hy hl2 hR⟩
def Rw.word : Rw → Str
  | .set _ _ => "set"
  | .tell _ => "tell"
  | .skip => "skip"
  | .ite _ _ _ => "if"
  | .whl _ _ => "while"
def Rw.things : Rw → Int
  | .set _ _ => 3
  | .tell _ => 2
  | .skip => 1
  | .ite _ _ _ => 4
  | .whl _ _ => 3
def Rw.fm : Rw → Option Fm
  | .set _ f => some f
  | .tell f => some f
  | .skip => none
  | .ite f _ _ => some f
  | .whl f _ => some f
def Rw.parts : Rw → List (List Rw)
  | .ite _ a b => [a, b]
  | .whl _ a => [a]
  | _ => []
def FoAt (K : PySem.W.Frag) (H : Hp) (u : V) : Option Fm → Prop
  | none => u = .non
  | some f => FmAt K H u f
inductive BlksAt (K : PySem.W.Frag) (S : SQ) (H : Hp) : List V → List (List Rw) → Prop where
  | nil : BlksAt K S H [] []
  | cons {q : Addr} {ys : List V} {b : List Rw} {vs : List V} {l : List (List Rw)} (h : S H q ys) (hb : BkAt K S H ys b) (t : BlksAt K S H vs l) : BlksAt K S H (.ref q :: vs) (b :: l)
theorem BlksAt.go {K : PySem.W.Frag} {S S' : SQ} {H H' : Hp} (e : SameT H H') (s : ∀ a xs, S H a xs → S' H' a xs) : ∀ {vs : List V} {l : List (List Rw)}, BlksAt K S H vs l → BlksAt K S' H' vs l
  | _, _, .nil => .nil
  | _, _, .cons h hb t => .cons (s _ _ h) (hb.go e s) (t.go e s)
theorem BlksAt.get {K : PySem.W.Frag} {S : SQ} {H : Hp} : ∀ {vs : List V} {l : List (List Rw)} {i : Nat} {v : V}, BlksAt K S H vs l → vs[i]? = some v → ∃ b q ys, l[i]? = some b ∧ v = .ref q ∧ S H q ys ∧ BkAt K S H ys b
  | _, _, 0, _, .cons h hb _, e => ⟨_, _, _, rfl, (Option.some.inj e).symm, h, hb⟩
  | _, _, i + 1, _, .cons _ _ t, e => t.get (i := i) e
  | _, _, _, _, .nil, e => by simp at e
theorem BlksAt.len {K : PySem.W.Frag} {S : SQ} {H : Hp} : ∀ {vs : List V} {l : List (List Rw)}, BlksAt K S H vs l → vs.length = l.length
  | _, _, .nil => rfl
  | _, _, .cons _ _ t => congrArg (· + 1) t.len
theorem parts_ok {ns : List Str} {r : Rw} (h : r.ok ns) : ∀ b ∈ r.parts, oks ns b := by
  cases r with
  | ite f a b => intro c hc; rcases List.mem_cons.mp hc with rfl | hc; exact h.2.1; rw [List.mem_singleton.mp hc]; exact h.2.2
  | whl f a => intro c hc; rw [List.mem_singleton.mp hc]; exact h.2
  | set x f => exact fun _ h => nomatch h
  | tell f => exact fun _ h => nomatch h
  | skip => exact fun _ h => nomatch h
theorem parts_nest {r : Rw} : ∀ b ∈ r.parts, nests b + 1 ≤ r.nest := by
  cases r with
  | ite f a b =>
    intro c hc
    show nests c + 1 ≤ 1 + max (nests a) (nests b)
    rcases List.mem_cons.mp hc with rfl | hc
    · omega
    · rw [List.mem_singleton.mp hc]; omega
  | whl f a => intro c hc; rw [List.mem_singleton.mp hc]; show nests a + 1 ≤ 1 + nests a; omega
  | set x f => exact fun _ h => nomatch h
  | tell f => exact fun _ h => nomatch h
  | skip => exact fun _ h => nomatch h
theorem parts_size {r : Rw} : r.size = 1 + (r.parts.map szs).sum := by
  cases r with
  | ite f a b => show 1 + (szs a + szs b) = 1 + (szs a + (szs b + 0)); omega
  | whl f a => show 1 + szs a = 1 + (szs a + 0); omega
  | set x f => rfl
  | tell f => rfl
  | skip => rfl
theorem parts_len {r : Rw} : r.parts.length ≤ 2 := by cases r <;> simp [Rw.parts]
theorem part_size {r : Rw} {b : List Rw} (h : b ∈ r.parts) : szs b ≤ r.size := by
  rw [parts_size]
  have : szs b ≤ (r.parts.map szs).sum := by
    have m : szs b ∈ r.parts.map szs := List.mem_map.mpr ⟨b, h, rfl⟩
    revert m
    generalize r.parts.map szs = l
    intro m
    induction l with
    | nil => exact nomatch m
    | cons x r ih =>
      rw [List.sum_cons]
      rcases List.mem_cons.mp m with e | m
      · omega
      · have := ih m; omega
  omega
theorem fm_ok {ns : List Str} {r : Rw} {f : Fm} (h : r.ok ns) (e : r.fm = some f) : f.fine ns := by
  cases r with
  | ite g a b => rw [← Option.some.inj e]; exact h.1
  | whl g a => rw [← Option.some.inj e]; exact h.1
  | set x g => rw [← Option.some.inj e]; exact h.2
  | tell g => rw [← Option.some.inj e]; exact h
  | skip => exact nomatch e
/-- a row's things -/
theorem RwAt.head {K : PySem.W.Frag} {S : SQ} {H : Hp} {v : V} {r : Rw} (h : RwAt K S H v r) : ∃ a xs, v = .ref a ∧ SqT K H a (.str r.word :: xs) ∧ ((xs.length : Int) + 1 = r.things) := by
  cases h <;> exact ⟨_, _, rfl, ‹_›, rfl⟩
mutual
theorem RwAt.dpE {K : PySem.W.Frag} {H : Hp} {ns : List Str} (hn : ∀ x ∈ ns, Nm x) : ∀ {v : V} {r : Rw}, RwAt K (SE K) H v r → r.ok ns → ∃ d ds, Dp K H v (.tuple (d :: ds)) ∧ Dk (.tuple (d :: ds)) (2 * r.nest + 11)
  | _, _, .set h hf, ho => ⟨_, _, .tup h (.cons (.str _) (.cons (.str _) (.cons hf.dp .nil))), (Rw.dk hn tupD (r := .set _ _) ho)⟩
  | _, _, .tell h hf, ho => ⟨_, _, .tup h (.cons (.str _) (.cons hf.dp .nil)), (Rw.dk hn tupD (r := .tell _) ho)⟩
  | _, _, .skip h, ho => ⟨_, _, .tup h (.cons (.str _) .nil), (Rw.dk hn tupD (r := .skip) ho)⟩
  | _, _, .ite (b := b) (c := c) h hf hp hb hq hc, ho => by
    obtain ⟨d1, e1, k1⟩ := SEdp hn hp hb ho.2.1
    obtain ⟨d2, e2, k2⟩ := SEdp hn hq hc ho.2.2
    refine ⟨_, _, .tup h (.cons (.str _) (.cons hf.dp (.cons e1 (.cons e2 .nil)))), ?_⟩
    show Dk _ (2 * (1 + max (nests b) (nests c)) + 11)
    exact (Dk.tup (k := 2 * max (nests b) (nests c) + 12) (dk_cons (Dk.str if_ok) (dk_cons ((Fm.dk hn ho.1.1).mono (Nat.le_trans ho.1.2 (by omega))) (dk_cons (k1.mono (by omega)) (dk_cons (k2.mono (by omega)) dk_nil))))).mono (by omega)
  | _, _, .whl (b := b) h hf hp hb, ho => by
    obtain ⟨d1, e1, k1⟩ := SEdp hn hp hb ho.2
    refine ⟨_, _, .tup h (.cons (.str _) (.cons hf.dp (.cons e1 .nil))), ?_⟩
    show Dk _ (2 * (1 + nests b) + 11)
    exact (Dk.tup (k := 2 * nests b + 12) (dk_cons (Dk.str while_ok) (dk_cons ((Fm.dk hn ho.1.1).mono (Nat.le_trans ho.1.2 (by omega))) (dk_cons (k1.mono (by omega)) dk_nil)))).mono (by omega)
theorem SEdp {K : PySem.W.Frag} {H : Hp} {ns : List Str} (hn : ∀ x ∈ ns, Nm x) {a : Addr} {xs : List V} {b : List Rw} (hs : SE K H a xs) (hb : BkAt K (SE K) H xs b) (ho : oks ns b) : ∃ d, Dp K H (.ref a) d ∧ Dk d (2 * nests b + 12) := by
  obtain ⟨ds, e, k⟩ := BkAt.dpE hn hb ho
  rcases hs with h | h
  · exact ⟨_, .lst h e, Dk.list k⟩
  · exact ⟨_, .tup h e, Dk.tup k⟩
theorem BkAt.dpE {K : PySem.W.Frag} {H : Hp} {ns : List Str} (hn : ∀ x ∈ ns, Nm x) : ∀ {vs : List V} {l : List Rw}, BkAt K (SE K) H vs l → oks ns l → ∃ ds, DpAll K H vs ds ∧ ∀ d ∈ ds, Dk d (2 * nests l + 11)
  | _, _, .nil, _ => ⟨[], .nil, dk_nil⟩
  | _, _, .cons (r := r) (l := l) h t, ho => by
    obtain ⟨d, dt, e, k⟩ := RwAt.dpE hn h ho.1
    obtain ⟨ds, e2, k2⟩ := BkAt.dpE hn t ho.2
    have q : nests (r :: l) = max r.nest (nests l) := rfl
    exact ⟨.tuple (d :: dt) :: ds, .cons e e2, dk_cons (k.mono (by omega)) fun x hx => (k2 x hx).mono (by omega)⟩
end
def sp_formula_of (K : PySem.W.Frag) : Sp := fun vs H Q _ => ∃ (v : V) (r : Rw), vs = [v] ∧ RwAt K (SE K) H v r ∧ ∀ u, FoAt K H u r.fm → Q u H
def sp_blocks_of (K : PySem.W.Frag) : Sp := fun vs H Q _ => ∃ (v : V) (r : Rw) (S : SQ), vs = [v] ∧ RwAt K S H v r ∧ ∀ (p : Addr) (H' : Hp) (ws : List V), Same H H' → H p = none → H' p = some (.lst ws) → BlksAt K S H ws r.parts → Q (.ref p) H'
def sp_size_of (K : PySem.W.Frag) (n : Nat) : Sp := fun vs H Q _ => ∃ (v : V) (r : Rw), vs = [v] ∧ RwAt K (SE K) H v r ∧ r.nest ≤ n ∧ r.size ≤ 100000 ∧ ∀ H', Same H H' → Q (.int (r.size : Nat)) H'
def sp_many_in (K : PySem.W.Frag) (n : Nat) : Sp := fun vs H Q _ => ∃ (a : Addr) (xs : List V) (b : List Rw), vs = [.ref a] ∧ SE K H a xs ∧ BkAt K (SE K) H xs b ∧ nests b ≤ n ∧ szs b ≤ 100000 ∧ ∀ H', Same H H' → Q (.int (szs b : Nat)) H'
abbrev N_size_of : List Str := ["row", "block"]
def t_size_of (K : PySem.W.Frag) (n : Nat) : TS :=
  (tRet (tOp (rAdd K) (tC (.int 1)) (tCB (rSum K) (tCons (tLc (iSeq K (tF (sp_blocks_of K) (tCons (tVar 0) tNil))) (gName 1) tYes (tF (sp_many_in K n) (tCons (tVar 1) tNil)) [1]) tNil))))
abbrev N_many_in : List Str := ["block", "row"]
def t_many_in (K : PySem.W.Frag) (n : Nat) : TS :=
  (tRet (tCB (rSum K) (tCons (tLc (iSeq K (tVar 0)) (gName 1) tYes (tF (sp_size_of K n) (tCons (tVar 1) tNil)) [1]) tNil)))
theorem at0 {x : V} {xs : List V} : atI (x :: xs) 0 = some x := atI_nat (j := 0) rfl
theorem sum_cast {α : Type} {f : α → Nat} : ∀ {l : List α}, ((l.map fun x => ((f x : Nat) : Int)).sum) = (((l.map f).sum : Nat) : Int)
  | [] => rfl
  | x :: l => by
    rw [List.map_cons, List.map_cons, List.sum_cons, List.sum_cons, sum_cast (l := l)]
    omega
theorem szs_sum : ∀ b : List Rw, szs b = (b.map Rw.size).sum
  | [] => rfl
  | r :: b => by
    show r.size + szs b = _
    rw [List.map_cons, List.sum_cons, szs_sum b]
theorem eq_map {α : Type} {f : α → V} : ∀ {ys : List V} {xs : List α}, ys.length = xs.length → (∀ (i : Nat) y, ys[i]? = some y → ∃ x, xs[i]? = some x ∧ y = f x) → ys = xs.map f
  | [], [], _, _ => rfl
  | [], _ :: _, h, _ => nomatch h
  | _ :: _, [], h, _ => nomatch h
  | y :: ys, x :: xs, h, hR => by
    obtain ⟨z, h1, h2⟩ := hR 0 y rfl
    obtain rfl : x = z := Option.some.inj h1
    rw [h2, List.map_cons, eq_map (Nat.succ.inj h) fun i y hy => hR (i + 1) y hy]
theorem w_sum {K : PySem.W.Frag} {H : Hp} {Q : VK} {a : Addr} {ns : List Int} (h : SqL K H a (ns.map V.int)) (q : Q (.int ns.sum) H) : rSum K [.ref a] H Q := ⟨a, ns, rfl, h, q⟩
theorem no_size_of {K : PySem.W.Frag} : ∀ vs H Q E, ¬ sp_size_of K 0 vs H Q E := by
  rintro vs H Q E ⟨v, r, _, _, h, _⟩
  have := nest_pos r
  omega
theorem pure_size_of (K : PySem.W.Frag) (n : Nat) (vs : List V) (H : Hp) (Q : VK) (E : XK) (h : sp_size_of K (n + 1) vs H Q E) :
    t_size_of K n { nx := fun _ H' => Q .non H', rt := Q } (start N_size_of vs) H := by
  obtain ⟨v, r, rfl, hr, hn, hz, q⟩ := h
  unfold t_size_of
  walk_at "go"
  refine w_lc ?_
  walk_at "go"
  refine ⟨_, r, _, rfl, hr, fun p H2 ws e2 hp hp2 hb => ?_⟩
  have wl : ws.length ≤ 2 := by rw [hb.len]; exact parts_len
  refine lc_se (xs := ws) (fun i y H' => ∃ b, r.parts[i]? = some b ∧ y = .int (szs b : Nat)) (.inl (SqL.of hp2)) (by omega) (fun i y H1 H2 h _ => h) ?_ ?_
  · rintro D i x H3 Nx hx e3 ⟨zs, hzs⟩ k
    obtain ⟨b, t, ys, hb1, rfl, hs1, hk1⟩ := hb.get hx
    have bm : b ∈ r.parts := List.mem_of_getElem? hb1
    have pn := parts_nest b bm
    have ps := part_size bm
    have e23 := e2.trans e3
    refine ⟨rfl, ?_⟩
    walk_at "go"
    refine ⟨t, ys, b, rfl, se_same e23 hs1, hk1.monoE e23, by omega, by omega, fun H4 e4 => ?_⟩
    exact k _ H4 e4 ⟨b, hb1, rfl⟩
  · intro D H3 ys e3 hD hD3 hyl hR
    rw [hb.len] at hyl
    have hy := eq_map (f := fun b => V.int (szs b : Nat)) hyl hR
    walk_at "go"
    refine w_sum (ns := r.parts.map fun b => ((szs b : Nat) : Int)) (SqL.of (by rw [hD3, hy, List.map_map] <;> rfl)) ?_
    walk_at "go"
    have e : 1 + (r.parts.map fun b => ((szs b : Nat) : Int)).sum = ((r.size : Nat) : Int) := by
      rw [sum_cast (f := szs), parts_size]
      omega
    rw [e]
    exact q _ (e2.trans e3)
theorem pure_many_in (K : PySem.W.Frag) (n : Nat) (vs : List V) (H : Hp) (Q : VK) (E : XK) (h : sp_many_in K n vs H Q E) :
    t_many_in K n { nx := fun _ H' => Q .non H', rt := Q } (start N_many_in vs) H := by
  obtain ⟨a, xs, b, rfl, hs, hb, hn, hz, q⟩ := h
  unfold t_many_in
  have bl := szs_len b
  have xl := hb.len
  walk_at "go"
  refine w_lc ?_
  walk_at "go"
  refine lc_se (xs := xs) (fun i y H' => ∃ r, b[i]? = some r ∧ y = .int (r.size : Nat)) hs (by omega) (fun i y H1 H2 h _ => h) ?_ ?_
  · rintro D i x H3 Nx hx e3 ⟨zs, hzs⟩ k
    obtain ⟨r, hr1, hr2⟩ := hb.get hx
    have rm : r ∈ b := List.mem_of_getElem? hr1
    have rn := nest_mem rm
    have rz := sz_mem rm
    refine ⟨rfl, ?_⟩
    walk_at "go"
    refine ⟨x, r, rfl, hr2.monoE e3, by omega, by omega, fun H4 e4 => ?_⟩
    exact k _ H4 e4 ⟨r, hr1, rfl⟩
  · intro D H3 ys e3 hD hD3 hyl hR
    rw [xl] at hyl
    have hy := eq_map (f := fun r => V.int (r.size : Nat)) hyl hR
    walk_at "go"
    refine w_sum (ns := b.map fun r => ((r.size : Nat) : Int)) (SqL.of (by rw [hD3, hy, List.map_map] <;> rfl)) ?_
    have e : (b.map fun r => ((r.size : Nat) : Int)).sum = ((szs b : Nat) : Int) := by
      rw [sum_cast (f := Rw.size), szs_sum]
    rw [e]
    exact q _ e3
def IsSort (xs ys : List Str) : Prop := sortedS ys = true ∧ ys.Nodup ∧ ∀ y, y ∈ ys ↔ y ∈ xs
noncomputable def sortU (xs : List Str) : List Str := Classical.epsilon (IsSort xs)
theorem sortU_eq {xs ys zs : List Str} (h : IsSort xs ys) (m : ∀ y, y ∈ xs ↔ y ∈ zs) : ys = sortU zs := by
  have h' : IsSort zs ys := ⟨h.1, h.2.1, fun y => (h.2.2 y).trans (m y)⟩
  have e : IsSort zs (sortU zs) := Classical.epsilon_spec (p := IsSort zs) ⟨ys, h'⟩
  exact sort_one h'.1 h'.2.1 e.1 e.2.1 fun z => (h'.2.2 z).trans (e.2.2 z).symm
theorem sortU_is {xs ys : List Str} (h : IsSort xs ys) : IsSort xs (sortU xs) := Classical.epsilon_spec (p := IsSort xs) ⟨ys, h⟩
abbrev as_Program : List Str := ["opened", "hidden", "inner"]
def prF (o h q : Addr) : List (Str × V) := [("opened", .ref o), ("hidden", .ref h), ("inner", .ref q)]
structure PrIn (K : PySem.W.Frag) (H : Hp) (a : Addr) (os ss : List Str) (b : List Rw) (C dx o h q : Addr) (ys : List V) : Prop where
  ha : H a = some (.ins C dx (prF o h q))
  cc : CC K "Program" as_Program C
  ho : H o = some (.lst (os.map V.str))
  hh : H h = some (.lst (ss.map V.str))
  hq : SqT K H q ys
  hb : BkAt K (SqT K) H ys b
def PrAt (K : PySem.W.Frag) (H : Hp) (a : Addr) (os ss : List Str) (b : List Rw) : Prop := ∃ C dx o h q ys, PrIn K H a os ss b C dx o h q ys
theorem PrAt.mono {K : PySem.W.Frag} {H H' : Hp} {a : Addr} {os ss : List Str} {b : List Rw} (e : Same H H') (h : PrAt K H a os ss b) : PrAt K H' a os ss b := by
  obtain ⟨C, dx, o, hh, q, ys, h⟩ := h
  exact ⟨C, dx, o, hh, q, ys, e _ _ h.ha, h.cc, e _ _ h.ho, e _ _ h.hh, same_t e h.hq, h.hb.monoT (SameT.of e)⟩
def sp_Program_block (K : PySem.W.Frag) : Sp := fun vs H Q _ => ∃ (a : Addr) (os ss : List Str) (b : List Rw), vs = [.ref a] ∧ PrAt K H a os ss b ∧ ∀ q ys, SqT K H q ys → BkAt K (SqT K) H ys b → Q (.ref q) H
abbrev N_Program_block : List Str := ["self"]
def t_Program_block (K : PySem.W.Frag) : TS :=
  (tRet (tFld K (tVar 0) "inner"))
theorem put1 {v : V} : putF "opened" v [] = ([("opened", v)] : List (Str × V)) := rfl
theorem put2 {u v : V} : putF "hidden" v ([("opened", u)] : List (Str × V)) = ([("opened", u), ("hidden", v)] : List (Str × V)) := rfl
theorem put3 {u w v : V} : putF "inner" v ([("opened", u), ("hidden", w)] : List (Str × V)) = ([("opened", u), ("hidden", w), ("inner", v)] : List (Str × V)) := rfl
theorem pure_Program_block (K : PySem.W.Frag) (vs : List V) (H : Hp) (Q : VK) (E : XK) (h : sp_Program_block K vs H Q E) :
    t_Program_block K { nx := fun _ H' => Q .non H', rt := Q } (start N_Program_block vs) H := by
  obtain ⟨a, os, ss, b, rfl, ⟨C, dx, o, h, q', ys, hP⟩, q⟩ := h
  unfold t_Program_block
  walk_at "go"
  exact w_fldAt hP.ha hP.cc (by simp) rfl (q q' ys hP.hq hP.hb)
inductive All2 {α : Type} (R : V → α → Prop) : List V → List α → Prop where
  | nil : All2 R [] []
  | cons {v : V} {x : α} {vs : List V} {xs : List α} (h : R v x) (t : All2 R vs xs) : All2 R (v :: vs) (x :: xs)
namespace All2
variable {α : Type} {R S : V → α → Prop}
theorem imp (h : ∀ v x, R v x → S v x) : ∀ {vs : List V} {xs : List α}, All2 R vs xs → All2 S vs xs
  | _, _, .nil => .nil
  | _, _, .cons a t => .cons (h _ _ a) (t.imp h)
theorem app : ∀ {vs us : List V} {xs ys : List α}, All2 R vs xs → All2 R us ys → All2 R (vs ++ us) (xs ++ ys)
  | _, _, _, _, .nil, h => h
  | _, _, _, _, .cons a t, h => .cons a (t.app h)
theorem one {v : V} {x : α} (h : R v x) : All2 R [v] [x] := .cons h .nil
theorem len : ∀ {vs : List V} {xs : List α}, All2 R vs xs → vs.length = xs.length
  | _, _, .nil => rfl
  | _, _, .cons _ t => congrArg (· + 1) t.len
theorem get : ∀ {vs : List V} {xs : List α} {i : Nat} {v : V}, All2 R vs xs → vs[i]? = some v → ∃ x, xs[i]? = some x ∧ R v x
  | _, _, 0, _, .cons h _, e => ⟨_, rfl, by rw [← Option.some.inj e]; exact h⟩
  | _, _, i + 1, _, .cons _ t, e => t.get (i := i) e
  | _, _, _, _, .nil, e => by simp at e
theorem of_get : ∀ {vs : List V} {xs : List α}, vs.length = xs.length → (∀ (i : Nat) v, vs[i]? = some v → ∃ x, xs[i]? = some x ∧ R v x) → All2 R vs xs
  | [], [], _, _ => .nil
  | [], _ :: _, h, _ => nomatch h
  | _ :: _, [], h, _ => nomatch h
  | v :: vs, x :: xs, h, hR => by
    obtain ⟨y, h1, h2⟩ := hR 0 v rfl
    obtain rfl : x = y := Option.some.inj h1
    exact .cons h2 (of_get (Nat.succ.inj h) fun i v hv => hR (i + 1) v hv)
end All2
abbrev Ent := Nat × Rw × List Str
def fnames : Option Fm → List Str
  | none => []
  | some f => f.names
/-- an entry of rows_in's list at p -/
def EntP (K : PySem.W.Frag) (H : Hp) (p : Addr) (v : V) (e : Ent) : Prop := ∃ (t : Addr) (vr : V) (al : Addr) (xs : List Str), v = .ref t ∧ SqT K H t [.int (e.1 : Nat), vr, .ref al] ∧ RwAt K (SqT K) H vr e.2.1 ∧ H al = some (.lst (xs.map V.str)) ∧ al ≠ p ∧ (∀ y, y ∈ xs ↔ y ∈ e.2.2) ∧ xs.length ≤ 1000000
theorem EntP.mono {K : PySem.W.Frag} {H H' : Hp} {p : Addr} {v : V} {e : Ent} (s : Same H H') (h : EntP K H p v e) : EntP K H' p v e := by
  obtain ⟨t, vr, al, xs, h1, h2, h3, h4, h5⟩ := h
  exact ⟨t, vr, al, xs, h1, same_t s h2, h3.monoT (SameT.of s), s _ _ h4, h5⟩
theorem EntP.upd {K : PySem.W.Frag} {H : Hp} {p : Addr} {v : V} {e : Ent} {zs : List V} {o : HO} (hp : H p = some (.lst zs)) (h : EntP K H p v e) : EntP K (L2.upd H p o) p v e := by
  obtain ⟨t, vr, al, xs, h1, h2, h3, h4, h5, h6⟩ := h
  have s : SameT H (L2.upd H p o) := SameT.upd hp rfl
  exact ⟨t, vr, al, xs, h1, sameT_t s h2, h3.monoT s, (upd_ne h5).trans h4, h5, h6⟩
theorem EntP.other {K : PySem.W.Frag} {H : Hp} {p q : Addr} {v : V} {e : Ent} (hq : H q = none) (h : EntP K H p v e) : EntP K H q v e := by
  obtain ⟨t, vr, al, xs, h1, h2, h3, h4, h5, h6⟩ := h
  exact ⟨t, vr, al, xs, h1, h2, h3, h4, ne_of_none h4 hq, h6⟩
abbrev Flo := Nat × Str × Str
def FlAt (K : PySem.W.Frag) (H : Hp) (v : V) (f : Flo) : Prop := ∃ t, v = .ref t ∧ SqT K H t [.int (f.1 : Nat), .str f.2.1, .str f.2.2]
theorem FlAt.monoT {K : PySem.W.Frag} {H H' : Hp} (e : SameT H H') {v : V} {f : Flo} (h : FlAt K H v f) : FlAt K H' v f := by
  obtain ⟨t, h1, h2⟩ := h
  exact ⟨t, h1, sameT_t e h2⟩
theorem take_snoc {α : Type} {l : List α} {i : Nat} {x : α} (h : l[i]? = some x) : l.take (i + 1) = l.take i ++ [x] := by rw [List.take_succ, h] <;> rfl
theorem szs_take {l : List Rw} {i : Nat} : szs (l.take i) ≤ szs l := by
  have := szs_app (l.take i) (l.drop i)
  rw [List.take_append_drop] at this
  omega
theorem sum_take {l : List Nat} {i : Nat} : (l.take i).sum ≤ l.sum := by
  have : (l.take i ++ l.drop i).sum = l.sum := by rw [List.take_append_drop]
  rw [List.sum_append] at this
  omega
theorem skip_isN (r : Rw) : (!decide (r.word = ("skip" : Str))) = r.fm.isSome := by
  cases r with
  | set x f => exact (show (!decide (("set" : Str) = "skip")) = true by decide +kernel)
  | tell f => exact (show (!decide (("tell" : Str) = "skip")) = true by decide +kernel)
  | skip => decide +kernel
  | ite f a b => exact (show (!decide (("if" : Str) = "skip")) = true by decide +kernel)
  | whl f a => exact (show (!decide (("while" : Str) = "skip")) = true by decide +kernel)
theorem set_is (r : Rw) : decide (r.word = ("set" : Str)) = (match r with | .set _ _ => true | _ => false) := by
  cases r with
  | set x f => exact (show decide (("set" : Str) = "set") = true by decide +kernel)
  | tell f => exact (show decide (("tell" : Str) = "set") = false by decide +kernel)
  | skip => decide +kernel
  | ite f a b => exact (show decide (("if" : Str) = "set") = false by decide +kernel)
  | whl f a => exact (show decide (("while" : Str) = "set") = false by decide +kernel)
theorem SameX.T {p : Addr} {H H' : Hp} {zs : List V} (h : SameX p H H') (hp : H p = some (.lst zs)) : SameT H H' := fun a o ha hf => h a o (fun e => by rw [e, hp] at ha; rw [← Option.some.inj ha] at hf; exact nomatch hf) ha
theorem SameX.of {p : Addr} {H H' : Hp} (h : Same H H') : SameX p H H' := fun a u _ ha => h a u ha
theorem SameX.trans {p : Addr} {H H1 H2 : Hp} (h : SameX p H H1) (h2 : SameX p H1 H2) : SameX p H H2 := fun a u n ha => h2 a u n (h a u n ha)
theorem SameX.upd {p : Addr} {H : Hp} {o : HO} : SameX p H (L2.upd H p o) := fun a u n ha => by rw [upd_ne n]; exact ha
theorem SameX.same {p : Addr} {H0 H H' : Hp} (h0 : Same H0 H) (hp : H0 p = none) (h : SameX p H H') : Same H0 H' := fun a u ha => h a u (ne_of_none ha hp) (h0 a u ha)
theorem w_slT2 {K : PySem.W.Frag} {H : Hp} {Q : VK} {a : Addr} {x y : V} {xs : List V} (h : SqT K H a (x :: y :: xs)) (q : ∀ p, H p = none → Q (.ref p) (upd H p (.tup xs))) : rSl K (.ref a) (some 2) none H Q := by
  have e : HT.sIx (x :: y :: xs).length 0 (some 2) = 2 := by
    refine (show HT.sIx (x :: y :: xs).length 0 (some 2) = min 2 (x :: y :: xs).length from HT.sIx_nat _ _ 2).trans ?_
    simp only [List.length_cons]
    omega
  refine .inr (.inl ⟨a, _, rfl, h, fun c => absurd c.1 (by rw [e]; decide), fun _ p hp => ?_⟩)
  have : cutV (x :: y :: xs) (some 2) none = xs := by
    unfold cutV
    rw [HT.sIx_none, e]
    simp
  rw [this]
  exact q p hp
theorem w_slT1 {K : PySem.W.Frag} {H : Hp} {Q : VK} {a : Addr} {x : V} (h : SqT K H a [x]) (q : ∀ p, H p = none → Q (.ref p) (upd H p (.tup []))) : rSl K (.ref a) (some 2) none H Q := by
  have e : HT.sIx [x].length 0 (some 2) = 1 := by
    exact (show HT.sIx [x].length 0 (some 2) = min 2 [x].length from HT.sIx_nat _ _ 2)
  refine .inr (.inl ⟨a, _, rfl, h, fun c => absurd c.1 (by rw [e]; decide), fun _ p hp => ?_⟩)
  have : cutV [x] (some 2) none = [] := by
    unfold cutV
    rw [HT.sIx_none, e]
    simp
  rw [this]
  exact q p hp
theorem w_str {H : Hp} {Q : VK} {i : Int} (h : i.natAbs.log2 < 1920) (q : Q (.str (toString i)) H) : rStr [.int i] H Q := ⟨i, rfl, h, q⟩
mutual
def Rw.nms : Rw → List Str
  | .set x f => x :: f.names
  | .tell f => f.names
  | .skip => []
  | .ite f a b => f.names ++ (bnms a ++ bnms b)
  | .whl f a => f.names ++ bnms a
def bnms : List Rw → List Str
  | [] => []
  | r :: l => r.nms ++ bnms l
end
def Rw.own : Rw → List Str
  | .set x f => x :: f.names
  | r => fnames r.fm
theorem nms_own (y : Str) (r : Rw) : y ∈ r.nms ↔ y ∈ r.own ∨ ∃ b ∈ r.parts, y ∈ bnms b := by
  cases r with
  | set x f => exact ⟨.inl, fun h => h.elim id fun ⟨_, h, _⟩ => nomatch h⟩
  | tell f => exact ⟨.inl, fun h => h.elim id fun ⟨_, h, _⟩ => nomatch h⟩
  | skip => exact ⟨.inl, fun h => h.elim id fun ⟨_, h, _⟩ => nomatch h⟩
  | ite f a b =>
    show y ∈ f.names ++ (bnms a ++ bnms b) ↔ y ∈ f.names ∨ ∃ c ∈ [a, b], y ∈ bnms c
    simp [List.mem_append]
  | whl f a =>
    show y ∈ f.names ++ bnms a ↔ y ∈ f.names ∨ ∃ c ∈ [a], y ∈ bnms c
    simp [List.mem_append]
theorem bnms_app (y : Str) : ∀ l m : List Rw, y ∈ bnms (l ++ m) ↔ y ∈ bnms l ∨ y ∈ bnms m
  | [], m => ⟨.inr, fun h => h.elim (fun h => nomatch h) id⟩
  | r :: l, m => by
    show y ∈ r.nms ++ bnms (l ++ m) ↔ y ∈ r.nms ++ bnms l ∨ y ∈ bnms m
    rw [List.mem_append, List.mem_append, bnms_app y l m, or_assoc]
theorem bnms_one (y : Str) (r : Rw) : y ∈ bnms [r] ↔ y ∈ r.nms := by
  show y ∈ r.nms ++ [] ↔ _
  rw [List.append_nil]
mutual
theorem nms_ok {ns : List Str} : ∀ {r : Rw}, r.ok ns → ∀ y ∈ r.nms, y ∈ ns
  | .set x f, h, y, hy => (List.mem_cons.mp hy).elim (fun e => e ▸ h.1) (Fm.ok_names h.2.1 y)
  | .tell f, h, y, hy => Fm.ok_names h.1 y hy
  | .skip, _, _, hy => nomatch hy
  | .ite f a b, h, y, hy => (List.mem_append.mp hy).elim (Fm.ok_names h.1.1 y) fun hy => (List.mem_append.mp hy).elim (bnms_ok h.2.1 y) (bnms_ok h.2.2 y)
  | .whl f a, h, y, hy => (List.mem_append.mp hy).elim (Fm.ok_names h.1.1 y) (bnms_ok h.2 y)
theorem bnms_ok {ns : List Str} : ∀ {l : List Rw}, oks ns l → ∀ y ∈ bnms l, y ∈ ns
  | [], _, _, hy => nomatch hy
  | r :: l, h, y, hy => (List.mem_append.mp hy).elim (nms_ok h.1 y) (bnms_ok h.2 y)
end
def sp_all_in (K : PySem.W.Frag) (n : Nat) : Sp := fun vs H Q _ => ∃ (a : Addr) (xs : List V) (b : List Rw) (ns : List Str), vs = [.ref a] ∧ SqT K H a xs ∧ BkAt K (SqT K) H xs b ∧ oks ns b ∧ ns.length ≤ 1000 ∧ nests b < n ∧ szs b ≤ 1000 ∧
  ∀ (p : Addr) (H' : Hp) (ys : List Str), Same H H' → H p = none → H' p = some (.lst (ys.map V.str)) → (∀ y, y ∈ ys ↔ y ∈ bnms b) → ys.length ≤ 1001 * szs b → Q (.ref p) H'
noncomputable def sp_Program_names (K : PySem.W.Frag) : Sp := fun vs H Q _ => ∃ (a : Addr) (os ss ns : List Str) (b : List Rw), vs = [.ref a] ∧ PrAt K H a os ss b ∧ oks ns b ∧ ns.length ≤ 1000 ∧ os.length ≤ 1000 ∧ ss.length ≤ 1000 ∧ nests b ≤ 8 ∧ szs b ≤ 1000 ∧
  ∀ (p : Addr) (H' : Hp), Same H H' → H p = none → H' p = some (.lst ((sortU ((os ++ ss) ++ bnms b)).map V.str)) → IsSort ((os ++ ss) ++ bnms b) (sortU ((os ++ ss) ++ bnms b)) → Q (.ref p) H'
def sp_Program_told (K : PySem.W.Frag) : Sp := fun vs H Q _ => ∃ (a : Addr) (os ss : List Str) (b : List Rw), vs = [.ref a] ∧ PrAt K H a os ss b ∧
  ∀ (p x y : Addr) (H' : Hp), Same H H' → H x = none → H y = none → x ≠ y → SqT K H' p [.ref x, .ref y] → H' x = some (.lst (os.map V.str)) → H' y = some (.lst (ss.map V.str)) → Q (.ref p) H'
def kindT (os ss : List Str) (x : Str) : Str := if x ∈ os then "open" else if x ∈ ss then "secret" else "free"
def sp_Program_kind (K : PySem.W.Frag) : Sp := fun vs H Q _ => ∃ (a : Addr) (os ss : List Str) (b : List Rw) (x : Str), vs = [.ref a, .str x] ∧ PrAt K H a os ss b ∧ Q (.str (kindT os ss x)) H
def sp_Program_many (K : PySem.W.Frag) : Sp := fun vs H Q _ => ∃ (a : Addr) (os ss : List Str) (b : List Rw), vs = [.ref a] ∧ PrAt K H a os ss b ∧ nests b ≤ 8 ∧ szs b ≤ 1000 ∧ ∀ H', Same H H' → Q (.int (szs b : Nat)) H'
abbrev N_all_in : List Str := ["block", "found", "row", "inner"]
def t_all_in_j1 (K : PySem.W.Frag) (n : Nat) : TS :=
  (tFor (iSeq K (tF (sp_blocks_of K) (tCons (tVar 2) tNil))) (gName 3) (tAsg (tOp (rAdd K) (tVar 1) (tF (sp_all_in K n) (tCons (tVar 3) tNil))) (gName 1)))
def t_all_in_j2 (K : PySem.W.Frag) (n : Nat) : TS :=
  (tSeq (tIfS (tTest (tOp (rNe2 K) (tOp (rIx K) (tVar 2) (tC (.int 0))) (tC (.str "skip")))) (tAsg (tOp (rAdd K) (tVar 1) (tF (sp_names_in K) (tCons (tF (sp_formula_of K) (tCons (tVar 2) tNil)) tNil))) (gName 1)) tNext) (t_all_in_j1 K n))
def t_all_in (K : PySem.W.Frag) (n : Nat) : TS :=
  (tSeq (tAsg (tLst tNil) (gName 1)) (tSeq (tFor (iSeq K (tVar 0)) (gName 2) (tSeq (tIfS (tTest (tOp (rEq2 K) (tOp (rIx K) (tVar 2) (tC (.int 0))) (tC (.str "set")))) (tDrop (tBM K "list" rAppend (tVar 1) (tCons (tOp (rIx K) (tVar 2) (tC (.int 1))) tNil))) tNext) (t_all_in_j2 K n))) (tRet (tVar 1))))
abbrev N_Program_names : List Str := ["self"]
noncomputable def t_Program_names (K : PySem.W.Frag) : TS :=
  (tRet (tSortSet K (tOp (rAdd K) (tOp (rAdd K) (tFld K (tVar 0) "opened") (tFld K (tVar 0) "hidden")) (tF (sp_all_in K 9) (tCons (tFld K (tVar 0) "inner") tNil)))))
abbrev N_Program_told : List Str := ["self"]
def t_Program_told (K : PySem.W.Frag) : TS :=
  (tRet (tTup (tCons (tCB (rList K) (tCons (tFld K (tVar 0) "opened") tNil)) (tCons (tCB (rList K) (tCons (tFld K (tVar 0) "hidden") tNil)) tNil))))
abbrev N_Program_kind : List Str := ["self", "name"]
def t_Program_kind (K : PySem.W.Frag) : TS :=
  (tSeq (tIfS (tTest (tOp (rIn2 K false) (tVar 1) (tFld K (tVar 0) "opened"))) (tRet (tC (.str "open"))) tNext) (tSeq (tIfS (tTest (tOp (rIn2 K false) (tVar 1) (tFld K (tVar 0) "hidden"))) (tRet (tC (.str "secret"))) tNext) (tRet (tC (.str "free")))))
abbrev N_Program_many : List Str := ["self"]
def t_Program_many (K : PySem.W.Frag) : TS :=
  (tRet (tF (sp_many_in K 8) (tCons (tFld K (tVar 0) "inner") tNil)))
theorem no_all_in {K : PySem.W.Frag} : ∀ vs H Q E, ¬ sp_all_in K 0 vs H Q E := by
  rintro vs H Q E ⟨a, xs, b, ns, _, _, _, _, _, h, _⟩
  omega
theorem pure_all_in (K : PySem.W.Frag) (n : Nat) (vs : List V) (H : Hp) (Q : VK) (E : XK) (h : sp_all_in K (n + 1) vs H Q E) :
    t_all_in K n { nx := fun _ H' => Q .non H', rt := Q } (start N_all_in vs) H := by
  obtain ⟨a, xs, b, ns, rfl, hs, hb, ho, nl, hn, hz, q⟩ := h
  unfold t_all_in
  walk_at "go"
  refine w_new (by walk_at "sz") (fun p0 hp0 => ?_)
  have e1 := same_new (o := .lst []) hp0
  have hp01 : upd H p0 (.lst []) p0 = _ := upd_same
  generalize upd H p0 (.lst []) = H1 at e1 hp01
  walk_at "go"
  refine w_isT (same_t e1 hs) ?_
  refine for_tup (xs := xs) (fun i σ H' => Same H H' ∧ ∃ (p : Addr) (ys : List Str) (w2 w3 : Option V), σ = [some (.ref a), some (.ref p), w2, w3] ∧ H p = none ∧ H' p = some (.lst (ys.map V.str)) ∧ (∀ y, y ∈ ys ↔ y ∈ bnms (b.take i)) ∧ ys.length ≤ 1001 * szs (b.take i))
    ⟨e1, p0, [], _, _, rfl, hp0, hp01, fun y => Iff.rfl, Nat.zero_le _⟩ (fun i σ H' _ h => same_t h.1 hs) ?_ ?_
  · rintro i x σ H2 hx ⟨e2, p, ys, w2, w3, rfl, hp, hp2, hm, hl⟩
    obtain ⟨rw, hrw, hrow⟩ := hb.get hx
    have rm : rw ∈ b := List.mem_of_getElem? hrw
    have rn := nest_mem rm
    have rok := oks_mem ho rw rm
    have tk := take_snoc hrw
    have zt : szs (b.take (i + 1)) ≤ szs b := szs_take
    have z1 : szs [rw] = rw.size := by show rw.size + 0 = _; omega
    rw [tk, szs_app, z1] at zt
    have psz := parts_size (r := rw)
    have hrow2 := hrow.monoT (SameT.of e2)
    have j1 : ∀ (H3 : Hp) (p : Addr) (ys : List Str) (w3 : Option V), Same H H3 → H p = none → H3 p = some (.lst (ys.map V.str)) → (∀ y, y ∈ ys ↔ y ∈ bnms (b.take i) ∨ y ∈ rw.own) → ys.length ≤ 1001 * szs (b.take i) + 1001 →
        t_all_in_j1 K n ⟨fun σ H' => Same H H' ∧ ∃ (p : Addr) (ys : List Str) (w2 w3 : Option V), σ = [some (.ref a), some (.ref p), w2, w3] ∧ H p = none ∧ H' p = some (.lst (ys.map V.str)) ∧ (∀ y, y ∈ ys ↔ y ∈ bnms (b.take (i + 1))) ∧ ys.length ≤ 1001 * szs (b.take (i + 1)), Q, fun _ _ => False, fun _ _ => False⟩
          [some (.ref a), some (.ref p), some x, w3] H3 := by
      intro H3 p ys w3 e3 hp hp3 hm hl
      unfold t_all_in_j1
      have hrow3 := hrow.monoT (SameT.of e3)
      walk_at "go"
      refine ⟨_, rw, _, rfl, hrow3, fun pb H4 ws e4 hpb hpb4 hws => ?_⟩
      refine w_isL (SqL.of hpb4) ?_
      refine for_list (xs := ws) (fun j σ H' => Same H4 H' ∧ ∃ (p : Addr) (ys : List Str) (w3 : Option V), σ = [some (.ref a), some (.ref p), some x, w3] ∧ H p = none ∧ H' p = some (.lst (ys.map V.str)) ∧ (∀ y, y ∈ ys ↔ (y ∈ bnms (b.take i) ∨ y ∈ rw.own) ∨ ∃ c ∈ rw.parts.take j, y ∈ bnms c) ∧
          ys.length ≤ 1001 * szs (b.take i) + 1001 + 1001 * ((rw.parts.take j).map szs).sum) ⟨Same.refl _, p, ys, _, rfl, hp, e4 _ _ hp3, fun y => (hm y).trans ⟨.inl, fun h => h.elim id fun ⟨_, h, _⟩ => nomatch h⟩, by simpa using hl⟩ (fun j σ H' _ h => SqL.of (h.1 _ _ hpb4)) ?_ ?_
      · rintro j v σ H5 hv ⟨e5, p, ys, w3, rfl, hp, hp5, hm, hl⟩
        obtain ⟨bl, t, zs, hbl, rfl, hts, htb⟩ := hws.get hv
        have bm : bl ∈ rw.parts := List.mem_of_getElem? hbl
        have pn := parts_nest bl bm
        have ps := part_size bm
        have tkj := take_snoc hbl
        have e45 := e4.trans e5
        walk_at "go"
        refine ⟨t, zs, bl, ns, rfl, same_t e45 hts, htb.monoT (SameT.of e45), parts_ok rok bl bm, nl, by omega, by omega, fun p6 H6 us e6 hp6 hp66 hm6 hl6 => ?_⟩
        have pz := sum_take (l := rw.parts.map szs) (i := j)
        rw [← List.map_take] at pz
        refine w_addL (e6 _ _ hp5) hp66 (sz (by rw [List.length_map, List.length_map]; omega)) (fun p7 hp7 => ?_)
        rw [← List.map_append]
        walk_at "go"
        refine ⟨e5.trans (e6.trans (same_new hp7)), p7, ys ++ us, _, rfl, none_of (e3.trans (e45.trans e6)) hp7, upd_same, fun y => ?_, ?_⟩
        · rw [List.mem_append, hm y, hm6 y, tkj, or_assoc]
          refine or_congr_right ?_
          simp only [List.mem_append, List.mem_singleton]
          constructor
          · rintro (⟨c, hc, h⟩ | h)
            · exact ⟨c, .inl hc, h⟩
            · exact ⟨bl, .inr rfl, h⟩
          · rintro ⟨c, hc | rfl, h⟩
            · exact .inl ⟨c, hc, h⟩
            · exact .inr h
        · rw [tkj, List.map_append, List.sum_append, List.length_append]
          simp only [List.map_cons, List.map_nil, List.sum_cons, List.sum_nil]
          omega
      · rintro σ H5 ⟨e5, p, ys, w3, rfl, hp, hp5, hm, hl⟩
        rw [hws.len, List.take_length] at hm hl
        refine ⟨e3.trans (e4.trans e5), p, ys, _, _, rfl, hp, hp5, fun y => ?_, ?_⟩
        · rw [hm y, tk, bnms_app, bnms_one, nms_own, or_assoc]
        · rw [tk, szs_app, z1]
          omega
    have j2 : ∀ (H3 : Hp) (p : Addr) (ys : List Str) (w3 : Option V), Same H H3 → H p = none → H3 p = some (.lst (ys.map V.str)) → (∀ y, y ∈ ys ∨ y ∈ fnames rw.fm ↔ y ∈ bnms (b.take i) ∨ y ∈ rw.own) → ys.length ≤ 1001 * szs (b.take i) + 1 →
        t_all_in_j2 K n ⟨fun σ H' => Same H H' ∧ ∃ (p : Addr) (ys : List Str) (w2 w3 : Option V), σ = [some (.ref a), some (.ref p), w2, w3] ∧ H p = none ∧ H' p = some (.lst (ys.map V.str)) ∧ (∀ y, y ∈ ys ↔ y ∈ bnms (b.take (i + 1))) ∧ ys.length ≤ 1001 * szs (b.take (i + 1)), Q, fun _ _ => False, fun _ _ => False⟩
          [some (.ref a), some (.ref p), some x, w3] H3 := by
      intro H3 p ys w3 e3 hp hp3 hm hl
      unfold t_all_in_j2
      have hrow3 := hrow.monoT (SameT.of e3)
      obtain ⟨ar, ws, hvr, hs3, _⟩ := hrow3.head
      subst hvr
      walk_at "go"
      refine w_ixT hs3 at0 ?_
      walk_at "go"
      rw [skip_isN]
      cases hf : rw.fm with
      | none =>
        refine w_no rfl ?_
        walk_at "go"
        rw [hf] at hm
        exact j1 H3 p ys w3 e3 hp hp3 (fun y => ⟨fun h => (hm y).mp (.inl h), fun h => ((hm y).mpr h).elim id fun h => nomatch h⟩) (by omega)
      | some f =>
        refine w_yes rfl ?_
        have ff := fm_ok rok hf
        rw [hf] at hm
        walk_at "go"
        refine ⟨_, rw, rfl, hrow3.toE, fun u hu => ?_⟩
        rw [hf] at hu
        walk_at "go"
        refine ⟨u, f, ns, rfl, hu, ff.1, nl, Nat.le_trans ff.2 (by decide), fun p7 H7 zs z1 z2 z3 e7 hp7 hp77 => ?_⟩
        have zl : zs.length ≤ ns.length := nodup_le z2 fun y hy => Fm.ok_names ff.1 y ((z3 y).mp hy)
        refine w_addL (e7 _ _ hp3) hp77 (sz (by rw [List.length_map, List.length_map]; omega)) (fun p8 hp8 => ?_)
        rw [← List.map_append]
        walk_at "go"
        exact j1 _ p8 (ys ++ zs) w3 (e3.trans (e7.trans (same_new hp8))) (none_of (e3.trans e7) hp8) upd_same (fun y => by rw [List.mem_append, z3 y]; exact hm y) (by rw [List.length_append]; omega)
    obtain ⟨ar, ws, hvr, hs2, _⟩ := hrow2.head
    subst hvr
    walk_at "go"
    refine w_ixT hs2 at0 ?_
    walk_at "go"
    rw [set_is]
    cases rw with
    | set z g =>
      have hr3 := hrow2
      cases hr3 with
      | set h1 hf =>
        walk_at "go"
        refine w_app hp2 (Nat.lt_of_le_of_lt (by rw [List.length_map]; omega : _ ≤ 2000000) (by decide)) ?_
        refine j2 _ p (ys ++ [z]) w3 (same_mut e2 hp) hp (by rw [upd_same, List.map_append] <;> rfl) (fun y => ?_) (by rw [List.length_append, List.length_singleton]; omega)
        show y ∈ ys ++ [z] ∨ y ∈ g.names ↔ y ∈ bnms (b.take i) ∨ y ∈ z :: g.names
        rw [List.mem_append, hm y, List.mem_singleton, List.mem_cons, or_assoc]
    | tell g => walk_at "go"; exact j2 H2 p ys w3 e2 hp hp2 (fun y => by rw [hm y]; rfl) (by omega)
    | skip => walk_at "go"; exact j2 H2 p ys w3 e2 hp hp2 (fun y => by rw [hm y]; rfl) (by omega)
    | ite g c d => walk_at "go"; exact j2 H2 p ys w3 e2 hp hp2 (fun y => by rw [hm y]; rfl) (by omega)
    | whl g c => walk_at "go"; exact j2 H2 p ys w3 e2 hp hp2 (fun y => by rw [hm y]; rfl) (by omega)
  · rintro σ H2 ⟨e2, p, ys, w2, w3, rfl, hp, hp2, hm, hl⟩
    rw [hb.len, List.take_length] at hm hl
    walk_at "go"
    exact q p H2 ys e2 hp hp2 hm hl
theorem pure_Program_names (K : PySem.W.Frag) (vs : List V) (H : Hp) (Q : VK) (E : XK) (h : sp_Program_names K vs H Q E) :
    t_Program_names K { nx := fun _ H' => Q .non H', rt := Q } (start N_Program_names vs) H := by
  obtain ⟨a, os, ss, ns, b, rfl, hP, ho, nl, l1, l2, hn, hz, q⟩ := h
  obtain ⟨C, dx, o, hh, q', ys, hI⟩ := hP
  unfold t_Program_names
  walk_at "go"
  refine w_sortSet ?_
  walk_at "go"
  refine w_fldAt hI.ha hI.cc (by simp) rfl ?_
  walk_at "go"
  refine w_fldAt hI.ha hI.cc (by simp) rfl ?_
  refine w_addL hI.ho hI.hh (sz (by rw [List.length_map, List.length_map]; omega)) (fun p1 hp1 => ?_)
  rw [← List.map_append]
  have e1 := same_new (o := .lst ((os ++ ss).map V.str)) hp1
  have hp11 : upd H p1 (.lst ((os ++ ss).map V.str)) p1 = _ := upd_same
  have ha1 := e1 _ _ hI.ha
  generalize upd H p1 (.lst ((os ++ ss).map V.str)) = H1 at e1 hp11 ha1
  walk_at "go"
  refine w_fldAt ha1 hI.cc (by simp) rfl ?_
  walk_at "go"
  refine ⟨q', ys, b, ns, rfl, same_t e1 hI.hq, hI.hb.monoT (SameT.of e1), ho, nl, by omega, hz, fun p2 H2 zs e2 hp2 hp22 hm hl => ?_⟩
  refine w_addL (e2 _ _ hp11) hp22 (sz (by rw [List.length_map, List.length_map, List.length_append]; omega)) (fun p3 hp3 => ?_)
  rw [← List.map_append]
  have mem : ∀ y, y ∈ (os ++ ss) ++ zs ↔ y ∈ (os ++ ss) ++ bnms b := fun y => by simp only [List.mem_append, hm y]
  refine ⟨p3, (os ++ ss) ++ zs, (os ++ ss) ++ ns, rfl, SqL.of upd_same, fun y hy => ?_, by rw [List.length_append, List.length_append]; omega, fun us p4 H4 s1 s2 s3 e4 hp4 hp44 => ?_⟩
  · rcases List.mem_append.mp ((mem y).mp hy) with h | h
    · exact List.mem_append_left _ h
    · exact List.mem_append_right _ (bnms_ok ho y h)
  · have is : IsSort ((os ++ ss) ++ bnms b) us := ⟨s1, s2, fun y => (s3 y).trans (mem y)⟩
    have e := sortU_eq is fun _ => Iff.rfl
    rw [e] at hp44
    have e04 := e1.trans (e2.trans ((same_new (o := .lst (((os ++ ss) ++ zs).map V.str)) hp3).trans e4))
    exact q p4 H4 e04 (none_of (e1.trans (e2.trans (same_new (o := .lst (((os ++ ss) ++ zs).map V.str)) hp3))) hp4) hp44 (sortU_is is)
theorem pure_Program_told (K : PySem.W.Frag) (vs : List V) (H : Hp) (Q : VK) (E : XK) (h : sp_Program_told K vs H Q E) :
    t_Program_told K { nx := fun _ H' => Q .non H', rt := Q } (start N_Program_told vs) H := by
  obtain ⟨a, os, ss, b, rfl, hP, q⟩ := h
  obtain ⟨C, dx, o, hh, q', ys, hI⟩ := hP
  unfold t_Program_told
  walk_at "go"
  refine w_fldAt hI.ha hI.cc (by simp) rfl ?_
  walk_at "go"
  refine w_listL (SqL.of hI.ho) (fun x hx => ?_)
  have e1 := same_new (o := .lst (os.map V.str)) hx
  have hx1 : upd H x (.lst (os.map V.str)) x = _ := upd_same
  have ha1 := e1 _ _ hI.ha
  have hh1 := e1 _ _ hI.hh
  generalize upd H x (.lst (os.map V.str)) = H1 at e1 hx1 ha1 hh1
  walk_at "go"
  refine w_fldAt ha1 hI.cc (by simp) rfl ?_
  walk_at "go"
  refine w_listL (SqL.of hh1) (fun y hy => ?_)
  have e2 := same_new (o := .lst (ss.map V.str)) hy
  have hy2 : upd H1 y (.lst (ss.map V.str)) y = _ := upd_same
  have hx2 := e2 _ _ hx1
  have xy : x ≠ y := ne_of_none hx1 hy
  generalize upd H1 y (.lst (ss.map V.str)) = H2 at e2 hy2 hx2
  walk_at "go"
  refine w_new (by walk_at "sz") (fun p hp => ?_)
  have e3 := same_new (o := .tup [.ref x, .ref y]) hp
  exact q p x y _ (e1.trans (e2.trans e3)) hx (none_of e1 hy) xy (SqT.of upd_same) (e3 _ _ hx2) (e3 _ _ hy2)
theorem pure_Program_kind (K : PySem.W.Frag) (vs : List V) (H : Hp) (Q : VK) (E : XK) (h : sp_Program_kind K vs H Q E) :
    t_Program_kind K { nx := fun _ H' => Q .non H', rt := Q } (start N_Program_kind vs) H := by
  obtain ⟨a, os, ss, b, x, rfl, hP, q⟩ := h
  obtain ⟨C, dx, o, hh, q', ys, hI⟩ := hP
  unfold t_Program_kind
  walk_at "go"
  refine w_fldAt hI.ha hI.cc (by simp) rfl ?_
  refine w_inTxt (xs := os) (SqL.of hI.ho) ?_
  walk_at "go"
  unfold kindT at q
  refine w_two (fun c => ?_) (fun c => ?_)
  · walk_at "go"
    rw [if_pos (of_decide_eq_true c)] at q
    exact q
  · rw [if_neg (of_decide_eq_false c)] at q
    walk_at "go"
    refine w_fldAt hI.ha hI.cc (by simp) rfl ?_
    refine w_inTxt (xs := ss) (SqL.of hI.hh) ?_
    walk_at "go"
    refine w_two (fun c => ?_) (fun c => ?_)
    · walk_at "go"
      rw [if_pos (of_decide_eq_true c)] at q
      exact q
    · walk_at "go"
      rw [if_neg (of_decide_eq_false c)] at q
      exact q
theorem pure_Program_many (K : PySem.W.Frag) (vs : List V) (H : Hp) (Q : VK) (E : XK) (h : sp_Program_many K vs H Q E) :
    t_Program_many K { nx := fun _ H' => Q .non H', rt := Q } (start N_Program_many vs) H := by
  obtain ⟨a, os, ss, b, rfl, hP, hn, hz, q⟩ := h
  obtain ⟨C, dx, o, hh, q', ys, hI⟩ := hP
  unfold t_Program_many
  walk_at "go"
  refine w_fldAt hI.ha hI.cc (by simp) rfl ?_
  walk_at "go"
  exact ⟨q', ys, b, rfl, .inr hI.hq, hI.hb.toE, hn, by omega, q⟩
mutual
theorem ok_own {ns ms : List Str} : ∀ {r : Rw}, r.ok ns → (∀ x ∈ r.nms, x ∈ ms) → r.ok ms
  | .set x f, h, q => ⟨q x List.mem_cons_self, fm_own h.2 fun y hy => q y (List.mem_cons_of_mem _ hy)⟩
  | .tell f, h, q => fm_own h q
  | .skip, _, _ => trivial
  | .ite f a b, h, q => ⟨fm_own h.1 fun y hy => q y (List.mem_append_left _ hy), oks_own h.2.1 fun y hy => q y (List.mem_append_right _ (List.mem_append_left _ hy)), oks_own h.2.2 fun y hy => q y (List.mem_append_right _ (List.mem_append_right _ hy))⟩
  | .whl f a, h, q => ⟨fm_own h.1 fun y hy => q y (List.mem_append_left _ hy), oks_own h.2 fun y hy => q y (List.mem_append_right _ hy)⟩
theorem oks_own {ns ms : List Str} : ∀ {l : List Rw}, oks ns l → (∀ x ∈ bnms l, x ∈ ms) → oks ms l
  | [], _, _ => trivial
  | _ :: _, h, q => ⟨ok_own h.1 fun y hy => q y (List.mem_append_left _ hy), oks_own h.2 fun y hy => q y (List.mem_append_right _ hy)⟩
theorem fm_own {ns ms : List Str} {f : Fm} (h : f.fine ns) (q : ∀ x ∈ f.names, x ∈ ms) : f.fine ms := by
  refine ⟨?_, h.2⟩
  have : ∀ {f : Fm}, f.ok ns → (∀ x ∈ f.names, x ∈ ms) → f.ok ms := by
    intro f
    induction f with
    | num n => exact fun h _ => h
    | nam x => exact fun _ q => q x (List.mem_singleton.mpr rfl)
    | op s a b ia ib => exact fun h q => ⟨ia h.1 fun y hy => q y (List.mem_append_left _ hy), ib h.2 fun y hy => q y (List.mem_append_right _ hy)⟩
  exact this h.1 q
end
structure Nwo (H H' : Hp) (p : Addr) (o : HO) : Prop where
  eq : H' = upd H p o
theorem nw_eq {Q : VK} {f : List V → HO} : (fun (xs : List V) (H1 : Hp) => xs.length ≤ sizeLine ∧ ∀ p H2, H1 p = none → Nwo H1 H2 p (f xs) → Q (.ref p) H2) = fun xs H1 => xs.length ≤ sizeLine ∧ ∀ p, H1 p = none → Q (.ref p) (upd H1 p (f xs)) := by
  funext xs H1
  exact propext ⟨fun ⟨z, k⟩ => ⟨z, fun p hp => k p _ hp ⟨rfl⟩⟩, fun ⟨z, k⟩ => ⟨z, fun p H2 hp e => by rw [e.eq]; exact k p hp⟩⟩
theorem w_nw {n : Nat} {R : Addr → Hp → Prop} {H1 : Hp} {o : HO} (z : n ≤ sizeLine) (q : ∀ p H2, H1 p = none → Same H1 H2 → H2 p = some o → R p H2) : n ≤ sizeLine ∧ ∀ p H2, H1 p = none → Nwo H1 H2 p o → R p H2 :=
  ⟨z, fun p H2 hp e => q p H2 hp (by rw [e.eq]; exact same_new hp) (by rw [e.eq]; exact upd_same)⟩
theorem same_look {H H' : Hp} {a : Addr} {u : HO} (e : Same H H') (h : H a = some u) : H' a = some u := e a u h
theorem same_mutX {H0 H H' : Hp} {l : Addr} (e : Same H0 H) (n : H0 l = none) (x : SameX l H H') : Same H0 H' := SameX.same e n x
theorem sq_l {K : PySem.W.Frag} {H H' : Hp} {a : Addr} {xs : List V} (e : Same H H') (h : H a = some (.lst xs)) : SqL K H' a xs := SqL.of (e a _ h)
theorem sq_t {K : PySem.W.Frag} {H H' : Hp} {a : Addr} {xs : List V} (e : Same H H') (h : H a = some (.tup xs)) : SqT K H' a xs := SqT.of (e a _ h)
theorem BkAt.monoS {K : PySem.W.Frag} {H H' : Hp} (e : Same H H') {vs : List V} {l : List Rw} (h : BkAt K (SqT K) H vs l) : BkAt K (SqT K) H' vs l := h.monoT (SameT.of e)
theorem RwAt.monoS {K : PySem.W.Frag} {H H' : Hp} (e : Same H H') {v : V} {r : Rw} (h : RwAt K (SqT K) H v r) : RwAt K (SqT K) H' v r := h.monoT (SameT.of e)
section
variable {K : PySem.W.Frag} {σ : L2.St} {H : Hp} {Q : VK} {x y v : V}
theorem w_lst' {t : TA} (q : t σ H fun xs H1 => xs.length ≤ sizeLine ∧ ∀ p H2, H1 p = none → Nwo H1 H2 p (.lst xs) → Q (.ref p) H2) : tLst t σ H Q := by
  rw [nw_eq (f := .lst)] at q
  exact q
theorem w_tup' {t : TA} (q : t σ H fun xs H1 => xs.length ≤ sizeLine ∧ ∀ p H2, H1 p = none → Nwo H1 H2 p (.tup xs) → Q (.ref p) H2) : tTup t σ H Q := by
  rw [nw_eq (f := .tup)] at q
  exact q
theorem w_addL' {a b : Addr} {xs ys : List V} (ha : H a = some (.lst xs)) (hb : H b = some (.lst ys)) (h : xs.length + ys.length ≤ sizeLine) (q : ∀ p H', H p = none → Same H H' → H' p = some (.lst (xs ++ ys)) → Q (.ref p) H') : rAdd K (.ref a) (.ref b) H Q :=
  w_addL ha hb h fun p hp => q p _ hp (same_new hp) upd_same
theorem w_slL' {a : Addr} {xs : List V} {lo hi : Option Int} (h : SqL K H a xs) (q : ∀ p H', H p = none → Same H H' → H' p = some (.lst (cutV xs lo hi)) → Q (.ref p) H') : rSl K (.ref a) lo hi H Q :=
  w_slL h fun p hp => q p _ hp (same_new hp) upd_same
theorem w_tupL' {p : Addr} {xs : List V} (h : SqL K H p xs) (q : ∀ l H', H l = none → Same H H' → H' l = some (.tup xs) → Q (.ref l) H') : rTupO K [.ref p] H Q :=
  w_tupL h fun l hl => q l _ hl (same_new hl) upd_same
theorem w_listL' {p : Addr} {xs : List V} (h : SqL K H p xs) (q : ∀ l H', H l = none → Same H H' → H' l = some (.lst xs) → Q (.ref l) H') : rList K [.ref p] H Q :=
  w_listL h fun l hl => q l _ hl (same_new hl) upd_same
theorem w_listT' {p : Addr} {xs : List V} (h : SqT K H p xs) (q : ∀ l H', H l = none → Same H H' → H' l = some (.lst xs) → Q (.ref l) H') : rList K [.ref p] H Q :=
  w_listT h fun l hl => q l _ hl (same_new hl) upd_same
theorem w_app' {l : Addr} {xs : List V} (h : H l = some (.lst xs)) (z : xs.length < sizeLine) (q : ∀ H', SameX l H H' → SameT H H' → H' l = some (.lst (xs ++ [y])) → Q .non H') : rAppend (.ref l) [y] H Q :=
  w_app h z (q _ SameX.upd (SameT.upd h rfl) upd_same)
end
theorem lt_line {n : Nat} (h : n ≤ 16000000) : n < sizeLine := Nat.lt_of_le_of_lt h (by decide)
theorem all2_map {α : Type} {f : α → V} : ∀ {as : List α}, All2 (fun v x => v = f x) (as.map f) as
  | [] => .nil
  | _ :: _ => .cons rfl all2_map
theorem lc_all {α : Type} {K : PySem.W.Frag} {a : Addr} {xs : List V} {as : List α} {P : V → α → Prop} {g : TG} {tt : TT} {te : TE} {vs : List Nat} {σ : L2.St} {H0 : Hp} {Qd : Addr → Hp → Prop} (R : Hp → V → α → Prop) (hq : SE K H0 a xs) (hx : All2 P xs as) (hl : as.length ≤ 16000000)
    (mono : ∀ H H' y x, SameT H H' → R H y x → R H' y x)
    (hs : ∀ D v x H (Nx : Hp → Prop), x ∈ as → P v x → Same H0 H → (∃ ys, H D = some (.lst ys)) → (∀ y H4, Same H H4 → R H4 y x → ∃ acc, H4 D = some (.lst acc) ∧ acc.length < sizeLine ∧ Nx (upd H4 D (.lst (acc ++ [y])))) →
      g v (wipe σ vs) H fun σ2 H2 => wipe σ2 vs = wipe σ vs ∧ tt σ2 H2 fun b H3 => if b = true then te σ2 H3 fun y H4 => ∃ acc, H4 D = some (.lst acc) ∧ acc.length < sizeLine ∧ Nx (upd H4 D (.lst (acc ++ [y]))) else Nx H3)
    (hd : ∀ D H ys, Same H0 H → H0 D = none → H D = some (.lst ys) → All2 (R H) ys as → Qd D H) :
    ∃ b, V.ref a = .ref b ∧ (((∃ xs, SqL K H0 b xs) ∧ ∀ D, H0 D = none → ∃ W : Nat → Nat → Hp → Prop, (∃ m, W 0 m (upd H0 D (.lst []))) ∧ ∀ i m H, W i m H →
      ((Itl K b).stop i H ∧ Qd D H) ∨ ((Itl K b).go i H ∧ ∃ Nx : Hp → Prop, (∀ H', Nx H' → ∃ m', m' < m ∧ W (i + 1) m' H') ∧ ∀ x H', (Itl K b).yld i H x H' → g x (wipe σ vs) H' fun σ2 H2 => wipe σ2 vs = wipe σ vs ∧ tt σ2 H2 fun b H3 =>
        if b = true then te σ2 H3 fun y H4 => ∃ acc, H4 D = some (.lst acc) ∧ acc.length < sizeLine ∧ Nx (upd H4 D (.lst (acc ++ [y]))) else Nx H3)) ∨
      ((∃ xs, SqT K H0 b xs) ∧ ∀ D, H0 D = none → ∃ W : Nat → Nat → Hp → Prop, (∃ m, W 0 m (upd H0 D (.lst []))) ∧ ∀ i m H, W i m H →
      ((Itt K b).stop i H ∧ Qd D H) ∨ ((Itt K b).go i H ∧ ∃ Nx : Hp → Prop, (∀ H', Nx H' → ∃ m', m' < m ∧ W (i + 1) m' H') ∧ ∀ x H', (Itt K b).yld i H x H' → g x (wipe σ vs) H' fun σ2 H2 => wipe σ2 vs = wipe σ vs ∧ tt σ2 H2 fun b H3 =>
        if b = true then te σ2 H3 fun y H4 => ∃ acc, H4 D = some (.lst acc) ∧ acc.length < sizeLine ∧ Nx (upd H4 D (.lst (acc ++ [y]))) else Nx H3))) := by
  refine lc_se (xs := xs) (fun i y H => ∃ x, as[i]? = some x ∧ R H y x) hq (by rw [hx.len]; exact hl) (fun i y H1 H2 ⟨x, h1, h2⟩ e => ⟨x, h1, mono _ _ _ _ e h2⟩) ?_ ?_
  · intro D i v H Nx hv e hys k
    obtain ⟨x, h1, h2⟩ := hx.get hv
    exact hs D v x H Nx (List.mem_of_getElem? h1) h2 e hys fun y H4 e4 r => k y H4 e4 ⟨x, h1, r⟩
  · intro D H ys e hD hD2 hl2 hR
    exact hd D H ys e hD hD2 (All2.of_get (by rw [hl2, hx.len]) fun i v hv => hR i v hv)
theorem lc_fil {α : Type} {K : PySem.W.Frag} {a : Addr} {xs : List V} {as : List α} {P : V → α → Prop} {g : TG} {tt : TT} {te : TE} {vs : List Nat} {σ : L2.St} {H0 : Hp} {Qd : Addr → Hp → Prop} (p : α → Bool) (R : Hp → V → α → Prop) (hq : SE K H0 a xs) (hx : All2 P xs as) (hl : as.length ≤ 16000000)
    (mono : ∀ H H' y x, SameT H H' → R H y x → R H' y x)
    (hs : ∀ D v x H (Nx : Hp → Prop), x ∈ as → P v x → Same H0 H → (∃ ys, H D = some (.lst ys)) → (p x = true → ∀ y H4, Same H H4 → R H4 y x → ∃ acc, H4 D = some (.lst acc) ∧ acc.length < sizeLine ∧ Nx (upd H4 D (.lst (acc ++ [y])))) → (p x = false → ∀ H4, Same H H4 → Nx H4) →
      g v (wipe σ vs) H fun σ2 H2 => wipe σ2 vs = wipe σ vs ∧ tt σ2 H2 fun b H3 => if b = true then te σ2 H3 fun y H4 => ∃ acc, H4 D = some (.lst acc) ∧ acc.length < sizeLine ∧ Nx (upd H4 D (.lst (acc ++ [y]))) else Nx H3)
    (hd : ∀ D H ys, Same H0 H → H0 D = none → H D = some (.lst ys) → All2 (R H) ys (as.filter p) → Qd D H) :
    ∃ b, V.ref a = .ref b ∧ (((∃ xs, SqL K H0 b xs) ∧ ∀ D, H0 D = none → ∃ W : Nat → Nat → Hp → Prop, (∃ m, W 0 m (upd H0 D (.lst []))) ∧ ∀ i m H, W i m H →
      ((Itl K b).stop i H ∧ Qd D H) ∨ ((Itl K b).go i H ∧ ∃ Nx : Hp → Prop, (∀ H', Nx H' → ∃ m', m' < m ∧ W (i + 1) m' H') ∧ ∀ x H', (Itl K b).yld i H x H' → g x (wipe σ vs) H' fun σ2 H2 => wipe σ2 vs = wipe σ vs ∧ tt σ2 H2 fun b H3 =>
        if b = true then te σ2 H3 fun y H4 => ∃ acc, H4 D = some (.lst acc) ∧ acc.length < sizeLine ∧ Nx (upd H4 D (.lst (acc ++ [y]))) else Nx H3)) ∨
      ((∃ xs, SqT K H0 b xs) ∧ ∀ D, H0 D = none → ∃ W : Nat → Nat → Hp → Prop, (∃ m, W 0 m (upd H0 D (.lst []))) ∧ ∀ i m H, W i m H →
      ((Itt K b).stop i H ∧ Qd D H) ∨ ((Itt K b).go i H ∧ ∃ Nx : Hp → Prop, (∀ H', Nx H' → ∃ m', m' < m ∧ W (i + 1) m' H') ∧ ∀ x H', (Itt K b).yld i H x H' → g x (wipe σ vs) H' fun σ2 H2 => wipe σ2 vs = wipe σ vs ∧ tt σ2 H2 fun b H3 =>
        if b = true then te σ2 H3 fun y H4 => ∃ acc, H4 D = some (.lst acc) ∧ acc.length < sizeLine ∧ Nx (upd H4 D (.lst (acc ++ [y]))) else Nx H3))) := by
  have step : ∀ D, H0 D = none → ∀ i v H, xs[i]? = some v → (Same H0 H ∧ ∃ ys, H D = some (.lst ys) ∧ All2 (R H) ys ((as.take i).filter p)) →
      g v (wipe σ vs) H fun σ2 H2 => wipe σ2 vs = wipe σ vs ∧ tt σ2 H2 fun b H3 => if b = true then te σ2 H3 fun y H4 => ∃ acc, H4 D = some (.lst acc) ∧ acc.length < sizeLine ∧
        (Same H0 (upd H4 D (.lst (acc ++ [y]))) ∧ ∃ ys, (upd H4 D (.lst (acc ++ [y]))) D = some (.lst ys) ∧ All2 (R (upd H4 D (.lst (acc ++ [y])))) ys ((as.take (i + 1)).filter p)) else (Same H0 H3 ∧ ∃ ys, H3 D = some (.lst ys) ∧ All2 (R H3) ys ((as.take (i + 1)).filter p)) := by
    rintro D hD i v H hv ⟨e, ys, hy, hR⟩
    obtain ⟨x, hxi, hp⟩ := hx.get hv
    have tk := take_snoc hxi
    refine hs D v x H (fun H3 => Same H0 H3 ∧ ∃ ys, H3 D = some (.lst ys) ∧ All2 (R H3) ys ((as.take (i + 1)).filter p)) (List.mem_of_getElem? hxi) hp e ⟨ys, hy⟩ (fun pt y H4 e4 hr => ?_) (fun pf H4 e4 => ?_)
    · have h4 := e4 D _ hy
      have sx : SameT H4 (upd H4 D (.lst (ys ++ [y]))) := SameT.upd h4 rfl
      have yl := hR.len
      have yl2 : ys.length ≤ 16000000 := by rw [yl]; exact Nat.le_trans (List.length_filter_le _ _) (Nat.le_trans (List.length_take_le' _ _) hl)
      refine ⟨ys, h4, Nat.lt_of_le_of_lt yl2 (by decide), same_mut (e.trans e4) hD, ys ++ [y], upd_same, ?_⟩
      rw [tk, List.filter_append, List.filter_cons_of_pos pt, List.filter_nil]
      exact (hR.imp fun _ _ h => mono _ _ _ _ ((SameT.of e4).trans sx) h).app (All2.one (mono _ _ _ _ sx hr))
    · refine ⟨e.trans e4, ys, e4 D _ hy, ?_⟩
      rw [tk, List.filter_append, List.filter_cons_of_neg (by rw [pf]; decide), List.filter_nil, List.append_nil]
      exact hR.imp fun _ _ h => mono _ _ _ _ (SameT.of e4) h
  have fin : ∀ D H, H0 D = none → (Same H0 H ∧ ∃ ys, H D = some (.lst ys) ∧ All2 (R H) ys ((as.take xs.length).filter p)) → Qd D H := by
    rintro D H hD ⟨e, ys, hy, hR⟩
    rw [hx.len, List.take_length] at hR
    exact hd D H ys e hD hy hR
  refine ⟨a, rfl, ?_⟩
  rcases hq with hq | hq
  · exact .inl ⟨⟨xs, hq⟩, fun D hD => lc_list (xs := xs) (fun i H => Same H0 H ∧ ∃ ys, H D = some (.lst ys) ∧ All2 (R H) ys ((as.take i).filter p)) ⟨same_new hD, [], upd_same, by rw [List.take_zero]; exact .nil⟩ (fun i H _ h => same_l h.1 hq) (step D hD) fun H h => fin D H hD h⟩
  · exact .inr ⟨⟨xs, hq⟩, fun D hD => lc_tup (xs := xs) (fun i H => Same H0 H ∧ ∃ ys, H D = some (.lst ys) ∧ All2 (R H) ys ((as.take i).filter p)) ⟨same_new hD, [], upd_same, by rw [List.take_zero]; exact .nil⟩ (fun i H _ h => same_t h.1 hq) (step D hD) fun H h => fin D H hD h⟩
theorem all2_txt {α : Type} {f : α → V} : ∀ {vs : List V} {as : List α}, All2 (fun v x => v = f x) vs as → vs = as.map f
  | _, _, .nil => rfl
  | _, _, .cons h t => by rw [h, all2_txt t, List.map_cons]
local macro_rules | `(tactic| walk_at "ss.") => `(tactic| ((with_reducible refine same_mutX (H := ?M) ?a ?n ?b); (case b => with_reducible assumption); (case n => walk_at "nn"); (case a => walk_at "ss")))
local macro_rules | `(tactic| walk_at "ss.") => `(tactic| ((with_reducible refine Same.trans (H1 := ?M) ?a ?b); (case b => with_reducible assumption); (case a => walk_at "ss")))
local macro_rules | `(tactic| walk_at "ss.") => `(tactic| with_reducible exact Same.refl _)
local macro_rules | `(tactic| walk_at "ss.") => `(tactic| with_reducible assumption)
local macro_rules | `(tactic| walk_at "ss") => `(tactic| first | walk_at "ss." | fail)
local macro_rules | `(tactic| walk_at "nn.") => `(tactic| ((with_reducible refine none_of (H' := ?M) ?e ?h); (case h => with_reducible assumption); (case e => walk_at "ss")))
local macro_rules | `(tactic| walk_at "nn.") => `(tactic| with_reducible assumption)
local macro_rules | `(tactic| walk_at "nn") => `(tactic| first | walk_at "nn." | fail)
local macro_rules | `(tactic| walk_at "lk.") => `(tactic| ((with_reducible refine same_look (H := ?M) ?e ?h); (case h => with_reducible assumption); (case e => walk_at "ss")))
local macro_rules | `(tactic| walk_at "lk.") => `(tactic| with_reducible assumption)
local macro_rules | `(tactic| walk_at "lk") => `(tactic| first | walk_at "lk." | fail)
local macro_rules | `(tactic| walk_at "hp.") => `(tactic| ((with_reducible refine PrAt.mono (H := ?M) ?e ?h); (case h => with_reducible assumption); (case e => walk_at "ss")))
local macro_rules | `(tactic| walk_at "hp.") => `(tactic| ((with_reducible refine RwAt.monoS (H := ?M) ?e ?h); (case h => with_reducible assumption); (case e => walk_at "ss")))
local macro_rules | `(tactic| walk_at "hp.") => `(tactic| ((with_reducible refine BkAt.monoS (H := ?M) ?e ?h); (case h => with_reducible assumption); (case e => walk_at "ss")))
local macro_rules | `(tactic| walk_at "hp.") => `(tactic| ((with_reducible refine FmAt.mono (H := ?M) ?e ?h); (case h => with_reducible assumption); (case e => walk_at "ss")))
local macro_rules | `(tactic| walk_at "hp.") => `(tactic| ((with_reducible refine sq_l (H := ?M) ?e ?h); (case h => with_reducible assumption); (case e => walk_at "ss")))
local macro_rules | `(tactic| walk_at "hp.") => `(tactic| ((with_reducible refine sq_t (H := ?M) ?e ?h); (case h => with_reducible assumption); (case e => walk_at "ss")))
local macro_rules | `(tactic| walk_at "hp.") => `(tactic| ((with_reducible refine same_l (H := ?M) ?e ?h); (case h => with_reducible assumption); (case e => walk_at "ss")))
local macro_rules | `(tactic| walk_at "hp.") => `(tactic| ((with_reducible refine same_t (H := ?M) ?e ?h); (case h => with_reducible assumption); (case e => walk_at "ss")))
local macro_rules | `(tactic| walk_at "hp.") => `(tactic| walk_at "lk")
local macro_rules | `(tactic| walk_at "hp.") => `(tactic| with_reducible assumption)
local macro_rules | `(tactic| walk_at "hp") => `(tactic| first | walk_at "hp." | fail)
local macro_rules | `(tactic| walk_at "gx1.") => `(tactic| ((with_reducible refine w_yes ?e ?_); (case e => (simp only [eq_self_iff_true, decide_true, Bool.not_false]; done))))
local macro_rules | `(tactic| walk_at "gx1.") => `(tactic| ((with_reducible refine w_no ?e ?_); (case e => (simp only [eq_self_iff_true, decide_true, Bool.not_true]; done))))
local macro_rules | `(tactic| walk_at "gx1.") => `(tactic| walk_at "go1")
local macro_rules | `(tactic| walk_at "gx1.") => `(tactic| ((with_reducible refine w_gTup (xs := ?xs) ?h ?l ?_); (case h => walk_at "hp"); (case l => rfl)))
local macro_rules | `(tactic| walk_at "gx1.") => `(tactic| ((with_reducible refine w_lenT (xs := ?xs) ?h ?_); (case h => walk_at "hp")))
local macro_rules | `(tactic| walk_at "gx1.") => `(tactic| ((with_reducible refine w_lenL (xs := ?xs) ?h ?_); (case h => walk_at "hp")))
local macro_rules | `(tactic| walk_at "gx1.") => `(tactic| ((with_reducible refine w_bmL (xs := ?xs) ?h ?_); (case h => walk_at "hp")))
local macro_rules | `(tactic| walk_at "gx1.") => `(tactic| ((with_reducible refine w_ixL (xs := ?xs) (v := ?v) ?h ?e ?_); (case h => walk_at "hp"); (case e => rfl)))
local macro_rules | `(tactic| walk_at "gx1.") => `(tactic| ((with_reducible refine w_ixT (xs := ?xs) (v := ?v) ?h ?e ?_); (case h => walk_at "hp"); (case e => rfl)))
local macro_rules | `(tactic| walk_at "gx1.") => `(tactic| ((with_reducible refine w_nw ?z (fun p H2 hn he hp => ?_)); (case z => walk_at "sz")))
local macro_rules | `(tactic| walk_at "gx1.") => `(tactic| with_reducible refine w_tup' ?_)
local macro_rules | `(tactic| walk_at "gx1.") => `(tactic| with_reducible refine w_lst' ?_)
local macro_rules | `(tactic| walk_at "gx1") => `(tactic| first | walk_at "gx1." | fail)
local macro_rules | `(tactic| walk_at "gx") => `(tactic| repeat walk_at "gx1")
local macro_rules | `(tactic| walk_at "gxn") => `(tactic| repeat ((fail_if_success (with_reducible refine w_next ?_)); walk_at "gx1"))
theorem BkAt.take {K : PySem.W.Frag} {S : SQ} {H : Hp} : ∀ {vs : List V} {l : List Rw} (n : Nat), BkAt K S H vs l → BkAt K S H (vs.take n) (l.take n)
  | _, _, 0, _ => .nil
  | _, _, _ + 1, .nil => .nil
  | _, _, n + 1, .cons h t => .cons h (t.take n)
theorem nests_take : ∀ (l : List Rw) (n : Nat), nests (l.take n) ≤ nests l
  | _, 0 => Nat.zero_le _
  | [], _ + 1 => Nat.le_refl _
  | r :: l, n + 1 => by
    show max r.nest (nests (l.take n)) ≤ max r.nest (nests l)
    have := nests_take l n
    omega
theorem w_slC' {K : PySem.W.Frag} {H : Hp} {Q : VK} {a : Addr} {ns : List Int} (h : SqL K H a (ns.map V.int)) (lo hi : Option Int) (q : ∀ p H' cs, H p = none → Same H H' → H' p = some (.lst (cs.map V.int)) → List.Sublist cs ns → Q (.ref p) H') : rSl K (.ref a) lo hi H Q :=
  w_slL' h fun p H' hp e hp2 => by
    obtain ⟨cs, e2, s⟩ := cut_map (f := V.int) (xs := ns) lo hi
    rw [e2] at hp2
    exact q p H' cs hp e hp2 s
theorem w_rep {H : Hp} {Q : VK} {l : Addr} {x : V} {n : Nat} (h : H l = some (.lst [x])) (hn : n ≤ 1000000) (q : ∀ p H', H p = none → Same H H' → H' p = some (.lst (List.replicate n x)) → Q (.ref p) H') : rMul (.ref l) (.int (n : Nat)) H Q := by
  have e : (List.replicate ((n : Nat) : Int).toNat [x]).flatten = List.replicate n x := by
    rw [Int.toNat_natCast]
    clear h hn q
    induction n with
    | zero => rfl
    | succ n ih => rw [List.replicate_succ, List.flatten_cons, ih, List.replicate_succ] <;> rfl
  refine .inr ⟨l, n, [x], rfl, rfl, h, by omega, by omega, sz (by simp only [List.length_singleton, Int.toNat_natCast]; omega), fun p hp => ?_⟩
  rw [e]
  exact q p _ hp (same_new hp) upd_same
mutual
inductive SzAt (K : PySem.W.Frag) (H : Hp) : V → Nat → Rw → Prop where
  | one {t : Addr} {v : V} {k : Nat} {r : Rw} (h : SqT K H t [.int (k : Nat), v]) (hr : RwAt K (SqT K) H v r) (hp : r.parts = []) : SzAt K H (.ref t) k r
  | ite {t l m : Addr} {v : V} {k : Nat} {f : Fm} {a b : List Rw} {xs ys : List V} (h : SqT K H t [.int (k : Nat), v, .ref l, .ref m]) (hr : RwAt K (SqT K) H v (.ite f a b)) (hl : H l = some (.lst xs)) (ha : SzL K H xs (k + 1) a) (hm : H m = some (.lst ys)) (hb : SzL K H ys (k + 1 + szs a) b) : SzAt K H (.ref t) k (.ite f a b)
  | whl {t l : Addr} {v : V} {k : Nat} {f : Fm} {a : List Rw} {xs : List V} (h : SqT K H t [.int (k : Nat), v, .ref l]) (hr : RwAt K (SqT K) H v (.whl f a)) (hl : H l = some (.lst xs)) (ha : SzL K H xs (k + 1) a) : SzAt K H (.ref t) k (.whl f a)
inductive SzL (K : PySem.W.Frag) (H : Hp) : List V → Nat → List Rw → Prop where
  | nil {k : Nat} : SzL K H [] k []
  | cons {v : V} {vs : List V} {k : Nat} {r : Rw} {l : List Rw} (h : SzAt K H v k r) (t : SzL K H vs (k + r.size) l) : SzL K H (v :: vs) k (r :: l)
end
/-- tuples and these lists stay -/
def SameK (H H' : Hp) : Prop := SameT H H' ∧ ∀ l xs, H l = some (.lst xs) → H' l = some (.lst xs)
theorem SameK.of {H H' : Hp} (e : Same H H') : SameK H H' := ⟨SameT.of e, fun l xs h => e l _ h⟩
mutual
theorem SzAt.go {K : PySem.W.Frag} {H H' : Hp} (e : SameK H H') : ∀ {v : V} {k : Nat} {r : Rw}, SzAt K H v k r → SzAt K H' v k r
  | _, _, _, .one h hr hp => .one (sameT_t e.1 h) (hr.monoT e.1) hp
  | _, _, _, .ite h hr hl ha hm hb => .ite (sameT_t e.1 h) (hr.monoT e.1) (e.2 _ _ hl) (ha.go e) (e.2 _ _ hm) (hb.go e)
  | _, _, _, .whl h hr hl ha => .whl (sameT_t e.1 h) (hr.monoT e.1) (e.2 _ _ hl) (ha.go e)
theorem SzL.go {K : PySem.W.Frag} {H H' : Hp} (e : SameK H H') : ∀ {vs : List V} {k : Nat} {l : List Rw}, SzL K H vs k l → SzL K H' vs k l
  | _, _, _, .nil => .nil
  | _, _, _, .cons h t => .cons (h.go e) (t.go e)
end
theorem SzL.snoc {K : PySem.W.Frag} {H : Hp} {v : V} {r : Rw} : ∀ {vs : List V} {k : Nat} {l : List Rw}, SzL K H vs k l → SzAt K H v (k + szs l) r → SzL K H (vs ++ [v]) k (l ++ [r])
  | _, _, _, .nil, h => .cons h .nil
  | _, _, _, .cons (k := k) (r := q) (l := l) h t, h2 => .cons h (t.snoc (by rw [Nat.add_assoc]; exact h2))
theorem SzL.len {K : PySem.W.Frag} {H : Hp} : ∀ {vs : List V} {k : Nat} {l : List Rw}, SzL K H vs k l → vs.length = l.length
  | _, _, _, .nil => rfl
  | _, _, _, .cons _ t => congrArg (· + 1) t.len
/-- the lists behind a row's tuple -/
inductive SzP (K : PySem.W.Frag) (H : Hp) : List V → List (List Rw) → Prop where
  | nil : SzP K H [] []
  | cons {l : Addr} {xs : List V} {k : Nat} {b : List Rw} {vs : List V} {bs : List (List Rw)} (hl : H l = some (.lst xs)) (h : SzL K H xs k b) (t : SzP K H vs bs) : SzP K H (.ref l :: vs) (b :: bs)
theorem SzAt.parts {K : PySem.W.Frag} {H : Hp} {v : V} {k : Nat} {r : Rw} (h : SzAt K H v k r) : ∃ t u vs, v = .ref t ∧ SqT K H t (.int (k : Nat) :: u :: vs) ∧ RwAt K (SqT K) H u r ∧ SzP K H vs r.parts := by
  cases h with
  | one h hr hp => exact ⟨_, _, [], rfl, h, hr, by rw [hp]; exact .nil⟩
  | ite h hr hl ha hm hb => exact ⟨_, _, _, rfl, h, hr, .cons hl ha (.cons hm hb .nil)⟩
  | whl h hr hl ha => exact ⟨_, _, _, rfl, h, hr, .cons hl ha .nil⟩
theorem none_x {p a : Addr} {H H' : Hp} {o : HO} (e : SameX p H H') (h : H' p = some o) (n : H' a = none) : H a = none := by
  cases d : H a with
  | none => rfl
  | some u =>
    by_cases c : a = p
    · rw [c, h] at n
      exact nomatch n
    · rw [e _ _ c d] at n
      exact nomatch n
def Fm.wds : Fm → List (List Nat)
  | .num n => [TL.numL n.toNat]
  | .nam x => [cs x]
  | .op s a b => cs s.txt :: (a.wds ++ b.wds)
def ln (ws : List (List Nat)) : Str := SX.S (TL.joinL [32] ws)
theorem cs_S (x : Str) : SX.S (cs x) = x := SX.S_tl x
mutual
def Rw.lns : Rw → List Str
  | .set x f => [ln (cs "set" :: cs x :: f.wds)]
  | .tell f => [ln (cs "tell" :: f.wds)]
  | .skip => ["skip"]
  | .ite f a b => ln (cs "if" :: f.wds) :: (lnsB a ++ ("else" : Str) :: (lnsB b ++ [("end" : Str)]))
  | .whl f a => ln (cs "while" :: f.wds) :: (lnsB a ++ [("end" : Str)])
def lnsB : List Rw → List Str
  | [] => []
  | r :: l => r.lns ++ lnsB l
end
/-- a row's first line, in words -/
def Rw.w1 : Rw → List (List Nat)
  | .set x f => cs "set" :: cs x :: f.wds
  | .tell f => cs "tell" :: f.wds
  | .skip => [cs "skip"]
  | .ite f _ _ => cs "if" :: f.wds
  | .whl f _ => cs "while" :: f.wds
theorem lns_hd (r : Rw) : ∃ t, r.lns = ln r.w1 :: t := by
  cases r with
  | skip => exact ⟨[], by show [("skip" : Str)] = [ln [cs "skip"]]; rw [show ln [cs ("skip" : Str)] = "skip" from cs_S _]⟩
  | set x f => exact ⟨_, rfl⟩
  | tell f => exact ⟨_, rfl⟩
  | ite f a b => exact ⟨_, rfl⟩
  | whl f a => exact ⟨_, rfl⟩
theorem ln_hd {r : Rw} : ∃ c t, cs (ln r.w1) = c :: t ∧ c ≠ 101 := by
  have e : ∀ l : List Nat, cs (SX.S l) = l := fun l => by unfold cs; simp
  have k : ∀ (w : List Nat) (ws : List (List Nat)) (c : Nat) (t : List Nat), w = c :: t → ∃ u, cs (ln (w :: ws)) = c :: u := by
    intro w ws c t h
    unfold ln
    rw [e, h]
    cases ws with
    | nil => exact ⟨t, rfl⟩
    | cons p q => exact ⟨_, rfl⟩
  cases r with
  | skip => obtain ⟨u, hu⟩ := k (cs "skip") [] 115 (cs "kip") (by decide +kernel); exact ⟨_, u, hu, by decide⟩
  | set x f => obtain ⟨u, hu⟩ := k (cs "set") (cs x :: f.wds) 115 (cs "et") (by decide +kernel); exact ⟨_, u, hu, by decide⟩
  | tell f => obtain ⟨u, hu⟩ := k (cs "tell") f.wds 116 (cs "ell") (by decide +kernel); exact ⟨_, u, hu, by decide⟩
  | ite f a b => obtain ⟨u, hu⟩ := k (cs "if") f.wds 105 (cs "f") (by decide +kernel); exact ⟨_, u, hu, by decide⟩
  | whl f a => obtain ⟨u, hu⟩ := k (cs "while") f.wds 119 (cs "hile") (by decide +kernel); exact ⟨_, u, hu, by decide⟩
theorem ln_not (r : Rw) : ln r.w1 ≠ "else" ∧ ln r.w1 ≠ "end" := by
  obtain ⟨c, t, h, n⟩ := ln_hd (r := r)
  refine ⟨fun e => n ?_, fun e => n ?_⟩
  · rw [e] at h
    have : cs ("else" : Str) = 101 :: cs "lse" := by decide +kernel
    rw [this] at h
    exact (List.cons.inj h).1.symm
  · rw [e] at h
    have : cs ("end" : Str) = 101 :: cs "nd" := by decide +kernel
    rw [this] at h
    exact (List.cons.inj h).1.symm
section
variable {X : Cx} {st : Stmt} {body : List Stmt} {e : Expr} {t t' : TS} {te te' : TE}
theorem ps_imp (h : PS X st t) (i : ∀ D σ H, t' D σ H → t D σ H) : PS X st t' := ⟨fun pins s σ H D I q => h.run pins s σ H D I (i D σ H q)⟩
theorem pe_imp (h : PE X e te) (i : ∀ σ H Q, te' σ H Q → te σ H Q) : PE X e te' := ⟨fun pins s σ H Q I q => h.run pins s σ H Q I (i σ H Q q)⟩
end
abbrev tailVE : List Value := [.type "ValueError", .type "Exception", .type "BaseException", .type "object"]
/-- C is the class named x -/
def IsX (K : PySem.W.Frag) (x : Str) (C : Addr) : Prop := PySem.W.nsIn K mainGlobals x = some (some (.ref C))
theorem IsX.eq {K : PySem.W.Frag} {x : Str} {C D : Addr} (a : IsX K x C) (b : IsX K x D) : C = D := Value.ref.inj (Option.some.inj (Option.some.inj (Eq.trans (Eq.symm a) b)))
/-- a class that is raised -/
structure XCls (K : PySem.W.Frag) (mg : Str → Option Value) (x : Str) : Prop where
  ex : ∃ C, IsX K x C ∧ mg x = some (.ref C) ∧ PySem.W.excIn K C tailVE "ValueError.__new__" = true ∧ PySem.W.keepIn K (.ref C) = true ∧ PySem.W.subIn K (.ref C) (.type "BaseException") = some true ∧ PySem.W.typeIn K (.ref C) = some (.type "type")
/-- the wish of a def's body about what is raised -/
abbrev WD (E : XK) : WX := fun cls d _ H => E cls d H
def tRaise (K : PySem.W.Frag) (x : Str) (W : WX) : TS := fun _ σ H => ∀ C, IsX K x C → W (.ref C) none σ H
section
variable {X : Cx} {W : WX} {x m : Str} {j : Nat} {p p2 pos pos' : Pos}
theorem ps_raiseN (c : XCls X.K X.mg x) (hc : X.calm = true) (tk : Takes X W) (hg : Gl X x) (hd : (x == ("__debug__" : Str)) = false := by decide) :
    PS X (.Raise (some (.Call (.Name x p) [.Constant (.str m) j p2] [] pos)) none pos') (tRaise X.K x W) := by
  obtain ⟨C, i, gC, q, kC, b, t⟩ := c.ex
  exact ps_imp (ps_raise hc tk (pmk_own PySem.F.excBase_ValueError q gC kC (raises_own b t) hg hd)) fun _ _ _ q => q C i
end
/-- a def that may raise, as it is called -/
structure CalX (P : Program) (w : World) (K : PySem.W.Frag) (mg : Str → Option Value) (base : Heap) (k : Nat) (x : Str) (sp : Sp) : Prop where
  ex : ∃ (f : Addr) (fd : FuncData) (ps : List Str), FnOk P w K mg base (L2.CX P w) k f fd ps sp ∧ mg x = some (.ref f) ∧ PySem.W.keepIn K (.ref f) = true ∧ Binds K fd ps []
section
variable {P : Program} {w : World} {K : PySem.W.Frag} {mg : Str → Option Value} {base : Heap}
theorem CalX.mono {j k : Nat} {x : Str} {sp : Sp} (c : CalX P w K mg base j x sp) (h : j ≤ k) : CalX P w K mg base k x sp := by
  obtain ⟨f, fd, ps, F, r⟩ := c.ex
  exact ⟨f, fd, ps, F.mono h, r⟩
theorem calX_of {x : Str} {st : Stmt} {N ps : List Str} {k : Nat} {sp : Sp} (D : DefAt K mg x st ps) (S : FnScope N ps (defScope st)) (len : ∀ vs H Q E, sp vs H Q E → vs.length = ps.length)
    (hbody : ∀ (f : Addr) (cdv : Value) (A : Around) (outer : List Env) (s : Shared) (H : Hp) (vs : List V) (Q : VK) (E : XK), Room k (A.deeper (envOfC x (defScope st) s.heap.objs.size f cdv)) → sp vs H Q E →
      ∃ t, PSs (cxOf (L2.CX P w) P w K mg base N x (defScope st) f cdv A outer s H E) (defBody st) t ∧ t { nx := fun _ H' => Q .non H', rt := Q } (start N vs) H) : CalX P w K mg base (k + 1) x sp := by
  obtain ⟨f, fd, F, m, b⟩ := D.ex
  exact ⟨f, fd, ps, F.okX S len fun cdv A outer s H vs Q E => hbody f cdv A outer s H vs Q E, m, F.kp, b⟩
theorem calX_none {x : Str} {st : Stmt} {ps : List Str} {k : Nat} {sp : Sp} (D : DefAt K mg x st ps) (no : ∀ vs H Q E, ¬ sp vs H Q E) : CalX P w K mg base k x sp := by
  obtain ⟨f, fd, F, m, b⟩ := D.ex
  exact ⟨f, fd, ps, ⟨fun vs H Q E h => absurd h (no vs H Q E), fun A outer s H args us vs Q E _ _ _ _ h => absurd h (no vs H Q E)⟩, m, F.kp, b⟩
end
def tFX (sp : Sp) (W : WX) (t : TA) : TE := fun σ H Q => t σ H fun vs H1 => sp vs H1 Q fun c d H2 => W c d σ H2
section
variable {X : Cx} {W : WX} {k j : Nat} {x : Str} {sp : Sp} {p pos : Pos} {e : Expr} {es : List Expr} {t : TA}
theorem pe_fX (c : CalX X.prog X.w X.K X.mg X.base k x sp) (hr : Room j X.A) (hk : k ≤ j) (tk : Takes X W) (ha : PA X (e :: es) t) (hg : Gl X x := by rfl)
    (hdb : (x == ("__debug__" : Str)) = false := by decide) (he : starEach (e :: es) X.env = (false, eval e X.env) :: starEach es X.env := by rfl) (hpl : (backTo pos (starEach es X.env)).any (·.1) = false := by rfl) :
    PE X (.Call (.Name x p) (e :: es) [] pos) (tFX sp W t) := by
  obtain ⟨f, fd, ps, F, hm, kp, b⟩ := c.ex
  exact pe_callS (E := WE W) F (hr.mono hk) hg hm kp b (passAt tk) ha hdb he hpl
end
abbrev XNames : List Str := ["NoName", "Twice", "NoRow", "TooDeep", "NoValues", "NoTurns", "NoLine"]
def tX (K : PySem.W.Frag) (x : Str) : TE := fun _ H Q => ∀ C, IsX K x C → Q (.ref C) H
theorem pe_globX {X : Cx} {x : Str} {pos : Pos} (hg : Gl X x) (h : ∃ C, IsX X.K x C ∧ X.mg x = some (.ref C)) (hd : (x == ("__debug__" : Str)) = false := by decide) : PE X (.Name x pos) (tX X.K x) := by
  obtain ⟨C, i, m⟩ := h
  exact pe_imp (pe_glob (v := .ref C) hg m rfl hd) fun _ _ _ q => q C i
/-- what the class named x, at D, says where it is caught -/
structure XGot (K : PySem.W.Frag) (x : Str) (D : Addr) : Prop where
  mem : x ∈ XNames
  is : IsX K x D
  asks : ExcC K D
  hush : ∃ C, IsX K "HushError" C ∧ PySem.W.exmOne K (.ref D) (.ref C) = some true
  ve : PySem.W.kitOne K (.ref D) (.type "ValueError") = some true
  each : ∀ y ∈ XNames, ∃ C, IsX K y C ∧ PySem.W.kitOne K (.ref D) (.ref C) = some (decide (x = y))
/-- isinstance(e, c), e at a of the class named x -/
def rIsX (K : PySem.W.Frag) (x : Str) (a : Addr) : List V → Hp → VK → Prop := fun xs H Q => (∃ y C, xs = [.ref a, .ref C] ∧ y ∈ XNames ∧ IsX K y C ∧ Q (.bl (decide (x = y))) H) ∨ (xs = [.ref a, .ty "ValueError"] ∧ Q (.bl true) H)
theorem call_isX {X : Cx} {x : Str} {D : Addr} {p : Addr × Obj} (hp : p ∈ X.pn) (G : XGot X.K x D) (hz : Zc (.ref D) none p.2) (hf : ∃ vs, p.2.data = .fields vs) : CallR X (.builtin "isinstance") (rIsX X.K x p.1) := by
  intro pins s σ H xs us Q I r h
  have C := G.asks
  obtain ⟨hget, _⟩ := I.pin p (List.mem_append_left _ hp)
  have J : PySem.W.InstAt s.heap p.1 p.2 D none := by
    obtain ⟨a, oc, od, oda, osl⟩ := p
    obtain ⟨h1, h2⟩ := hz
    obtain ⟨vs, hv⟩ := hf
    dsimp only at h1 h2 hv
    subst h1 h2 hv
    exact ⟨hget, rfl, rfl, trivial⟩
  have fin : ∀ {cv : Value} {b : Bool}, PySem.W.kitOne X.K (.ref D) cv = some b → Q (.bl b) H → wpAny (model X.prog X.w) X.A (call (.builtin "isinstance") [.ref p.1, cv]) (EP X pins σ Q) X.xe s := fun {cv b} e q =>
    PySem.W.kia_one (PySem.W.handS_kitx_exc C.hg C.hk C.hs C.hd C.ha C.hn C.ht C.hm) I.kIn J e (fun z => nomatch z) fun tk => ⟨.bl b, H, I.kept (t' := tk) fun _ _ z => z, rfl, q⟩
  rcases h with ⟨y, C', rfl, hy, hi, q⟩ | ⟨rfl, q⟩
  · cases r with
    | cons rx rr =>
      cases rr with
      | cons rt rr =>
        cases rr
        cases rx
        cases rt
        obtain ⟨C2, i2, k⟩ := G.each y hy
        have e := i2.eq hi
        subst e
        exact fin k q
  · cases r with
    | cons rx rr =>
      cases rr with
      | cons rt rr =>
        cases rr
        cases rx
        cases rt
        exact fin G.ve q
/-- which classes the body may raise -/
structure XTop (K : PySem.W.Frag) (rs : List Str) : Prop where
  one : ∀ x ∈ rs, ∃ D, XGot K x D
/-- what the clause wishes: slot i is e's -/
def wHush (K : PySem.W.Frag) (rs : List Str) (i : Nat) (ts : Str → Addr → TS) (D : Ends) : WX := fun cls d σ H => ∃ x C, cls = .ref C ∧ d = none ∧ x ∈ rs ∧ IsX K x C ∧
  ∀ a, H a = none → ts x a { nx := fun σ' H' => D.nx (σ'.set i none) H', rt := D.rt, bk := fun σ' H' => D.bk (σ'.set i none) H', ct := fun σ' H' => D.ct (σ'.set i none) H' } (σ.set i (some (.ref a))) H
def tTry (K : PySem.W.Frag) (rs : List Str) (i : Nat) (tb : WX → TS) (ts : Str → Addr → TS) : TS := fun D σ H => tb (wHush K rs i ts D) D σ H
section
variable {X : Cx} {n : Str} {i : Nat} {rs : List Str} {body suite : List Stmt} {b₀ : Stmt} {np pos pos' : Pos} {tb : WX → TS} {ts : Str → Addr → TS}
theorem ps_tryH (T : XTop X.K rs) (hm : ∃ C, IsX X.K "HushError" C ∧ X.mg "HushError" = some (.ref C)) (hs : X.stack = X.env :: X.outer) (hf : X.env.frame = some X.env.locals) (hN : X.N.Nodup) (hi : X.N[i]? = some n) (hln : X.env.kindOf n = some .local) (hg : Gl X "HushError")
    (hb : ∀ (W : WX) (pn : List (Addr × Obj)) (xe : Value → Shared → Prop), Takes (X.tr pn xe) W → PSs (X.tr pn xe) body (tb W))
    (hsu : ∀ (x : Str) (D : Addr) (a : Addr) (oe : Obj) (pn : List (Addr × Obj)), XGot X.K x D → Zc (.ref D) none oe → (∃ vs, oe.data = .fields vs) → PSs (X.suite a ((a, oe) :: pn)) (b₀ :: suite) (ts x a)) :
    PS X (.Try body [.ExceptHandler (some (.Name "HushError" np)) (some n) (b₀ :: suite) pos'] [] [] pos) (tTry X.K rs i tb ts) := by
  obtain ⟨C, iC, gC⟩ := hm
  have h := ps_try_as (X := X) (x := "HushError") (n := n) (c := .ref C) (i := i) (body := body) (suite := suite) (b₀ := b₀) (np := np) (pos := pos) (pos' := pos')
    (tb := fun W D σ H => ∃ W' : WX, (∀ c d σ H, W' c d σ H → W c d σ H) ∧ tb W' D σ H)
    (ts := fun a cls d D σ H => ∃ x D', cls = .ref D' ∧ d = none ∧ XGot X.K x D' ∧ ts x a D σ H) (Wout := fun _ _ _ _ => False) hs hf hN hi hln ⟨hg, by decide, .inl gC⟩ takes0
    (fun W pn xe tk _ => ⟨fun pins s σ H D I q => by
      obtain ⟨W', le, q⟩ := q
      exact (hb W' pn xe (tk.imp le)).run pins s σ H D I q⟩)
    (fun a oe cls d pn hz hf => ⟨fun pins s σ H D I q => by
      obtain ⟨x, D', rfl, rfl, G, q⟩ := q
      exact (hsu x D' a oe pn G hz hf).run pins s σ H D I q⟩)
  refine ps_imp h fun D σ H q => ⟨wHush X.K rs i ts D, fun c d σ H w => ?_, q⟩
  obtain ⟨x, C', rfl, rfl, hx, i', w⟩ := w
  obtain ⟨D', G⟩ := T.one x hx
  have e := G.is.eq i'
  subst e
  obtain ⟨Ch, ih, eh⟩ := G.hush
  have e := ih.eq iC
  subst e
  exact ⟨true, eh, fun _ a ha => ⟨x, D', rfl, rfl, G, w a ha⟩, fun z => nomatch z⟩
end
structure FnE (P : Program) (w : World) (K : PySem.W.Frag) (mg : Str → Option Value) (base : Heap) (k : Nat) (f : Addr) (fd : FuncData) (ps : List Str) (D : Addr) (v : V) : Prop where
  run : ∀ (A : Around) (fr : List Env) (s : Shared) (H : Hp) (p : Addr × Obj) (args : Args) (Q : VK), L2H.RoomH k A → Zc (.ref D) none p.2 → (∃ fs, p.2.data = .fields fs) → L2H.PinOk fr H s p → Env0 P w K mg base A fr s H →
    BindsTo s fd args (ps.zip [.ref p.1]) → (∀ H', Same H H' → Q v H') → codeAny (model P w) A (.call (.ref f) args) (CR CX0 fr P w H s Q E0) s
  one : ps.length = 1
theorem fun_okE {P : Program} {w : World} {K : PySem.W.Frag} {mg : Str → Option Value} {base : Heap} {x qual : Str} {st : Stmt} {f : Addr} {fd : FuncData} {N ps : List Str} {k : Nat} {D : Addr} {v : V} (F : Fun K x qual st f fd) (S : FnScope N ps (defScope st)) (one : ps.length = 1)
    (hbody : ∀ (cdv : Value) (A : Around) (fr : List Env) (s : Shared) (H : Hp) (p : Addr × Obj) (Q : VK), L2H.RoomH k (A.deeper (envOfC qual (defScope st) s.heap.objs.size f cdv)) → Zc (.ref D) none p.2 → (∃ fs, p.2.data = .fields fs) → (∀ H', Same H H' → Q v H') →
      ∃ t, PSs (L2H.cxH CX0 P w K mg base N qual (defScope st) f cdv A fr s H E0 p) (defBody st) t ∧ t { nx := fun _ H' => Q .non H', rt := Q } (start N [.ref p.1]) H) : FnE P w K mg base (k + 1) f fd ps D v := by
  obtain ⟨oc, od, kV, doc, pm, an, cdv, ct, osl, rfl, lk, hcd⟩ := F.ex
  refine ⟨fun A fr s H p args Q hr hz hf hp e0 hb q => ?_, one⟩
  have stays : ∀ b o, base.get? b = some o → s.heap.get? b = some o := fun b o e => (e0.bs b o e).1
  have inS : K.In s.heap := e0.mod.kin.keeps stays
  have hk : ∀ y ∈ ps.zip [Value.ref p.1], (defScope st).names.lookup y.1 = some .local ∨ ((defScope st).names.lookup y.1 = some .cell ∧ ((cellsFrom (s.heap.objs.size + 1) (defScope st).names []).lookup y.1).isSome = true) := by
    rintro ⟨n, u⟩ hy
    rcases S.par n (List.of_mem_zip hy).1 with z | z
    · exact .inl z
    · exact .inr ⟨z, PySem.W.cellsFrom_some _ _ _ (.inl z)⟩
  refine codeAny_call_function hr.depth (inS _ _ lk) rfl S.co S.gen rfl (PySem.W.codeRec_of inS hcd) (hb _ _ _ _ ?_)
  refine wpAny_newFunctionEnv_cells S.kind hk fun env he s1 x => ?_
  subst he
  refine ⟨(e0.mod.nolimit.keeps stays).keeps x.toInCall.keep, codeAny_func ?_⟩
  obtain ⟨t, ht, hq⟩ := hbody cdv A fr s H p Q (hr.deeper _) hz hf q
  have I := L2H.inv_startH (CX := CX0) (E := E0) S hp e0 (vs := [.ref p.1]) (us := [Value.ref p.1]) (by rw [one] <;> rfl) (.cons rfl .nil) x
  refine wpAny_mono (ht.run [] s1 _ H _ I hq) (fun fl s' hs => ?_) fun _ _ hs => hs
  cases fl with
  | ret u => exact let ⟨v, σ', H', J, rv, q⟩ := hs; ⟨v, H', J.os, J.bare, J.base, J.hok, rv, q⟩
  | next => exact let ⟨σ', H', J, q⟩ := hs; ⟨.non, H', J.os, J.bare, J.base, J.hok, rfl, q⟩
  | brk => exact let ⟨_, _, _, q⟩ := hs; q.elim
  | cont => exact let ⟨_, _, _, q⟩ := hs; q.elim
/-- .. as it is called in the suite -/
structure CalE (P : Program) (w : World) (K : PySem.W.Frag) (mg : Str → Option Value) (base : Heap) (k : Nat) (x : Str) (v : V) : Prop where
  ex : ∃ (f : Addr) (fd : FuncData) (ps : List Str), (∀ (y : Str) (D : Addr), XGot K y D → FnE P w K mg base k f fd ps D v) ∧ mg x = some (.ref f) ∧ PySem.W.keepIn K (.ref f) = true ∧ Binds K fd ps []
theorem calE_of {P : Program} {w : World} {K : PySem.W.Frag} {mg : Str → Option Value} {base : Heap} {x : Str} {st : Stmt} {N ps : List Str} {k : Nat} {v : V} (D : DefAt K mg x st ps) (S : FnScope N ps (defScope st)) (one : ps.length = 1)
    (hbody : ∀ (y : Str) (D : Addr), XGot K y D → ∀ (f : Addr) (cdv : Value) (A : Around) (fr : List Env) (s : Shared) (H : Hp) (p : Addr × Obj) (Q : VK), L2H.RoomH k (A.deeper (envOfC x (defScope st) s.heap.objs.size f cdv)) → Zc (.ref D) none p.2 → (∃ fs, p.2.data = .fields fs) → (∀ H', Same H H' → Q v H') →
      ∃ t, PSs (L2H.cxH CX0 P w K mg base N x (defScope st) f cdv A fr s H E0 p) (defBody st) t ∧ t { nx := fun _ H' => Q .non H', rt := Q } (start N [.ref p.1]) H) : CalE P w K mg base (k + 1) x v := by
  obtain ⟨f, fd, F, m, b⟩ := D.ex
  exact ⟨f, fd, ps, fun y D G => fun_okE F S one fun cdv A fr s H p Q => hbody y D G f cdv A fr s H p Q, m, F.kp, b⟩
def tFE (a : Addr) (v : V) (t : TA) : TE := fun σ H Q => t σ H fun vs H1 => vs = [.ref a] ∧ ∀ H', Same H1 H' → Q v H'
section
variable {X : Cx} {k j : Nat} {x y : Str} {D : Addr} {v : V} {q pos : Pos} {e : Expr} {es : List Expr} {t : TA} {p : Addr × Obj}
theorem pe_fE (c : CalE X.prog X.w X.K X.mg X.base k x v) (G : XGot X.K y D) (hz : Zc (.ref D) none p.2) (hf : ∃ vs, p.2.data = .fields vs) (hp : p ∈ X.pn) (hr : L2H.RoomH j X.A) (hk : k ≤ j) (ha : PA X (e :: es) t) (hg : Gl X x := by rfl)
    (hdb : (x == ("__debug__" : Str)) = false := by decide) (he : starEach (e :: es) X.env = (false, eval e X.env) :: starEach es X.env := by rfl) (hpl : (backTo pos (starEach es X.env)).any (·.1) = false := by rfl) :
    PE X (.Call (.Name x q) (e :: es) [] pos) (tFE p.1 v t) := by
  obtain ⟨f, fd, ps, F, hm, kp, b⟩ := c.ex
  have F := F y D G
  refine ⟨fun pins s σ H Q I h => wpAny_Call_Name_kw (ld_glob I hg hm ?_ hdb)⟩
  refine PySem.W.callWith_K (h₀ := X.base) I.ok.mod.kin kp (thn (ha.run pos pins s σ H _ I h) fun us s1 ⟨vs, H1, I1, r, ev, q1⟩ => ⟨I1.kIn, ?_⟩) he hpl
  subst ev
  cases r with
  | cons ru rn =>
    cases rn
    cases ru
    have P1 := I1.pin p (List.mem_append_left _ hp)
    have hpin : L2H.PinOk X.stack H1 s1 p := ⟨P1.1, P1.2.1, fun hm => (List.mem_cons.mp (I1.stkSub p.1 hm)).elim P1.2.2.1 P1.2.2.2.1, P1.2.2.2.2⟩
    have bb := b s1 [Value.ref p.1] I1.kIn (by rw [F.one] <;> rfl)
    rw [List.append_nil] at bb
    refine wpAny_call (codeAny_mono (F.run X.A X.stack s1 H1 p ⟨[Value.ref p.1], []⟩ Q (hr.mono hk) hz hf hpin I1.env0 bb q1) fun r s' hq => ?_)
    match r, hq with
    | .error _, hq => exact hq.elim
    | .ok (.ret u), hq => exact I1.after hq
    | .ok .next, hq => exact hq.elim
    | .ok .brk, hq => exact hq.elim
    | .ok .cont, hq => exact hq.elim
end
def rCount (K : PySem.W.Frag) : V → List V → Hp → VK → Prop := fun x xs H Q => ∃ (a : Addr) (ys : List V) (y : V), x = V.ref a ∧ xs = [y] ∧ SqL K H a ys ∧ flatV y = true ∧ ys.all flatV = true ∧ Q (.int ((ys.countP fun z => eqV z y : Nat) : Int)) H
theorem count_eqU {x : V} : ∀ {xs : List V} {us : List Value}, Vals xs us → xs.all flatV = true → us.countP (eqU x) = xs.countP fun y => eqV y x
  | _, _, .nil, _ => rfl
  | y :: xs, u :: us, .cons r t, f => by
    rw [List.all_cons, Bool.and_eq_true] at f
    rw [List.countP_cons, List.countP_cons, count_eqU t f.2, eqU_of r f.1]
theorem mt_countL {X : Cx} : MtR X "list.count" (rCount X.K) := by
  intro pins s σ H x xs v us Q I rx rxs h
  obtain ⟨a, ys, y, rfl, rfl, hs, fy, fys, q⟩ := h
  cases rx
  cases rxs with
  | cons ry rt =>
    rename_i uy ut
    cases rt
    obtain ⟨its, rv, ⟨⟨cls, dd, data, sl⟩, n, ho, hc, hdn, hd⟩, hlen⟩ := I.list hs
    simp only at hc hd
    subst hc hd
    refine call_meets PySem.F.slot_list_count ⟨_, ho, rfl⟩ PySem.F.entry_list_count (PySem.F.args_list_count_2 _ _) (SeqAt.list_countAt a its.toArray n dd sl uy (eqU y)) ⟨ho, fun u' hu' => mem_eqAt ry fy rv fys u' (by simpa using hu'), ?_⟩
    exact ⟨.int _, H, I.tok _, ⟨_, by rw [← count_eqU rv fys]⟩, q⟩
theorem roomH_units {k : Nat} {A : Around} (hr : L2H.RoomH k A) : A.units + 64 < cLine := by have := hr.un; omega
theorem w_isX {K : PySem.W.Frag} {σ : L2.St} {H : Hp} {Q : VK} {x y : Str} {a : Addr} {i : Nat} (h : σ[i]? = some (some (.ref a))) (hy : y ∈ XNames) (q : Q (.bl (decide (x = y))) H) : tCB (rIsX K x a) (tCons (tVar i) (tCons (tX K y) tNil)) σ H Q :=
  ⟨_, h, fun C hC => .inl ⟨y, C, rfl, hy, hC, q⟩⟩
theorem w_isVE {K : PySem.W.Frag} {σ : L2.St} {H : Hp} {Q : VK} {x : Str} {a : Addr} {i : Nat} (h : σ[i]? = some (some (.ref a))) (q : Q (.bl true) H) : tCB (rIsX K x a) (tCons (tVar i) (tCons (tC (.ty "ValueError")) tNil)) σ H Q :=
  ⟨_, h, .inr ⟨rfl, q⟩⟩
theorem w_fx {sp : Sp} {W : WX} {t : TA} {σ : L2.St} {H : Hp} {Q : VK} (q : t σ H fun vs H1 => sp vs H1 Q fun c d H2 => W c d σ H2) : tFX sp W t σ H Q := q
theorem w_fe {a : Addr} {v : V} {t : TA} {σ : L2.St} {H : Hp} {Q : VK} (q : t σ H fun vs H1 => vs = [.ref a] ∧ ∀ H', Same H1 H' → Q v H') : tFE a v t σ H Q := q
theorem roomS {k : Nat} {X : Cx} {a : Addr} {pn : List (Addr × Obj)} (hr : Room k X.A) : L2H.RoomH k (X.suite a pn).A := ⟨hr.dp, hr.un⟩
theorem w_try {K : PySem.W.Frag} {rs : List Str} {i : Nat} {tb : WX → TS} {ts : Str → Addr → TS} {D : Ends} {σ : L2.St} {H : Hp} (q : tb (wHush K rs i ts D) D σ H) : tTry K rs i tb ts D σ H := q
def Fm.rt : Fm → Prop
  | .num n => 0 ≤ n ∧ n < 1000000
  | .nam x => Nm x
  | .op _ a b => a.rt ∧ b.rt
theorem Fm.rt_ok : ∀ {f : Fm}, f.rt → f.ok f.names ∧ ∀ x ∈ f.names, Nm x
  | .num n, h => ⟨h, fun _ h => nomatch h⟩
  | .nam x, h => ⟨List.mem_singleton.mpr rfl, fun y hy => by rw [List.mem_singleton.mp hy]; exact h⟩
  | .op s a b, h => by
    obtain ⟨a1, a2⟩ := Fm.rt_ok h.1
    obtain ⟨b1, b2⟩ := Fm.rt_ok h.2
    exact ⟨⟨Fm.ok_mono (fun x hx => List.mem_append_left _ hx) a1, Fm.ok_mono (fun x hx => List.mem_append_right _ hx) b1⟩, fun x hx => (List.mem_append.mp hx).elim (a2 x) (b2 x)⟩
theorem Fm.rt_of {ns : List Str} (hN : ∀ x ∈ ns, Nm x) : ∀ {f : Fm}, f.ok ns → f.rt
  | .num _, h => h
  | .nam _, h => hN _ h
  | .op _ _ _, h => ⟨Fm.rt_of hN h.1, Fm.rt_of hN h.2⟩
def Fm.rt12 (f : Fm) : Prop := f.rt ∧ f.depth ≤ 12
mutual
def Rw.rt : Rw → Prop
  | .set x f => Nm x ∧ f.rt12
  | .tell f => f.rt12
  | .skip => True
  | .ite f a b => f.rt12 ∧ rts a ∧ rts b
  | .whl f a => f.rt12 ∧ rts a
def rts : List Rw → Prop
  | [] => True
  | r :: l => r.rt ∧ rts l
end
mutual
theorem rt_ok : ∀ {r : Rw}, r.rt → r.ok r.nms ∧ ∀ x ∈ r.nms, Nm x
  | .set x f, h => by
    obtain ⟨h1, h2⟩ := Fm.rt_ok h.2.1
    exact ⟨⟨List.mem_cons_self, Fm.ok_mono (fun x hx => List.mem_cons_of_mem _ hx) h1, h.2.2⟩, fun y hy => (List.mem_cons.mp hy).elim (fun e => e ▸ h.1) (h2 y)⟩
  | .tell f, h => by
    obtain ⟨h1, h2⟩ := Fm.rt_ok h.1
    exact ⟨⟨h1, h.2⟩, h2⟩
  | .skip, _ => ⟨trivial, fun _ h => nomatch h⟩
  | .ite f a b, h => by
    obtain ⟨h1, h2⟩ := Fm.rt_ok h.1.1
    obtain ⟨a1, a2⟩ := rts_ok h.2.1
    obtain ⟨b1, b2⟩ := rts_ok h.2.2
    refine ⟨⟨⟨Fm.ok_mono (fun x hx => List.mem_append_left _ hx) h1, h.1.2⟩, oks_own a1 (fun x hx => List.mem_append_right _ (List.mem_append_left _ hx)), oks_own b1 (fun x hx => List.mem_append_right _ (List.mem_append_right _ hx))⟩, fun y hy => ?_⟩
    rcases List.mem_append.mp hy with hy | hy
    · exact h2 y hy
    · exact (List.mem_append.mp hy).elim (a2 y) (b2 y)
  | .whl f a, h => by
    obtain ⟨h1, h2⟩ := Fm.rt_ok h.1.1
    obtain ⟨a1, a2⟩ := rts_ok h.2
    exact ⟨⟨⟨Fm.ok_mono (fun x hx => List.mem_append_left _ hx) h1, h.1.2⟩, oks_own a1 (fun x hx => List.mem_append_right _ hx)⟩, fun y hy => (List.mem_append.mp hy).elim (h2 y) (a2 y)⟩
theorem rts_ok : ∀ {l : List Rw}, rts l → oks (bnms l) l ∧ ∀ x ∈ bnms l, Nm x
  | [], _ => ⟨trivial, fun _ h => nomatch h⟩
  | r :: l, h => by
    obtain ⟨a1, a2⟩ := rt_ok h.1
    obtain ⟨b1, b2⟩ := rts_ok h.2
    exact ⟨⟨ok_own a1 (fun x hx => List.mem_append_left _ hx), oks_own b1 (fun x hx => List.mem_append_right _ hx)⟩, fun y hy => (List.mem_append.mp hy).elim (a2 y) (b2 y)⟩
end
mutual
theorem Rw.rt_of {ns : List Str} (hN : ∀ x ∈ ns, Nm x) : ∀ {r : Rw}, r.ok ns → r.rt
  | .set x f, h => ⟨hN x h.1, Fm.rt_of hN h.2.1, h.2.2⟩
  | .tell f, h => ⟨Fm.rt_of hN h.1, h.2⟩
  | .skip, _ => trivial
  | .ite f a b, h => ⟨⟨Fm.rt_of hN h.1.1, h.1.2⟩, rts_of hN h.2.1, rts_of hN h.2.2⟩
  | .whl f a, h => ⟨⟨Fm.rt_of hN h.1.1, h.1.2⟩, rts_of hN h.2⟩
theorem rts_of {ns : List Str} (hN : ∀ x ∈ ns, Nm x) : ∀ {l : List Rw}, oks ns l → rts l
  | [], _ => trivial
  | r :: l, h => ⟨Rw.rt_of hN h.1, rts_of hN h.2⟩
end
theorem rts_app : ∀ {a b : List Rw}, rts (a ++ b) ↔ rts a ∧ rts b
  | [], b => ⟨fun h => ⟨trivial, h⟩, fun h => h.2⟩
  | r :: a, b => ⟨fun h => ⟨⟨h.1, (rts_app.mp h.2).1⟩, (rts_app.mp h.2).2⟩, fun h => ⟨h.1.1, rts_app.mpr ⟨h.1.2, h.2⟩⟩⟩
/-- what may stand behind a block's lines -/
def Stp (p : List Str) : Prop := ∀ x : Str, p[0]? = some x → x = ("else" : Str) ∨ x = ("end" : Str)
theorem Stp.nil : Stp [] := fun _ h => nomatch h
theorem Stp.els {p : List Str} : Stp (("else" : Str) :: p) := fun _ h => .inl (Option.some.inj h).symm
theorem Stp.row {p : List Str} {r : Rw} (h : Stp (r.lns ++ p)) : False := by
  obtain ⟨t, ht⟩ := lns_hd r
  rw [ht] at h
  rcases h _ rfl with e | e
  · exact (ln_not r).1 e
  · exact (ln_not r).2 e
local macro_rules | `(tactic| walk_at "gx1.") => `(tactic| with_reducible refine w_try ?_)
local macro_rules | `(tactic| walk_at "gx1.") => `(tactic| with_reducible refine w_fe ?_)
local macro_rules | `(tactic| walk_at "gx1.") => `(tactic| with_reducible refine w_fx ?_)
local macro_rules | `(tactic| walk_at "gx1.") => `(tactic| ((with_reducible refine w_isVE ?h ?_); (case h => rfl)))
local macro_rules | `(tactic| walk_at "gx1.") => `(tactic| ((with_reducible refine w_isX ?h ?m ?_); (case h => rfl); (case m => decide)))
theorem funFrames_at {base h h' : Heap} : ∀ {l : List Env}, h.FunFrames base l → (∀ L ∈ frs l, ∀ o, h.get? L = some o → h'.get? L = some o) → h'.FunFrames base l
  | [], _, _ => trivial
  | env :: l, hh, k => by
    obtain ⟨hk, ⟨L, o, hf, hn, ho, hd⟩, hr⟩ := hh
    exact ⟨hk, ⟨L, o, hf, hn, k L (List.mem_filterMap.mpr ⟨env, List.mem_cons_self, hf⟩) o ho, hd⟩, funFrames_at hr fun b hb => by
      obtain ⟨e, he, q⟩ := List.mem_filterMap.mp hb
      exact k b (List.mem_filterMap.mpr ⟨e, List.mem_cons_of_mem _ he, q⟩)⟩
theorem note_held {M : Model} {A : Around} {E₁ : Value → Shared → Prop} {env : Env} {outer : List Env} {L a : Addr} {Z : Obj → Prop} {B : Heap} {s : Shared} {Q : Unit → Shared → Prop} (hZ : HandSPX.Steady Z) (hfr : A.frames = some (env :: outer)) (hf : env.frame = some L)
    (fl : HandSPX.FlyingZ B (env :: outer) a Z s.heap) (hQ : ∀ h', HandSPX.HeldZ B (env :: outer) a Z L h' → s.heap.UpToSlots h' → Q () { s with heap := h' }) :
    wpAny M A (noteFrame (.ref a) env) Q E₁ s := HandSPX.looks_onZ hZ hfr hf fl hQ
theorem note_same {e : Value} {env env' : Env} (h : env'.frame = env.frame) : noteFrame e env' = noteFrame e env := by
  unfold noteFrame PySem.frameOf
  rw [h]
theorem fails_ok {X : Cx} {pins pins2 : List (Addr × Obj)} {σ σ2 : L2.St} {H H3 : Hp} {s s' s3 : Shared} {scope : Scope} {ce : Env} {fp : List Addr} {E : XK} {W : WX} {u : Value} {xe₀ xe₁ : Value → Shared → Prop}
    (hs : X.stack = X.env :: X.outer) (hf : X.env.frame = some X.env.locals) (tk : Takes X W) (I3 : Inv X pins σ H3 s3) (cL : ce.locals = s3.heap.objs.size) (cF : ce.frame = X.env.frame) (f3 : ∀ b ∈ fp, FpOk X pins H3 b)
    (I : Inv ((X.blk s3 H3 scope ce fp).wish xe₀) pins2 σ2 H s) (c : L2.CX X.prog X.w X.stack H s E u s') (hW : ∀ cls d H', E cls d H' → W cls d σ H') :
    wpAny (model X.prog X.w) X.A (noteFrame u ce) (fun _ s'' => CompFails (model X.prog X.w) X.A X.xe ce u s'') xe₁ s' := by
  have hfr : X.A.frames = some (X.env :: X.outer) := by rw [I3.ok.frames, hs]
  have J : Inv X pins σ H s := I3.call' (ch := fp) I.os I.base I.hok I.bare fun b hb => ⟨(f3 b hb).2.2.2.1, (f3 b hb).2.1, (f3 b hb).2.2.2.2.1, (f3 b hb).2.2.2.2.2⟩
  obtain ⟨m, hnC, _⟩ := I.loc
  have hnC : s.heap.Ns ce.locals m := hnC
  have nC : H ce.locals = none := I.free
  rw [cL] at hnC nC
  have fpC : FpOk X pins H s3.heap.objs.size := I3.fpOk (Nat.le_refl _) nC
  generalize s3.heap.objs.size = C at cL hnC nC fpC
  obtain ⟨oC, es, ep, hoC, rC⟩ := hnC
  have cFr : C ∉ frs X.stack := by
    rw [hs]
    intro hm
    obtain ⟨e, he, q⟩ := List.mem_filterMap.mp hm
    rcases List.mem_cons.mp he with rfl | he
    · rw [hf] at q
      exact fpC.2.1 (Option.some.inj q).symm
    · exact fpC.2.2.1 (List.mem_filterMap.mpr ⟨e, he, q⟩)
  obtain ⟨a, B, Hx, cls, d, rfl, fl, hokB, ub, na, os, ag, hE⟩ := c
  have st : B.StaysIn s'.heap := fl.1
  have hCB : B.get? C = some oC := ub.keep C oC hoC nC cFr
  have nHx : Hx C = none := ub.free C oC hoC nC
  have aC : a ≠ C := fun e => by have := fl.2.1; rw [e, hCB] at this; cases this
  obtain ⟨G, g1, g2⟩ := restrict s'.heap fun b => ((B.get? b).isSome && !decide (b = C)) || decide (b ∈ frs X.stack)
  have gB : ∀ b o, B.get? b = some o → b ≠ C → G.get? b = some o := fun b o e n => by
    rw [g1 b (by simp [e, n])]
    exact st b o e
  have gF : ∀ b, b ∈ frs X.stack → G.get? b = s'.heap.get? b := fun b hb => g1 b (by simp [hb])
  have og : ∀ b o, G.get? b = some o → s'.heap.get? b = some o ∧ (((B.get? b).isSome = true ∧ b ≠ C) ∨ b ∈ frs X.stack) := fun b o e => by
    cases q : ((B.get? b).isSome && !decide (b = C)) || decide (b ∈ frs X.stack) with
    | false => rw [g2 b q] at e; cases e
    | true =>
      rw [g1 b q] at e
      exact ⟨e, by simpa [Bool.or_eq_true] using q⟩
  have hokG : HOk X.prog X.w Hx G := fun b o q => (hokB b o q).stay (fun c u hc r => gB c u r fun e => by
    rcases hc with hc | hc
    · rw [← hc, e, nHx] at q; cases q
    · rw [e, nHx] at hc; cases hc) (fun _ r => r) fun _ _ r => r
  have nin : ∀ {b : Addr}, b ∉ [C] → b ≠ C := fun h e => h (by rw [e]; exact List.mem_singleton.mpr rfl)
  have J2 : Inv X pins σ Hx { s with heap := G, gens := s'.gens, drawn := s'.drawn, toks := s'.toks } := by
    refine J.call (ch := [C]) ⟨fun b o e n hb hc => gB b o (ub.keep b o e n hb) (nin hc), fun b o e n hb hc => ?_, fun b o e n _ => ub.free b o e n, fun b o e hc => ?_, ub.tups, ub.frzs, ub.tbls⟩ hokG ag (fun b hb => ?_)
    · obtain ⟨sl, q⟩ := ub.slot b o e hb
      exact ⟨sl, by rw [gF b hb]; exact q⟩
    · by_cases hb : b ∈ frs X.stack
      · obtain ⟨sl, q⟩ := ub.slot b o e hb
        exact ⟨_, by rw [gF b hb]; exact q⟩
      · obtain ⟨o', q⟩ := ub.there b o e hb
        exact ⟨o', gB b o' q (nin hc)⟩
    · rw [List.mem_singleton.mp hb]
      exact ⟨fpC.2.2.2.1, fpC.2.1, fpC.2.2.2.2.1, fpC.2.2.2.2.2⟩
  have nb : ∀ b o, G.get? b = some o → b ∉ frs X.stack → (PySem.W.hideAll B [C]).get? b = some o := fun b o e hb => by
    obtain ⟨e', h⟩ := og b o e
    rcases h with ⟨h, n⟩ | h
    · obtain ⟨o', q⟩ := Option.isSome_iff_exists.mp h
      have z := st b o' q
      rw [e'] at z; cases z
      exact PySem.W.hideAll_get [C] q (by simpa using n)
    · exact absurd h hb
  rw [hs] at fl
  rw [note_same cF]
  refine note_held Zc.steady hfr hf fl fun h1 held up1 => ?_
  have upC : (s'.heap.get? C = some oC) := st C oC hCB
  have ns1 : h1.Ns C m := up1.ns ⟨oC, es, ep, upC, rC⟩
  refine ⟨m, by rw [cL]; exact ns1, fun h2 m2 hn2 sb => ?_⟩
  rw [cL] at sb
  have same : ∀ b, b ≠ C → h2.get? b = h1.get? b := fun b hb => sb.2 b hb
  obtain ⟨st1, na1, fr1, oe, vs, T, oT, ts, he, hz, hd, hv1, hnT, hTe, hT, hdT, h3⟩ := held
  have TC : T ≠ C := fun e => by rw [e, hCB] at hnT; cases hnT
  have he2 : h2.get? a = some oe := (same a aC).trans he
  have hT2 : h2.get? T = some oT := (same T TC).trans hT
  have hb1 : ∀ {b o}, (PySem.W.hideAll B [C]).get? b = some o → B.get? b = some o ∧ b ≠ C := fun {b o} e => ⟨PySem.W.of_hideAll [C] e, fun z => by
    rw [z, PySem.W.hideAll_none [C] (List.mem_singleton.mpr rfl)] at e; cases e⟩
  have none1 : ∀ {b}, B.get? b = none → (PySem.W.hideAll B [C]).get? b = none := fun {b} e => by
    cases q : (PySem.W.hideAll B [C]).get? b with
    | none => rfl
    | some o => rw [(hb1 q).1] at e; cases e
  have st2 : (PySem.W.hideAll B [C]).StaysIn h2 := fun b o e => (same b (hb1 e).2).trans (st1 b o (hb1 e).1)
  have fr2 : h2.FunFrames (PySem.W.hideAll B [C]) (X.env :: X.outer) := by
    refine funFrames_none (funFrames_at fr1 fun L hL o e => (same L fun z => ?_).trans e) fun L hL => none1 (fr1.mem hL).1
    have := (fr1.mem hL).1
    rw [z, hCB] at this
    cases this
  have tr2 : HandSPX.TracedZ h2 (PySem.W.hideAll B [C]) a (Zc cls d) (rawInt X.env.locals) := ⟨oe, vs, T, oT, ts, he2, hz, hd, hv1, none1 hnT, hTe, hT2, hdT, h3⟩
  unfold PySem.passOn
  refine wpAny_bind (wpAny_field he2 hd hv1 ?_)
  rw [if_neg (show ¬ ((Value.ref T == Value.none) = true) from by simp)]
  have fin : wpAny (model X.prog X.w) X.A (setFlight (.ref a) ce.frame) (fun _ s4 => wpAny (model X.prog X.w) X.A (throw (.ref a) : Sem Value) (fun _ _ => False) X.xe s4) X.xe { s' with heap := h2 } := by
    rw [cF, hf]
    refine HandSPX.setFlight_anyZ (fr := some X.env.locals) st2 fr2 tr2 fun h4 k1 k2 k3 up4 => wpAny_throw (tk _ _ ?_)
    refine ⟨a, PySem.W.hideAll B [C], _, pins, σ, Hx, cls, d, rfl, J2, nb, ?_, .inr (.inr (by rw [hs]; exact ⟨k1, none1 fl.2.1, k2, k3⟩)), na, os, ag, hW _ _ _ hE⟩
    intro b o e hnf
    have e' : G.get? b = some o := e
    have bC : b ≠ C := fun z => by
      rw [z] at e'
      rcases (og C o e').2 with ⟨_, n⟩ | n
      · exact n rfl
      · exact cFr n
    obtain ⟨sl, q⟩ := up1 b o (og b o e').1 hnf
    exact up4 b _ ((same b bC).trans q) hnf |>.elim fun sl2 q2 => ⟨sl2, q2⟩
  first
    | exact wpAny_bind (wpAny_pure (wpAny_bind fin))
    | exact wpAny_bind fin
/-- as tLc, the element's calls may raise what W takes -/
def tLcX (wi : TI) (g : TG) (tt : TT) (te : WX → TE) (vs : List Nat) (W : WX) : TE := fun σ H Q => tLc wi g tt (te fun c d _ H2 => W c d σ H2) vs σ H Q
/-- a call in the block of a comprehension -/
abbrev InBlk (X : Cx) (W : WX) : Prop := ∀ σ, PassesAt (L2.CX X.prog X.w) X σ (WE W σ)
theorem pe_fXc {X : Cx} {W : WX} {k j : Nat} {x : Str} {sp : Sp} {p pos : Pos} {e : Expr} {es : List Expr} {t : TA} (c : CalX X.prog X.w X.K X.mg X.base k x sp) (hr : Room j X.A) (hk : k ≤ j) (ib : InBlk X W) (ha : PA X (e :: es) t) (hg : Gl X x := by rfl)
    (hdb : (x == ("__debug__" : Str)) = false := by decide) (he : starEach (e :: es) X.env = (false, eval e X.env) :: starEach es X.env := by rfl) (hpl : (backTo pos (starEach es X.env)).any (·.1) = false := by rfl) :
    PE X (.Call (.Name x p) (e :: es) [] pos) (tFX sp W t) := by
  obtain ⟨f, fd, ps, F, hm, kp, b⟩ := c.ex
  exact pe_callS (E := WE W) F (hr.mono hk) hg hm kp b ib ha hdb he hpl
section
variable {X : Cx}
theorem lc_coreX {pins : List (Addr × Obj)} {s : Shared} {σ : L2.St} {H : Hp} {Q : VK} {elt tg iter : Expr} {ifs : List Expr} {scope : Scope} {own : List (Str × Nat)} {pos pos' : Pos} {wi : TI} {g : TG} {tt : TT} {te : WX → TE} {W : WX} {use : Option (Value → Sem Unit)} {Qf : Value → Shared → Prop}
    (hst : X.stack = X.env :: X.outer) (hf : X.env.frame = some X.env.locals) (tk : Takes X W)
    (hc : X.calm = true) (hN : X.N.Nodup) (I : Inv X pins σ H s) (hi : PI X tg iter wi) (ok : BlkOk X.N X.env.scope scope own)
    (hg : ∀ (s : Shared) (H : Hp) (C : Addr) (cl : List (Str × Addr)) (fp : List Addr), PG (X.blk s H scope (compEnvC scope cl C X.env) fp) tg g) (ht : ∀ (s : Shared) (H : Hp) (C : Addr) (cl : List (Str × Addr)) (fp : List Addr), PTs (X.blk s H scope (compEnvC scope cl C X.env) fp) ifs tt)
    (he : ∀ (W' : WX) (s : Shared) (H : Hp) (C : Addr) (cl : List (Str × Addr)) (fp : List Addr) (xe : Value → Shared → Prop), InBlk ((X.blk s H scope (compEnvC scope cl C X.env) fp).wish xe) W' → PE ((X.blk s H scope (compEnvC scope cl C X.env) fp).wish xe) elt (te W'))
    (hs : ∀ x, foldedSetIterable iter X.env x = pure x) (h : tLcX wi g tt te (own.map (·.2)) W σ H Q)
    (hRR : ∀ (D : Addr) (ce : Env) s' m H', Inv X pins σ H' s' → Q (.ref D) H' → s'.heap.Ns ce.locals m → FpOk X pins H' ce.locals → compEnds (model X.prog X.w) X.A X.xe use Qf (.ref D) ce (.ok .next) s') :
    wpAny (model X.prog X.w) X.A (comprehension (.ListComp elt [⟨tg, iter, ifs, 0⟩] scope pos) scope X.env pos' (newList []) false (eval iter X.env) use) Qf X.xe s := by
  have h : tLc wi g tt (te fun c d _ H2 => W c d σ H2) (own.map (·.2)) σ H Q := h
  have hfree : ∀ y ∈ scope.names, y.2 = .free → ∃ c, X.env.cells.lookup y.1 = some c := fun y hy e => by
    rcases ok.free y hy e with k | k
    · exact I.ok.has _ (.inl k)
    · exact I.ok.has _ (.inr k)
  refine comprehension_at (use := use) rfl hs (closure_ok hfree) ok.kind (fun y hy e => by rw [ok.uniq y hy, e])
    (thn (hi.run pins s σ H _ I h) fun xv s1 hx => thn hx fun itv s2 h2 => ?_)
  obtain ⟨it, fp, tn, J, H2, e, I2, T, st2, f2, q⟩ := h2
  subst e
  refine wpAny_newObj_type (newEnv_comp ?_) (by show 0 ≤ sizeLine; decide)
  generalize hD : s2.heap.objs.size = D
  have hDn : H2 D = none := I2.hok.fresh (Nat.le_of_eq hD)
  obtain ⟨Wt, ⟨m0, w0⟩, turn⟩ := q D hDn
  generalize hs3 : ({ s2 with heap := s2.heap.push { cls := .type "list", data := .seq ([] : List Value).toArray } } : Shared) = s3
  have I3 : Inv X pins σ (upd H2 D (.lst [])) s3 := by
    rw [← hs3]
    refine I2.laid (t' := s2.toks) (fun b o e => Heap.get?_push_of_some _ e) (Nat.le_of_eq hD) ⟨Nat.zero_le _, [], 0, .nil, ?_⟩
    rw [← hD]
    exact Heap.get?_push_size _ rfl
  have h3 : s3.heap = s2.heap.push { cls := .type "list", data := .seq ([] : List Value).toArray } := by rw [← hs3]
  have sz : ∀ b ∈ fp, b < s2.heap.objs.size := fun b hb => by
    obtain ⟨o, e, _⟩ := T.obj _ _ st2 b hb
    exact Heap.lt_size e
  have f3 : ∀ b ∈ fp, FpOk X pins (upd H2 D (.lst [])) b ∧ b < s3.heap.objs.size := fun b hb => by
    have hlt := sz b hb
    refine ⟨⟨?_, (f2 b hb).2⟩, by rw [h3, Heap.size_push]; exact Nat.lt_succ_of_lt hlt⟩
    rw [upd_ne (by rw [← hD]; exact Nat.ne_of_lt hlt)]
    exact (f2 b hb).1
  have st3 : tn 0 s3.heap := T.keep _ _ _ st2 fun b _ o e => by rw [h3]; exact Heap.get?_push_of_some _ e
  have I4 := block_start I3 ok hN f3
  have pg := hg s3 (upd H2 D (.lst [])) s3.heap.objs.size (cellsFrom (s3.heap.objs.size + 1) scope.names (cloFrom X.env.cells scope.names [])) fp
  have pt := ht s3 (upd H2 D (.lst [])) s3.heap.objs.size (cellsFrom (s3.heap.objs.size + 1) scope.names (cloFrom X.env.cells scope.names [])) fp
  have pe := he (fun c d _ H2 => W c d σ H2) s3 (upd H2 D (.lst [])) s3.heap.objs.size (cellsFrom (s3.heap.objs.size + 1) scope.names (cloFrom X.env.cells scope.names [])) fp
  show codeAny _ _ (.compStart (.ListComp elt [⟨tg, iter, ifs, 0⟩] scope pos) 0 (.ref it) (.ref D) (compEnvC scope (cellsFrom (s3.heap.objs.size + 1) scope.names (cloFrom X.env.cells scope.names [])) s3.heap.objs.size X.env)) (compEnds (model X.prog X.w) X.A X.xe use Qf (.ref D) (compEnvC scope (cellsFrom (s3.heap.objs.size + 1) scope.names (cloFrom X.env.cells scope.names [])) s3.heap.objs.size X.env)) { s3 with heap := pushCells (s3.heap.push { cls := .type "dict", data := .dict #[] }) scope.names }
  have nfp : ∀ b ∈ fp, (upd H2 D (.lst [])) b = none := fun b hb => (f3 b hb).1.1
  generalize hce : compEnvC scope (cellsFrom (s3.heap.objs.size + 1) scope.names (cloFrom X.env.cells scope.names [])) s3.heap.objs.size X.env = ce at I4 pg pt pe ⊢
  have cL : ce.locals = s3.heap.objs.size := by subst hce; rfl
  have cF : ce.frame = X.env.frame := by subst hce; rfl
  generalize hH3 : upd H2 D (.lst []) = H3 at I3 I4 pg pt pe w0 nfp f3
  generalize hs4 : ({ s3 with heap := pushCells (s3.heap.push { cls := .type "dict", data := .dict #[] }) scope.names } : Shared) = s4 at I4 ⊢
  have st4 : tn 0 s4.heap := T.keep _ _ _ st3 fun b _ o e => by rw [← hs4]; exact pushCells_keeps _ _ _ _ (Heap.get?_push_of_some _ e)
  have stat : ∀ {σ' : L2.St} {H' : Hp} {s' : Shared}, Inv (X.blk s3 H3 scope ce fp) [] σ' H' s' → (∀ b ∈ fp, H' b = none) → ∀ b ∈ fp, FpOk (X.blk s3 H3 scope ce fp) [] H' b := fun {σ' H' s'} I' hn b hb =>
    ⟨hn b hb, (I'.ok.exf b hb).1, I'.ok.exfs b hb, .inl hb, fun x c e => (I'.ok.exf b hb).2 x c e, fun p hp => absurd (show p ∈ ([] : List (Addr × Obj)) ++ [] from hp) (by simp)⟩
  have pe := pe (fun e s' => ∃ (pins2 : List (Addr × Obj)) (σ2 : L2.St) (H : Hp) (s : Shared) (E : XK), Inv (X.blk s3 H3 scope ce fp) pins2 σ2 H s ∧ L2.CX X.prog X.w X.stack H s E e s' ∧ ∀ cls d H', E cls d H' → W cls d σ H')
    (fun σ' pins H s e s' I c => ⟨pins, σ', H, s, _, I.unwish, c, fun _ _ _ h => h⟩)
  have loop : codeAny (model X.prog X.w) X.A (.compLoop (.ListComp elt [⟨tg, iter, ifs, 0⟩] scope pos) 0 (.ref it) (.ref D) ce) (compEnds (model X.prog X.w) X.A X.xe use Qf (.ref D) ce) s4 := by
    refine compLoop_any (fun n s' => ∃ i H', Inv (X.blk s3 H3 scope ce fp) [] (wipe σ (own.map (·.2))) H' s' ∧ tn i s'.heap ∧ (∀ b ∈ fp, H' b = none) ∧ Wt i n H') ?_ m0 ⟨0, H3, I4, st4, nfp, w0⟩
    rintro n s5 ⟨i, H5, I5, st5, n5, w5⟩
    rcases turn i n H5 w5 with ⟨stop, qq⟩ | ⟨go, Nx, hNx, step⟩
    · have td := T.done (X.blk s3 H3 scope ce fp) rfl rfl rfl hc i [] s5 _ H5 (fun _ _ => False) I5 (stat I5 n5) st5 stop
      refine thnF td fun r s6 ⟨hr, I6⟩ => ?_
      subst hr
      have I7 : Inv X pins σ H5 s6 := I3.call' (ch := fp) I6.os I6.base I6.hok I6.bare fun b hb => ⟨(f3 b hb).1.2.2.2.1, (f3 b hb).1.2.1, (f3 b hb).1.2.2.2.2.1, (f3 b hb).1.2.2.2.2.2⟩
      have nC : H5 ce.locals = none := I6.free
      obtain ⟨m, hn, _⟩ := I6.loc
      have fpC : FpOk X pins H5 ce.locals := by
        rw [cL] at nC ⊢
        exact I3.fpOk (Nat.le_refl _) nC
      exact hRR D ce s6 m H5 I7 qq hn fpC
    · have ti := T.item (X.blk s3 H3 scope ce fp) rfl rfl rfl hc i [] s5 _ H5 (fun _ _ => False) I5 (stat I5 n5) st5 go
      refine thnF ti fun r s6 ⟨u, hr, h6⟩ => ?_
      subst hr
      refine thnF h6 fun _ s7 ⟨x, H7, I7, r7, y7, st7, n7⟩ => ?_
      have I7' := I7.pinned (stat I7 n7) (T.obj _ _ st7)
      refine thnF (pg.run _ s7 _ H7 x u _ I7' r7 (step x H7 y7)) fun _ s8 ⟨σ8, H8, I8, hw8, q8⟩ => ?_
      refine thnF (pt.run _ s8 σ8 H8 _ I8 q8) fun b s9 ⟨H9, I9, q9⟩ => ?_
      have fin : ∀ {s' : Shared} {H' : Hp}, Inv (X.blk s3 H3 scope ce fp) ([] ++ pinsAt fp s7.heap) σ8 H' s' → Nx H' → ∃ m, m < n ∧ ∃ i H', Inv (X.blk s3 H3 scope ce fp) [] (wipe σ (own.map (·.2))) H' s' ∧ tn i s'.heap ∧ (∀ b ∈ fp, H' b = none) ∧ Wt i m H' := fun {s' H'} I' nx => by
        obtain ⟨m', hm, w'⟩ := hNx H' nx
        have pin' : ∀ b ∈ fp, ∀ o, s7.heap.get? b = some o → s'.heap.get? b = some o ∧ H' b = none := fun b hb o e =>
          let z := I'.pin (b, o) (List.mem_append_right _ (List.mem_append_right _ (mem_pinsAt hb e)))
          ⟨z.1, z.2.1⟩
        have hl : (wipe σ (own.map (·.2))).length = σ8.length := by rw [← hw8, wipe_length]
        refine ⟨m', hm, i + 1, H', (I'.unpinned (pins := [])).weak hl (fun j v e => ?_), T.keep _ _ _ st7 fun b hb o e => (pin' b hb o e).1, fun b hb => ?_, w'⟩
        · rw [← hw8] at e
          exact (wipe_some e).1
        · obtain ⟨o, e, _⟩ := T.obj _ _ st7 b hb
          exact (pin' b hb o e).2
      cases b with
      | false =>
        simp only [Bool.false_eq_true, if_false] at q9 ⊢
        exact fin I9 q9
      | true =>
        simp only [if_true] at q9 ⊢
        refine wpAny_mono (pe.run _ s9 σ8 H9 _ (I9.wish _) q9) (fun z s10 ⟨yv, H10, I10, r10, acc, hD10, hz10, nx⟩ => ?_) fun e s' ⟨pins2, σ2, Hc, sc, E, Ic, cx, hW⟩ => ?_
        · exact app_ok (X := X.blk s3 H3 scope ce fp) I10.unwish hD10 hz10 r10 fun s11 I11 => fin I11 nx
        · exact fails_ok (xe₀ := fun _ _ => False) hst hf tk I3 cL cF (fun b hb => (f3 b hb).1) (Ic.wish _) cx hW
  exact codeAny_compStart_list loop (T.self X.A 0 _ _ _ st4 loop)
theorem pe_lcX {elt tg iter : Expr} {ifs : List Expr} {scope : Scope} {own : List (Str × Nat)} {pos : Pos} {wi : TI} {g : TG} {tt : TT} {te : WX → TE} {W : WX} (hst : X.stack = X.env :: X.outer) (hf : X.env.frame = some X.env.locals) (tk : Takes X W) (hc : X.calm = true) (hN : X.N.Nodup) (hi : PI X tg iter wi) (ok : BlkOk X.N X.env.scope scope own)
    (hg : ∀ (s : Shared) (H : Hp) (C : Addr) (cl : List (Str × Addr)) (fp : List Addr), PG (X.blk s H scope (compEnvC scope cl C X.env) fp) tg g) (ht : ∀ (s : Shared) (H : Hp) (C : Addr) (cl : List (Str × Addr)) (fp : List Addr), PTs (X.blk s H scope (compEnvC scope cl C X.env) fp) ifs tt)
    (he : ∀ (W' : WX) (s : Shared) (H : Hp) (C : Addr) (cl : List (Str × Addr)) (fp : List Addr) (xe : Value → Shared → Prop), InBlk ((X.blk s H scope (compEnvC scope cl C X.env) fp).wish xe) W' → PE ((X.blk s H scope (compEnvC scope cl C X.env) fp).wish xe) elt (te W'))
    (hs : ∀ x, foldedSetIterable iter X.env x = pure x := by intro _; rfl) :
    PE X (.ListComp elt [⟨tg, iter, ifs, 0⟩] scope pos) (tLcX wi g tt te (own.map (·.2)) W) := by
  refine ⟨fun pins s σ H Q I h => ?_⟩
  rw [eval_ListComp]
  refine lc_coreX hst hf tk hc hN I hi ok hg ht he hs h fun D ce s' m H' I' q hn f => ⟨m, hn, fun h'' sb => ?_⟩
  obtain ⟨f0, f1, f2, f3, f4, f5⟩ := f
  exact ⟨.ref D, H', I'.turned (t' := s'.toks) (fun b o hb e => (sb.2 b hb).trans e) f0 f1 f3 f4 f5, rfl, q⟩
theorem ps_setLcX {i : Nat} {y : Str} {py : Pos} {elt tg iter : Expr} {ifs : List Expr} {scope : Scope} {own : List (Str × Nat)} {pos spos : Pos} {wi : TI} {g : TG} {tt : TT} {te : WX → TE} {W : WX} (hst : X.stack = X.env :: X.outer) (hf : X.env.frame = some X.env.locals) (tk : Takes X W) (hc : X.calm = true) (hN : X.N.Nodup) (hy : X.N[i]? = some y) (hyl : X.env.scope.names.lookup y = some .local)
    (hsw : swapsWith (.ListComp elt [⟨tg, iter, ifs, 0⟩] scope pos) (some (.Name y py)) spos.line X.env = pure true) (hi : PI X tg iter wi) (ok : BlkOk X.N X.env.scope scope own)
    (hg : ∀ (s : Shared) (H : Hp) (C : Addr) (cl : List (Str × Addr)) (fp : List Addr), PG (X.blk s H scope (compEnvC scope cl C X.env) fp) tg g) (ht : ∀ (s : Shared) (H : Hp) (C : Addr) (cl : List (Str × Addr)) (fp : List Addr), PTs (X.blk s H scope (compEnvC scope cl C X.env) fp) ifs tt)
    (he : ∀ (W' : WX) (s : Shared) (H : Hp) (C : Addr) (cl : List (Str × Addr)) (fp : List Addr) (xe : Value → Shared → Prop), InBlk ((X.blk s H scope (compEnvC scope cl C X.env) fp).wish xe) W' → PE ((X.blk s H scope (compEnvC scope cl C X.env) fp).wish xe) elt (te W'))
    (hs : ∀ x, foldedSetIterable iter X.env x = pure x := by intro _; rfl) :
    PS X (.Assign [.Name y py] (.ListComp elt [⟨tg, iter, ifs, 0⟩] scope pos) spos) (tAsg (tLcX wi g tt te (own.map (·.2)) W) (gName i)) := by
  refine ⟨fun pins s σ H D I h => ?_⟩
  rw [exec_Assign_Name_used _ _ _ _ hsw]
  refine wpAny_bind (wpAny_standAt (wpAny_bind ?_))
  show wpAny _ X.A (do let _ ← comprehension (.ListComp elt [⟨tg, iter, ifs, 0⟩] scope pos) scope X.env (firstIterPos [⟨tg, iter, ifs, 0⟩] pos) (newList []) false (eval iter X.env) (some (assign (.Name y py) X.env))) _ _ s
  have h : tLcX wi g tt te (own.map (·.2)) W σ H (fun x H1 => gName i x σ H1 D.nx) := h
  refine wpAny_bind (thn (lc_coreX (Qf := fun _ s' => SP X pins D .next s') hst hf tk hc hN I hi ok hg ht he hs h fun L ce s' m H' I' q hn f => ?_) fun _ s' hq => wpAny_pure (wpAny_pure hq))
  show wpAny _ _ (assign (.Name y py) X.env (.ref L)) _ _ _
  refine wpAny_assign_Name (store_ok2 (v := V.ref L) I' hN hy (.inl hyl) rfl (fun s2 I2 ⟨a, sb, ha⟩ => ?_) (.inr hyl))
  obtain ⟨f0, f1, f2, f3, f4, f5⟩ := f
  have haC : ce.locals ≠ a := by
    rcases ha with z | z
    · rw [z]; exact f1
    · exact fun e => f4 y a z e.symm
  refine ⟨m, hn.sameBut sb haC, fun h3 sb3 => ?_⟩
  exact ⟨_, H', I2.turned (t' := s2.toks) (fun b o hb e => (sb3.2 b hb).trans e) f0 f1 f3 f4 f5, q⟩
end
structure CalCX (P : Program) (w : World) (K : PySem.W.Frag) (mg : Str → Option Value) (base : Heap) (k : Nat) (cx : Str) (as : List Str) (sp : Sp) : Prop where
  ex : ∃ (C f : Addr) (fd : FuncData) (ps : List Str), CC K cx as C ∧ mg cx = some (.ref C) ∧ FnOk P w K mg base (L2.CX P w) k f fd ps sp ∧ Mk K C f ∧ Binds K fd ps []
theorem calCX_of {P : Program} {w : World} {K : PySem.W.Frag} {mg : Str → Option Value} {base : Heap} {C : Addr} {cx qual : Str} {as : List Str} {st : Stmt} {N ps : List Str} {k : Nat} {sp : Sp} (c : CC K cx as C) (hm : mg cx = some (.ref C)) (D : InitAt K C qual st ps) (S : FnScope N ps (defScope st)) (len : ∀ vs H Q E, sp vs H Q E → vs.length = ps.length)
    (hbody : ∀ (f : Addr) (cdv : Value) (A : Around) (outer : List Env) (s : Shared) (H : Hp) (vs : List V) (Q : VK) (E : XK), Room k (A.deeper (envOfC qual (defScope st) s.heap.objs.size f cdv)) → sp vs H Q E →
      ∃ t, PSs (cxOf (L2.CX P w) P w K mg base N qual (defScope st) f cdv A outer s H E) (defBody st) t ∧ t { nx := fun _ H' => Q .non H', rt := Q } (start N vs) H) : CalCX P w K mg base (k + 1) cx as sp := by
  obtain ⟨f, fd, F, m, b⟩ := D.ex
  exact ⟨C, f, fd, ps, c, hm, F.okX S len fun cdv A outer s H vs Q E => hbody f cdv A outer s H vs Q E, m, b⟩
/-- nothing is raised -/
abbrev wNo : WX := fun _ _ _ _ => False
theorem takesNo {X : Cx} : Takes X wNo := fun _ _ ⟨_, _, _, _, _, _, _, _, _, _, _, _, _, _, _, _, w⟩ => w.elim
/-- cx(..); n: how many slots -/
def tMkX (K : PySem.W.Frag) (cx : Str) (as : List Str) (sp : Sp) (n : Nat) (W : WX) (t : TA) : TE := fun σ H Q => t σ H fun vs H1 => ∀ x C dx, CC K cx as C → H1 x = none → H1 dx = none → dx ≠ x →
  sp (.ref x :: vs) (upd (upd H1 dx (.own x)) x (.ins C dx [])) (fun v H2 => v = .non ∧ Q (.ref x) H2) (fun c d H2 => ∀ σ2 : L2.St, σ2.length = n → W c d σ2 H2)
theorem pe_cX {X : Cx} {W : WX} {k j n : Nat} {cx : Str} {as : List Str} {sp : Sp} {p pos : Pos} {e : Expr} {es : List Expr} {t : TA} (c : CalCX X.prog X.w X.K X.mg X.base k cx as sp) (hr : Room j X.A) (hk : k + 1 ≤ j) (tk : Takes X W) (hn : X.N.length = n) (ha : PA X (e :: es) t) (hg : Gl X cx := by rfl)
    (hdb : (cx == ("__debug__" : Str)) = false := by decide) (he : starEach (e :: es) X.env = (false, eval e X.env) :: starEach es X.env := by rfl) (hpl : (backTo pos (starEach es X.env)).any (·.1) = false := by rfl) :
    PE X (.Call (.Name cx p) (e :: es) [] pos) (tMkX X.K cx as sp n W t) := by
  obtain ⟨C, f, fd, ps, cc, hm, F, M, b⟩ := c.ex
  have h := pe_make (p := p) (E := fun c d H2 => ∀ σ2 : L2.St, σ2.length = n → W c d σ2 H2) M F (hr.mono hk) hg hm b .nil (fun pins σ H s e s' I c => tk e s' (XE.of_call I (fun cls d H' h => h σ (by rw [I.len, hn])) c)) ha hdb he hpl
  refine ⟨fun pins s σ H Q I q => h.run pins s σ H Q I ?_⟩
  show t σ H fun vs H1 => ∀ x dx, H1 x = none → H1 dx = none → dx ≠ x → sp (.ref x :: (vs ++ [])) (upd (upd H1 dx (.own x)) x (.ins C dx [])) (fun v H2 => v = .non ∧ Q (.ref x) H2) (fun c d H2 => ∀ σ2 : L2.St, σ2.length = n → W c d σ2 H2)
  have e2 : (fun (vs : List V) (H1 : Hp) => ∀ x dx, H1 x = none → H1 dx = none → dx ≠ x → sp (.ref x :: (vs ++ [])) (upd (upd H1 dx (.own x)) x (.ins C dx [])) (fun v H2 => v = .non ∧ Q (.ref x) H2) (fun c d H2 => ∀ σ2 : L2.St, σ2.length = n → W c d σ2 H2)) =
      fun vs H1 => ∀ x C' dx, CC X.K cx as C' → H1 x = none → H1 dx = none → dx ≠ x → sp (.ref x :: vs) (upd (upd H1 dx (.own x)) x (.ins C' dx [])) (fun v H2 => v = .non ∧ Q (.ref x) H2) (fun c d H2 => ∀ σ2 : L2.St, σ2.length = n → W c d σ2 H2) := by
    funext vs H1
    rw [List.append_nil]
    refine propext ⟨fun h x C' dx c' a b n => ?_, fun h x dx a b n => h x C dx cc a b n⟩
    have := c'.eq cc
    subst this
    exact h x dx a b n
  rw [e2]
  exact q
theorem w_mkX {K : PySem.W.Frag} {cx : Str} {as : List Str} {sp : Sp} {n : Nat} {W : WX} {t : TA} {σ : L2.St} {H : Hp} {Q : VK} (q : t σ H fun vs H1 => ∀ x C dx, CC K cx as C → H1 x = none → H1 dx = none → dx ≠ x → sp (.ref x :: vs) (upd (upd H1 dx (.own x)) x (.ins C dx [])) (fun v H2 => v = .non ∧ Q (.ref x) H2) (fun c d H2 => ∀ σ2 : L2.St, σ2.length = n → W c d σ2 H2)) :
    tMkX K cx as sp n W t σ H Q := q
/-- all but instances is as it was -/
def SameI (H H' : Hp) : Prop := ∀ a u, H a = some u → (∀ C dx fs, u ≠ .ins C dx fs) → H' a = some u
theorem SameI.of {H H' : Hp} (e : Same H H') : SameI H H' := fun a u h _ => e a u h
theorem SameI.trans {H H1 H2 : Hp} (e : SameI H H1) (g : SameI H1 H2) : SameI H H2 := fun a u h n => g a u (e a u h n) n
theorem SameI.ofX {H H' : Hp} {p C dx : Addr} {fs : List (Str × V)} (h : H p = some (.ins C dx fs)) (e : SameX p H H') : SameI H H' := fun a u hu n => e a u (fun q => n C dx fs (by rw [q, h] at hu; exact (Option.some.inj hu).symm)) hu
theorem SameI.T {H H' : Hp} (e : SameI H H') : SameT H H' := fun a o h f => e a o h fun C dx fs q => by rw [q] at f; cases f
theorem same_lI {K : PySem.W.Frag} {H H' : Hp} {a : Addr} {xs : List V} (e : SameI H H') (s : SqL K H a xs) : SqL K H' a xs := by
  rcases s with (s | ⟨u, s⟩) | s
  · exact .inl (.inl (e _ _ s fun _ _ _ q => nomatch q))
  · exact .inl (.inr ⟨u, e _ _ s fun _ _ _ q => nomatch q⟩)
  · exact .inr s
theorem same_tI {K : PySem.W.Frag} {H H' : Hp} {a : Addr} {xs : List V} (e : SameI H H') (s : SqT K H a xs) : SqT K H' a xs := by
  rcases s with (s | ⟨u, s⟩) | s
  · exact .inl (.inl (e _ _ s fun _ _ _ q => nomatch q))
  · exact .inl (.inr ⟨u, e _ _ s fun _ _ _ q => nomatch q⟩)
  · exact .inr s
theorem se_sameI {K : PySem.W.Frag} {H H' : Hp} {a : Addr} {xs : List V} (e : SameI H H') (s : SE K H a xs) : SE K H' a xs := s.imp (same_lI e) (same_tI e)
/-- a thing and its type's name -/
inductive Thg (K : PySem.W.Frag) (H : Hp) : V → String → Prop where
  | non : Thg K H .non "NoneType"
  | bl (b : Bool) : Thg K H (.bl b) "bool"
  | int (i : Int) : Thg K H (.int i) "int"
  | str (s : Str) : Thg K H (.str s) "str"
  | lst {p : Addr} {xs : List V} (h : SqL K H p xs) : Thg K H (.ref p) "list"
  | tup {p : Addr} {xs : List V} (h : SqT K H p xs) : Thg K H (.ref p) "tuple"
  | dct {p : Addr} {kvs : List (Key × V)} (h : H p = some (.dK kvs)) : Thg K H (.ref p) "dict"
theorem Thg.monoI {K : PySem.W.Frag} {H H' : Hp} {v : V} {T : String} (e : SameI H H') (h : Thg K H v T) : Thg K H' v T := by
  cases h with
  | non => exact .non
  | bl b => exact .bl b
  | int i => exact .int i
  | str s => exact .str s
  | lst h => exact .lst (same_lI e h)
  | tup h => exact .tup (same_tI e h)
  | dct h => exact .dct (e _ _ h fun _ _ _ q => nomatch q)
theorem Thg.mono {K : PySem.W.Frag} {H H' : Hp} {v : V} {T : String} (e : Same H H') (h : Thg K H v T) : Thg K H' v T := h.monoI (.of e)
theorem Thg.ty {K : PySem.W.Frag} {H : Hp} {v : V} {T : String} (h : Thg K H v T) : TyX K H v (.type T) := by
  cases h with
  | non => exact .base .non
  | bl b => exact .base (.bl b)
  | int i => exact .base (.int i)
  | str s => exact .base (.str s)
  | lst h => exact tyx_l h
  | tup h => exact tyx_t h
  | dct h => exact .base (.dK h)
theorem Thg.is_ {K : PySem.W.Frag} {H : Hp} {v : V} {T : String} (h : Thg K H v T) : (PySem.W.kitOne K (.type T) (.type "tuple") = some (decide (T = "tuple")) ∧ PySem.W.kitOne K (.type T) (.type "str") = some (decide (T = "str")) ∧ PySem.W.kitOne K (.type T) (.type "list") = some (decide (T = "list"))) ∧
    PySem.W.kitOne K (.type T) (.type "int") = some (decide (T = "int") || decide (T = "bool")) ∧ PySem.W.kitOne K (.type T) (.type "bool") = some (decide (T = "bool")) ∧ PySem.W.kitAny K (.type T) [.type "list", .type "tuple"] = some (decide (T = "list") || decide (T = "tuple")) := by
  cases h <;> exact ⟨⟨rfl, rfl, rfl⟩, rfl, rfl, rfl⟩
section
variable {K : PySem.W.Frag} {H : Hp} {Q : VK} {v : V} {T : String}
theorem w_isK {c : String} {b : Bool} (h : Thg K H v T) (e : PySem.W.kitOne K (.type T) (.type c) = some b) (q : Q (.bl b) H) : rIsi2 K [v, .ty c] H Q := .inl ⟨_, _, _, _, _, rfl, .ty _, h.ty, e, q⟩
theorem w_isTup (h : Thg K H v T) (q : Q (.bl (decide (T = "tuple"))) H) : rIsi2 K [v, .ty "tuple"] H Q := w_isK h h.is_.1.1 q
theorem w_isStr (h : Thg K H v T) (q : Q (.bl (decide (T = "str"))) H) : rIsi2 K [v, .ty "str"] H Q := w_isK h h.is_.1.2.1 q
theorem w_isLst (h : Thg K H v T) (q : Q (.bl (decide (T = "list"))) H) : rIsi2 K [v, .ty "list"] H Q := w_isK h h.is_.1.2.2 q
theorem w_isInt (h : Thg K H v T) (q : Q (.bl (decide (T = "int") || decide (T = "bool"))) H) : rIsi2 K [v, .ty "int"] H Q := w_isK h h.is_.2.1 q
theorem w_isBool (h : Thg K H v T) (q : Q (.bl (decide (T = "bool"))) H) : rIsi2 K [v, .ty "bool"] H Q := w_isK h h.is_.2.2.1 q
theorem w_isLTK {tp : Addr} (h : H tp = some (.tup [.ty "list", .ty "tuple"])) (t : Thg K H v T) (q : Q (.bl (decide (T = "list") || decide (T = "tuple"))) H) : rIsi2 K [v, .ref tp] H Q :=
  .inr ⟨_, _, _, _, [.type "list", .type "tuple"], _, rfl, h, .cons (.ty _) (.cons (.ty _) .nil), t.ty, t.is_.2.2.2, q⟩
end
def rEqNil (K : PySem.W.Frag) : R2 := fun x y H Q => ∃ (a b : Addr) (xs : List V), x = .ref a ∧ y = .ref b ∧ SqT K H a xs ∧ SqT K H b [] ∧ Q (.bl xs.isEmpty) H
theorem op_eqNil {X : Cx} (hu : X.A.units + 64 < cLine) : OpR X (compareOp .Eq) (rEqNil X.K) := by
  intro pins s σ H x y v u Q I rx ry h
  obtain ⟨a, b, xs, rfl, rfl, ha, hb, q⟩ := h
  cases rx
  cases ry
  obtain ⟨its, r, p1, _⟩ := I.tuple ha
  obtain ⟨its2, r2, p2, _⟩ := I.tuple hb
  cases r2
  refine SeqAt.eq_tupleAt (e := fun _ => true) p1 p2 (by omega) (fun j h1 h2 => absurd h2 (by simp)) ?_
  refine ⟨.bl _, H, I, ?_, q⟩
  cases r with
  | nil => rfl
  | cons _ _ => rfl
def rEqT (K : PySem.W.Frag) : R2 := fun x y H Q => rEq2 K x y H Q ∨ rEqNil K x y H Q
theorem o_eqT {X : Cx} (hu : X.A.units + 64 < cLine) : OpR X (compareOp .Eq) (rEqT X.K) := OpR.or (o_eq hu) (op_eqNil hu)
theorem w_eqNil {K : PySem.W.Frag} {H : Hp} {Q : VK} {a b : Addr} {xs : List V} (ha : SqT K H a xs) (hb : SqT K H b []) (q : Q (.bl xs.isEmpty) H) : rEqT K (.ref a) (.ref b) H Q := .inr ⟨a, b, xs, rfl, rfl, ha, hb, q⟩
def numV : V → Bool
  | .int i => decide (0 ≤ i) && decide (i < 1000000)
  | _ => false
def nameV : V → Bool
  | .str x => nmB x
  | _ => false
abbrev ShortV (v : V) : Prop := ∀ x, v = .str x → x.length ≤ 1000000
def sp_is_wholeT (K : PySem.W.Frag) : Sp := fun vs H Q _ => ∃ v T, vs = [v] ∧ Thg K H v T ∧ Q (.bl (decide (T = "int"))) H
def sp_is_numberT (K : PySem.W.Frag) : Sp := fun vs H Q _ => ∃ v T, vs = [v] ∧ Thg K H v T ∧ Q (.bl (numV v)) H
def sp_is_nameT (K : PySem.W.Frag) : Sp := fun vs H Q _ => ∃ v T, vs = [v] ∧ Thg K H v T ∧ ShortV v ∧ Q (.bl (nameV v)) H
def endB (s : Str) (u : V) : Bool := if s = ("number" : Str) then numV u else decide (s = ("name" : Str)) && nameV u
/-- what a formula may be taken for -/
inductive Fth (K : PySem.W.Frag) (H : Hp) : V → Bool → Prop where
  | odd {v : V} {T : String} (t : Thg K H v T) (n : T ≠ "tuple") : Fth K H v false
  | two {p : Addr} {s : Str} {u : V} {T : String} (h : SqT K H p [.str s, u]) (t : Thg K H u T) (l : ShortV u) : Fth K H (.ref p) (endB s u)
  | long {p : Addr} {xs : List V} (h : SqT K H p xs) (n : xs.length ≠ 2) : Fth K H (.ref p) false
def sp_is_endT (K : PySem.W.Frag) : Sp := fun vs H Q _ => ∃ v b, vs = [v] ∧ Fth K H v b ∧ Q (.bl b) H
abbrev N_is_wholeT : List Str := ["thing"]
noncomputable def t_is_wholeT (K : PySem.W.Frag) : TS :=
  (tRet (tAndV (tCB (rIsi2 K) (tCons (tVar 0) (tCons (tC (.ty "int")) tNil))) (tNotV (tCB (rIsi2 K) (tCons (tVar 0) (tCons (tC (.ty "bool")) tNil))))))
abbrev N_is_numberT : List Str := ["thing"]
noncomputable def t_is_numberT (K : PySem.W.Frag) : TS :=
  (tRet (tAndV (tF (sp_is_wholeT K) (tCons (tVar 0) tNil)) (tChain rLe rLt (tC (.int 0)) (tVar 0) (tC (.int 1000000)))))
abbrev N_is_nameT : List Str := ["thing", "sign"]
noncomputable def t_is_nameT_j1 (K : PySem.W.Frag) : TS :=
  (tSeq (tFor (iStr (tVar 0)) (gName 1) (tIfS (tAnd (tTest (tOp (rIn2 K true) (tVar 1) (tC (.str "abcdefghijklmnopqrstuvwxyz")))) (tTest (tOp (rIn2 K true) (tVar 1) (tC (.str "0123456789"))))) (tRet (tC (.bl false))) tNext)) (tRet (tC (.bl true))))
noncomputable def t_is_nameT (K : PySem.W.Frag) : TS :=
  (tSeq (tIfS (tOr (tNot (tB (tCB (rIsi2 K) (tCons (tVar 0) (tCons (tC (.ty "str")) tNil))))) (tOr (tNot (tTest (tChain rLe rLe (tC (.int 1)) (tCB (rLenA K) (tCons (tVar 0) tNil)) (tC (.int 8))))) (tOr (tTest (tOp (rIn2 K false) (tVar 0) (tGT K (words.map V.str)))) (tTest (tOp (rIn2 K true) (tOp (rIx K) (tVar 0) (tC (.int 0))) (tC (.str "abcdefghijklmnopqrstuvwxyz"))))))) (tRet (tC (.bl false))) tNext) (t_is_nameT_j1 K))
abbrev N_is_endT : List Str := ["thing"]
noncomputable def t_is_endT_j1 (K : PySem.W.Frag) : TS :=
  (tSeq (tIfS (tTest (tOp (rEq2 K) (tOp (rIx K) (tVar 0) (tC (.int 0))) (tC (.str "number")))) (tRet (tF (sp_is_numberT K) (tCons (tOp (rIx K) (tVar 0) (tC (.int 1))) tNil))) tNext) (tRet (tAndV (tOp (rEq2 K) (tOp (rIx K) (tVar 0) (tC (.int 0))) (tC (.str "name"))) (tF (sp_is_nameT K) (tCons (tOp (rIx K) (tVar 0) (tC (.int 1))) tNil)))))
noncomputable def t_is_endT (K : PySem.W.Frag) : TS :=
  (tSeq (tIfS (tOr (tNot (tB (tCB (rIsi2 K) (tCons (tVar 0) (tCons (tC (.ty "tuple")) tNil))))) (tOr (tTest (tOp (rNe2 K) (tCB (rLenA K) (tCons (tVar 0) tNil)) (tC (.int 2)))) (tNot (tB (tCB (rIsi2 K) (tCons (tOp (rIx K) (tVar 0) (tC (.int 0))) (tCons (tC (.ty "str")) tNil))))))) (tRet (tC (.bl false))) tNext) (t_is_endT_j1 K))
theorem pure_is_wholeT (K : PySem.W.Frag) (vs : List V) (H : Hp) (Q : VK) (E : XK) (h : sp_is_wholeT K vs H Q E) :
    t_is_wholeT K { nx := fun _ H' => Q .non H', rt := Q } (start N_is_wholeT vs) H := by
  obtain ⟨v, T, rfl, t, q⟩ := h
  have fin : ∀ c d : Bool, (decide (T = "int") || decide (T = "bool")) = c → decide (T = "bool") = d → decide (T = "int") = (c && !d) → t_is_wholeT K { nx := fun _ H' => Q .non H', rt := Q } (start N_is_wholeT [v]) H := fun c d hc hd e => by
    rw [e] at q
    unfold t_is_wholeT
    walk_at "gx"
    refine w_isInt t ?_
    rw [hc]
    cases c with
    | false => walk_at "gx"; exact q
    | true =>
      walk_at "gx"
      refine w_isBool t ?_
      rw [hd]
      walk_at "gx"
      exact q
  cases t with
  | non => exact fin false false rfl rfl rfl
  | bl b => exact fin true true rfl rfl rfl
  | int i => exact fin true false rfl rfl rfl
  | str s => exact fin false false rfl rfl rfl
  | lst h => exact fin false false rfl rfl rfl
  | tup h => exact fin false false rfl rfl rfl
  | dct h => exact fin false false rfl rfl rfl
theorem pure_is_numberT (K : PySem.W.Frag) (vs : List V) (H : Hp) (Q : VK) (E : XK) (h : sp_is_numberT K vs H Q E) :
    t_is_numberT K { nx := fun _ H' => Q .non H', rt := Q } (start N_is_numberT vs) H := by
  obtain ⟨v, T, rfl, t, q⟩ := h
  have no : T ≠ "int" → numV v = false → t_is_numberT K { nx := fun _ H' => Q .non H', rt := Q } (start N_is_numberT [v]) H := fun n e => by
    rw [e] at q
    unfold t_is_numberT
    walk_at "gx"
    refine ⟨v, T, rfl, t, ?_⟩
    rw [decide_eq_false n]
    walk_at "gx"
    exact q
  cases t with
  | non => exact no (by decide) rfl
  | bl b => exact no (by decide) rfl
  | int i =>
    have q : Q (.bl (decide (0 ≤ i) && decide (i < 1000000))) H := q
    unfold t_is_numberT
    walk_at "gx"
    refine ⟨_, _, rfl, .int i, ?_⟩
    walk_at "gx"
    refine w_two (fun e => ?_) (fun e => ?_)
    · walk_at "gx"
      rw [e, Bool.true_and] at q
      exact q
    · walk_at "gx"
      rw [e, Bool.false_and] at q
      exact q
  | str s => exact no (by decide) rfl
  | lst h => exact no (by decide) rfl
  | tup h => exact no (by decide) rfl
  | dct h => exact no (by decide) rfl
theorem nameT_str (K : PySem.W.Frag) (H : Hp) (Q : VK) {x : Str} (hz : x.length ≤ sizeLine) (q : Q (.bl (nmB x)) H) :
    t_is_nameT K { nx := fun _ H' => Q .non H', rt := Q } (start N_is_nameT [.str x]) H :=
  have e : t_is_nameT K = t_is_name K := rfl
  e ▸ pure_is_name K [.str x] H Q E0 ⟨x, rfl, hz, q⟩
theorem pure_is_nameT (K : PySem.W.Frag) (vs : List V) (H : Hp) (Q : VK) (E : XK) (h : sp_is_nameT K vs H Q E) :
    t_is_nameT K { nx := fun _ H' => Q .non H', rt := Q } (start N_is_nameT vs) H := by
  obtain ⟨v, T, rfl, t, l, q⟩ := h
  have no : T ≠ "str" → nameV v = false → t_is_nameT K { nx := fun _ H' => Q .non H', rt := Q } (start N_is_nameT [v]) H := fun n e => by
    rw [e] at q
    unfold t_is_nameT
    walk_at "gx"
    refine w_isStr t ?_
    rw [decide_eq_false n]
    walk_at "gx"
    exact q
  cases t with
  | non => exact no (by decide) rfl
  | bl b => exact no (by decide) rfl
  | int i => exact no (by decide) rfl
  | str s => exact nameT_str K H Q (sz (Nat.le_trans (l s rfl) (by decide))) q
  | lst h => exact no (by decide) rfl
  | tup h => exact no (by decide) rfl
  | dct h => exact no (by decide) rfl
theorem pure_is_endT (K : PySem.W.Frag) (vs : List V) (H : Hp) (Q : VK) (E : XK) (h : sp_is_endT K vs H Q E) :
    t_is_endT K { nx := fun _ H' => Q .non H', rt := Q } (start N_is_endT vs) H := by
  obtain ⟨v, b, rfl, f, q⟩ := h
  unfold t_is_endT
  cases f with
  | odd t n =>
    walk_at "gx"
    refine w_isTup t ?_
    rw [decide_eq_false n]
    walk_at "gx"
    exact q
  | @two p s u T h t l =>
    walk_at "gx"
    refine w_isTup (.tup h) ?_
    walk_at "gx"
    refine w_no (show (!decide (((2 : Nat) : Int) = 2)) = false from rfl) ?_
    walk_at "gx"
    refine w_isStr (.str s) ?_
    walk_at "gx"
    unfold t_is_endT_j1
    walk_at "gx"
    by_cases e : s = ("number" : Str)
    · rw [decide_eq_true e]
      walk_at "gx"
      refine ⟨u, T, rfl, t, ?_⟩
      unfold endB at q
      rw [if_pos e] at q
      exact q
    · rw [decide_eq_false e]
      walk_at "gx"
      unfold endB at q
      rw [if_neg e] at q
      refine w_two (fun e2 => ?_) (fun e2 => ?_)
      · walk_at "gx"
        refine ⟨u, T, rfl, t, l, ?_⟩
        rw [e2, Bool.true_and] at q
        exact q
      · rw [e2, Bool.false_and] at q
        exact q
  | @long p xs h n =>
    walk_at "gx"
    refine w_isTup (.tup h) ?_
    walk_at "gx"
    refine w_yes (show (!decide (((xs.length : Nat) : Int) = 2)) = true by rw [decide_eq_false (by omega)] <;> rfl) ?_
    walk_at "gx"
    exact q
theorem Fth.monoI {K : PySem.W.Frag} {H H' : Hp} {v : V} {b : Bool} (e : SameI H H') (h : Fth K H v b) : Fth K H' v b := by
  cases h with
  | odd t n => exact .odd (t.monoI e) n
  | two h t l => exact .two (same_tI e h) (t.monoI e) l
  | long h n => exact .long (same_tI e h) n
theorem Fth.mono {K : PySem.W.Frag} {H H' : Hp} {v : V} {b : Bool} (e : Same H H') (h : Fth K H v b) : Fth K H' v b := h.monoI (.of e)
/-- a formula in which something is wrong, so many deep being left: which class it is refused with -/
inductive BadF (K : PySem.W.Frag) (H : Hp) : V → Nat → Str → Prop where
  | deep {v : V} : BadF K H v 0 "TooDeep"
  | odd {v : V} {T : String} {l : Nat} (t : Thg K H v T) (n : T ≠ "tuple") : BadF K H v (l + 1) "NoRow"
  | two {p : Addr} {s : Str} {u : V} {T : String} {l : Nat} (h : SqT K H p [.str s, u]) (t : Thg K H u T) (sh : ShortV u) (e : endB s u = false) : BadF K H (.ref p) (l + 1) "NoRow"
  | sign {p : Addr} {s : Str} {a b : V} {l : Nat} (h : SqT K H p [.str s, a, b]) (e : s ∉ sgs) : BadF K H (.ref p) (l + 1) "NoRow"
  | left {p : Addr} {s : Str} {a b : V} {l : Nat} {x : Str} (h : SqT K H p [.str s, a, b]) (e : s ∈ sgs) (g : BadF K H a l x) : BadF K H (.ref p) (l + 1) x
  | right {p : Addr} {s : Str} {a b : V} {f : Fm} {l : Nat} {x : Str} (h : SqT K H p [.str s, a, b]) (e : s ∈ sgs) (hf : FmAt K H a f) (rt : f.rt) (d : f.depth ≤ l) (g : BadF K H b l x) : BadF K H (.ref p) (l + 1) x
theorem BadF.monoI {K : PySem.W.Frag} {H H' : Hp} (e : SameI H H') {v : V} {l : Nat} {x : Str} (h : BadF K H v l x) : BadF K H' v l x := by
  induction h with
  | deep => exact .deep
  | odd t n => exact .odd (t.monoI e) n
  | two h t sh q => exact .two (same_tI e h) (t.monoI e) sh q
  | sign h q => exact .sign (same_tI e h) q
  | left h q _ ih => exact .left (same_tI e h) q ih
  | right h q hf rt d _ ih => exact .right (same_tI e h) q (hf.monoT e.T) rt d ih
theorem BadF.mono {K : PySem.W.Frag} {H H' : Hp} (e : Same H H') {v : V} {l : Nat} {x : Str} (h : BadF K H v l x) : BadF K H' v l x := h.monoI (.of e)
theorem FmAt.fth {K : PySem.W.Frag} {H : Hp} {v : V} {f : Fm} (h : FmAt K H v f) (rt : f.rt) : ∃ b, Fth K H v b ∧ ((b = true ∧ f.depth = 1) ∨ (b = false ∧ ∃ s a c p x y, f = .op s a c ∧ v = .ref p ∧ SqT K H p [.str s.txt, x, y] ∧ FmAt K H x a ∧ FmAt K H y c)) := by
  cases h with
  | @num p n h =>
    refine ⟨_, .two h (.int n) (fun x e => nomatch e), .inl ⟨?_, rfl⟩⟩
    unfold endB
    rw [if_pos rfl]
    show (decide (0 ≤ n) && decide (n < 1000000)) = true
    rw [decide_eq_true rt.1, decide_eq_true rt.2] <;> rfl
  | @nam p y h =>
    have hy : Nm y := rt
    refine ⟨_, .two h (.str y) (fun x e => by cases e; rw [cs_len]; have := hy.most; omega), .inl ⟨?_, rfl⟩⟩
    unfold endB
    rw [if_neg (by decide +kernel), decide_eq_true rfl, Bool.true_and]
    exact nm_iff.mpr hy
  | @op p s x y a c h h1 h2 => exact ⟨false, .long h (show (3 : Nat) ≠ 2 by decide), .inr ⟨rfl, s, a, c, p, x, y, rfl, rfl, h, h1, h2⟩⟩
def sp_need_formulaT (K : PySem.W.Frag) (n : Nat) : Sp := fun vs H Q E => ∃ (v : V) (l : Nat), vs = [v, .int (l : Nat)] ∧ l < n ∧
  ((∃ f, FmAt K H v f ∧ f.rt ∧ f.depth ≤ l ∧ ∀ H', Same H H' → Q .non H') ∨ (∃ x, BadF K H v l x ∧ ∀ C H', IsX K x C → Same H H' → E (.ref C) none H'))
theorem no_need_formulaT {K : PySem.W.Frag} : ∀ vs H Q E, ¬ sp_need_formulaT K 0 vs H Q E := by
  rintro vs H Q E ⟨_, _, _, h, _⟩
  omega
def sp_is_listT (K : PySem.W.Frag) : Sp := fun vs H Q _ => ∃ v T, vs = [v] ∧ Thg K H v T ∧ ∀ H', Same H H' → Q (.bl (decide (T = "list") || decide (T = "tuple"))) H'
def thingsN (s : Str) : Nat := if s = ("skip" : Str) then 1 else if s = ("tell" : Str) then 2 else if s = ("set" : Str) ∨ s = ("while" : Str) then 3 else if s = ("if" : Str) then 4 else 0
def sp_things_ofT (K : PySem.W.Frag) : Sp := fun vs H Q _ => ∃ s : Str, vs = [.str s] ∧ Q (.int (thingsN s : Nat)) H
/-- what has the form of a row, its blocks of any kind -/
inductive FormAt (K : PySem.W.Frag) (H : Hp) : V → Option V → List V → Prop where
  | skip {p : Addr} (h : SqT K H p [.str "skip"]) : FormAt K H (.ref p) none []
  | tell {p : Addr} {u : V} (h : SqT K H p [.str "tell", u]) : FormAt K H (.ref p) (some u) []
  | set {p : Addr} {w u : V} (h : SqT K H p [.str "set", w, u]) : FormAt K H (.ref p) (some u) []
  | whl {p : Addr} {u a : V} (h : SqT K H p [.str "while", u, a]) : FormAt K H (.ref p) (some u) [a]
  | ite {p : Addr} {u a b : V} (h : SqT K H p [.str "if", u, a, b]) : FormAt K H (.ref p) (some u) [a, b]
theorem FormAt.monoI {K : PySem.W.Frag} {H H' : Hp} (e : SameI H H') {v : V} {o : Option V} {ps : List V} (h : FormAt K H v o ps) : FormAt K H' v o ps := by
  cases h with
  | skip h => exact .skip (same_tI e h)
  | tell h => exact .tell (same_tI e h)
  | set h => exact .set (same_tI e h)
  | whl h => exact .whl (same_tI e h)
  | ite h => exact .ite (same_tI e h)
theorem FormAt.mono {K : PySem.W.Frag} {H H' : Hp} (e : Same H H') {v : V} {o : Option V} {ps : List V} (h : FormAt K H v o ps) : FormAt K H' v o ps := h.monoI (.of e)
def sp_formula_ofT (K : PySem.W.Frag) : Sp := fun vs H Q _ => ∃ (v : V) (o : Option V) (ps : List V), vs = [v] ∧ FormAt K H v o ps ∧ Q (o.getD .non) H
def sp_blocks_ofT (K : PySem.W.Frag) : Sp := fun vs H Q _ => ∃ (v : V) (o : Option V) (ps : List V), vs = [v] ∧ FormAt K H v o ps ∧ ∀ (p : Addr) (H' : Hp), Same H H' → H p = none → H' p = some (.lst ps) → Q (.ref p) H'
abbrev N_need_formulaT : List Str := ["thing", "left"]
noncomputable def t_need_formulaT_j1 (K : PySem.W.Frag) (n : Nat) (W : WX) : TS :=
  (tSeq (tDrop (tFX (sp_need_formulaT K n) W (tCons (tOp (rIx K) (tVar 0) (tC (.int 1))) (tCons (tOp rSub (tVar 1) (tC (.int 1))) tNil)))) (tDrop (tFX (sp_need_formulaT K n) W (tCons (tOp (rIx K) (tVar 0) (tC (.int 2))) (tCons (tOp rSub (tVar 1) (tC (.int 1))) tNil)))))
noncomputable def t_need_formulaT (K : PySem.W.Frag) (n : Nat) (W : WX) : TS :=
  (tSeq (tIfS (tTest (tOp (rEq2 K) (tVar 1) (tC (.int 0)))) (tRaise K "TooDeep" W) tNext) (tSeq (tIfS (tB (tF (sp_is_endT K) (tCons (tVar 0) tNil))) tRetN tNext) (tSeq (tIfS (tOr (tNot (tB (tCB (rIsi2 K) (tCons (tVar 0) (tCons (tC (.ty "tuple")) tNil))))) (tOr (tTest (tOp (rNe2 K) (tCB (rLenA K) (tCons (tVar 0) tNil)) (tC (.int 3)))) (tOr (tNot (tB (tCB (rIsi2 K) (tCons (tOp (rIx K) (tVar 0) (tC (.int 0))) (tCons (tC (.ty "str")) tNil))))) (tTest (tOp (rIn2 K true) (tOp (rIx K) (tVar 0) (tC (.int 0))) (tGT K (sgs.map V.str))))))) (tRaise K "NoRow" W) tNext) (t_need_formulaT_j1 K n W))))
abbrev N_is_listT : List Str := ["thing"]
noncomputable def t_is_listT (K : PySem.W.Frag) : TS :=
  (tRet (tCB (rIsi2 K) (tCons (tVar 0) (tCons (tTup (tCons (tC (.ty "list")) (tCons (tC (.ty "tuple")) tNil))) tNil))))
abbrev N_things_ofT : List Str := ["word"]
noncomputable def t_things_ofT_j1 (K : PySem.W.Frag) : TS :=
  (tSeq (tIfS (tTest (tOp (rEq2 K) (tVar 0) (tC (.str "if")))) (tRet (tC (.int 4))) tNext) (tRet (tC (.int 0))))
noncomputable def t_things_ofT (K : PySem.W.Frag) : TS :=
  (tSeq (tIfS (tTest (tOp (rEq2 K) (tVar 0) (tC (.str "skip")))) (tRet (tC (.int 1))) tNext) (tSeq (tIfS (tTest (tOp (rEq2 K) (tVar 0) (tC (.str "tell")))) (tRet (tC (.int 2))) tNext) (tSeq (tIfS (tOr (tTest (tOp (rEq2 K) (tVar 0) (tC (.str "set")))) (tTest (tOp (rEq2 K) (tVar 0) (tC (.str "while"))))) (tRet (tC (.int 3))) tNext) (t_things_ofT_j1 K))))
abbrev N_formula_ofT : List Str := ["row"]
noncomputable def t_formula_ofT (K : PySem.W.Frag) : TS :=
  (tSeq (tIfS (tTest (tOp (rEq2 K) (tOp (rIx K) (tVar 0) (tC (.int 0))) (tC (.str "skip")))) (tRet (tC .non)) tNext) (tSeq (tIfS (tTest (tOp (rEq2 K) (tOp (rIx K) (tVar 0) (tC (.int 0))) (tC (.str "set")))) (tRet (tOp (rIx K) (tVar 0) (tC (.int 2)))) tNext) (tRet (tOp (rIx K) (tVar 0) (tC (.int 1))))))
abbrev N_blocks_ofT : List Str := ["row"]
noncomputable def t_blocks_ofT (K : PySem.W.Frag) : TS :=
  (tSeq (tIfS (tTest (tOp (rEq2 K) (tOp (rIx K) (tVar 0) (tC (.int 0))) (tC (.str "if")))) (tRet (tLst (tCons (tOp (rIx K) (tVar 0) (tC (.int 2))) (tCons (tOp (rIx K) (tVar 0) (tC (.int 3))) tNil)))) tNext) (tSeq (tIfS (tTest (tOp (rEq2 K) (tOp (rIx K) (tVar 0) (tC (.int 0))) (tC (.str "while")))) (tRet (tLst (tCons (tOp (rIx K) (tVar 0) (tC (.int 2))) tNil))) tNext) (tRet (tLst tNil))))
theorem pure_need_formulaT (K : PySem.W.Frag) (n : Nat) (vs : List V) (H : Hp) (Q : VK) (E : XK) (h : sp_need_formulaT K (n + 1) vs H Q E) :
    t_need_formulaT K n (WD E) { nx := fun _ H' => Q .non H', rt := Q } (start N_need_formulaT vs) H := by
  obtain ⟨v, l, rfl, hl, h⟩ := h
  have i1 : ∀ m : Nat, ((m + 1 : Nat) : Int) - 1 = ((m : Nat) : Int) := fun m => by omega
  have out : ∀ {x : Str} {D : Ends} {σ : L2.St} {H1 : Hp}, Same H H1 → (∀ C H', IsX K x C → Same H H' → E (.ref C) none H') → tRaise K x (WD E) D σ H1 := fun e h C hC => h C _ hC e
  have sg_ : ∀ {s : Str}, s ∈ sgs → (!decide (s ∈ sgs)) = false := fun h => by rw [decide_eq_true h] <;> rfl
  cases l with
  | zero =>
    have q : ∀ C H', IsX K "TooDeep" C → Same H H' → E (.ref C) none H' := by
      rcases h with ⟨f, _, _, d, _⟩ | ⟨x, b, q⟩
      · have := f.depth_pos
        omega
      · cases b
        exact q
    unfold t_need_formulaT
    walk_at "gx"
    exact fun C hC => q C _ hC (Same.refl _)
  | succ l =>
    have l0 : decide (((l + 1 : Nat) : Int) = 0) = false := decide_eq_false (by omega)
    unfold t_need_formulaT
    walk_at "gx"
    /- a sign and two sides -/
    have tri : ∀ {p : Addr} {s : Str} {a b : V}, v = .ref p → SqT K H p [.str s, a, b] → s ∈ sgs → sp_need_formulaT K n [a, .int (l : Nat)] H (fun _ H1 => sp_need_formulaT K n [b, .int (l : Nat)] H1 (fun _ H2 => Q .non H2) E) E →
        sp_is_endT K [v] H (fun x H' => ∃ k, x = V.bl k ∧ if k = true then tRetN { nx := tSeq (tIfS (tOr (tNot (tB (tCB (rIsi2 K) (tCons (tVar 0) (tCons (tC (.ty "tuple")) tNil))))) (tOr (tTest (tOp (rNe2 K) (tCB (rLenA K) (tCons (tVar 0) tNil)) (tC (.int 3)))) (tOr (tNot (tB (tCB (rIsi2 K) (tCons (tOp (rIx K) (tVar 0) (tC (.int 0))) (tCons (tC (.ty "str")) tNil))))) (tTest (tOp (rIn2 K true) (tOp (rIx K) (tVar 0) (tC (.int 0))) (tGT K (sgs.map V.str))))))) (tRaise K "NoRow" (WD E)) tNext) (t_need_formulaT_j1 K n (WD E)) { nx := fun _ H' => Q .non H', rt := Q }, rt := Q } (L2.start N_need_formulaT [v, .int ((l + 1 : Nat) : Nat)]) H'
          else tNext { nx := tSeq (tIfS (tOr (tNot (tB (tCB (rIsi2 K) (tCons (tVar 0) (tCons (tC (.ty "tuple")) tNil))))) (tOr (tTest (tOp (rNe2 K) (tCB (rLenA K) (tCons (tVar 0) tNil)) (tC (.int 3)))) (tOr (tNot (tB (tCB (rIsi2 K) (tCons (tOp (rIx K) (tVar 0) (tC (.int 0))) (tCons (tC (.ty "str")) tNil))))) (tTest (tOp (rIn2 K true) (tOp (rIx K) (tVar 0) (tC (.int 0))) (tGT K (sgs.map V.str))))))) (tRaise K "NoRow" (WD E)) tNext) (t_need_formulaT_j1 K n (WD E)) { nx := fun _ H' => Q .non H', rt := Q }, rt := Q } (L2.start N_need_formulaT [v, .int ((l + 1 : Nat) : Nat)]) H') E0 := by
      rintro p s a b rfl hs he g
      refine ⟨_, _, rfl, .long hs (show (3 : Nat) ≠ 2 by decide), ?_⟩
      walk_at "gx"
      refine w_isTup (.tup hs) ?_
      walk_at "gx"
      refine w_no (show (!decide (((3 : Nat) : Int) = 3)) = false from rfl) ?_
      walk_at "gx"
      refine w_isStr (.str _) ?_
      walk_at "gx"
      intro sg hsg
      refine w_ninTxtT (xs := sgs) (hsg H) ?_
      rw [sg_ he]
      walk_at "gx"
      unfold t_need_formulaT_j1
      walk_at "gx"
      rw [i1]
      obtain ⟨a', l', e, hl', g⟩ := g
      cases e
      refine ⟨a, l, rfl, hl', ?_⟩
      have second : ∀ H1, Same H H1 → sp_need_formulaT K n [b, .int (l : Nat)] H1 (fun _ H2 => Q .non H2) E → tDrop (tFX (sp_need_formulaT K n) (WD E) (tCons (tOp (rIx K) (tVar 0) (tC (.int 2))) (tCons (tOp rSub (tVar 1) (tC (.int 1))) tNil))) { nx := fun _ H' => Q .non H', rt := Q } (L2.start N_need_formulaT [.ref p, .int ((l + 1 : Nat) : Nat)]) H1 := fun H1 e1 g2 => by
        have hs1 := same_t e1 hs
        walk_at "gx"
        rw [i1]
        exact g2
      rcases g with ⟨f, hf, rt, d, k⟩ | g
      · exact .inl ⟨f, hf, rt, d, fun H1 e1 => second H1 e1 (k H1 e1)⟩
      · exact .inr g
    rcases h with ⟨f, hf, rt, d, q⟩ | ⟨x, b, q⟩
    · obtain ⟨b, fth, h⟩ := FmAt.fth hf rt
      rcases h with ⟨rfl, _⟩ | ⟨rfl, s, a, c, p, x, y, rfl, rfl, hs, h1, h2⟩
      · refine ⟨v, _, rfl, fth, ?_⟩
        walk_at "gx"
        exact q _ (Same.refl _)
      · have d : max a.depth c.depth + 1 ≤ l + 1 := d
        exact tri rfl hs (of_decide_eq_true (sgs_mem s)) ⟨x, l, rfl, by omega, .inl ⟨a, h1, rt.1, by omega, fun H1 e1 => ⟨y, l, rfl, by omega, .inl ⟨c, h2.mono e1, rt.2, by omega, fun H2 e2 => q _ (e1.trans e2)⟩⟩⟩⟩
    · cases b with
      | odd t n =>
        refine ⟨v, _, rfl, .odd t n, ?_⟩
        walk_at "gx"
        refine w_isTup t ?_
        rw [decide_eq_false n]
        walk_at "gx"
        exact fun C hC => q C _ hC (Same.refl _)
      | two h t sh e =>
        refine ⟨_, _, rfl, .two h t sh, ?_⟩
        rw [e]
        walk_at "gx"
        refine w_isTup (.tup h) ?_
        walk_at "gx"
        refine w_yes (show (!decide (((2 : Nat) : Int) = 3)) = true from rfl) ?_
        walk_at "gx"
        exact fun C hC => q C _ hC (Same.refl _)
      | sign h e =>
        refine ⟨_, _, rfl, .long h (show (3 : Nat) ≠ 2 by decide), ?_⟩
        walk_at "gx"
        refine w_isTup (.tup h) ?_
        walk_at "gx"
        refine w_no (show (!decide (((3 : Nat) : Int) = 3)) = false from rfl) ?_
        walk_at "gx"
        refine w_isStr (.str _) ?_
        walk_at "gx"
        intro sg hsg
        refine w_ninTxtT (xs := sgs) (hsg H) ?_
        rw [decide_eq_false e]
        walk_at "gx"
        exact fun C hC => q C _ hC (Same.refl _)
      | left h e g => exact tri rfl h e ⟨_, l, rfl, by omega, .inr ⟨x, g, q⟩⟩
      | right h e hf rt d g => exact tri rfl h e ⟨_, l, rfl, by omega, .inl ⟨_, hf, rt, d, fun H1 e1 => ⟨_, l, rfl, by omega, .inr ⟨x, g.mono e1, fun C H2 hC e2 => q C _ hC (e1.trans e2)⟩⟩⟩⟩
theorem pure_is_listT (K : PySem.W.Frag) (vs : List V) (H : Hp) (Q : VK) (E : XK) (h : sp_is_listT K vs H Q E) :
    t_is_listT K { nx := fun _ H' => Q .non H', rt := Q } (start N_is_listT vs) H := by
  obtain ⟨v, T, rfl, t, q⟩ := h
  unfold t_is_listT
  walk_at "gx"
  rename_i p H1 n1 e1 h1
  exact w_isLTK h1 (t.mono e1) (q _ e1)
theorem pure_things_ofT (K : PySem.W.Frag) (vs : List V) (H : Hp) (Q : VK) (E : XK) (h : sp_things_ofT K vs H Q E) :
    t_things_ofT K { nx := fun _ H' => Q .non H', rt := Q } (start N_things_ofT vs) H := by
  obtain ⟨s, rfl, q⟩ := h
  unfold t_things_ofT
  unfold thingsN at q
  walk_at "gx"
  by_cases e1 : s = ("skip" : Str)
  · rw [decide_eq_true e1]
    rw [if_pos e1] at q
    walk_at "gx"
    exact q
  rw [decide_eq_false e1]
  rw [if_neg e1] at q
  walk_at "gx"
  by_cases e2 : s = ("tell" : Str)
  · rw [decide_eq_true e2]
    rw [if_pos e2] at q
    walk_at "gx"
    exact q
  rw [decide_eq_false e2]
  rw [if_neg e2] at q
  walk_at "gx"
  by_cases e3 : s = ("set" : Str)
  · rw [decide_eq_true e3]
    rw [if_pos (.inl e3)] at q
    walk_at "gx"
    exact q
  rw [decide_eq_false e3]
  walk_at "gx"
  by_cases e4 : s = ("while" : Str)
  · rw [decide_eq_true e4]
    rw [if_pos (.inr e4)] at q
    walk_at "gx"
    exact q
  rw [decide_eq_false e4]
  rw [if_neg (fun h => h.elim e3 e4)] at q
  walk_at "gx"
  unfold t_things_ofT_j1
  walk_at "gx"
  by_cases e5 : s = ("if" : Str)
  · rw [decide_eq_true e5]
    rw [if_pos e5] at q
    walk_at "gx"
    exact q
  · rw [decide_eq_false e5]
    rw [if_neg e5] at q
    walk_at "gx"
    exact q
theorem pure_formula_ofT (K : PySem.W.Frag) (vs : List V) (H : Hp) (Q : VK) (E : XK) (h : sp_formula_ofT K vs H Q E) :
    t_formula_ofT K { nx := fun _ H' => Q .non H', rt := Q } (start N_formula_ofT vs) H := by
  obtain ⟨v, o, ps, rfl, hf, q⟩ := h
  unfold t_formula_ofT
  cases hf with
  | skip h => walk_at "gx"; exact q
  | tell h => walk_at "gx"; exact q
  | set h => walk_at "gx"; exact q
  | whl h => walk_at "gx"; exact q
  | ite h => walk_at "gx"; exact q
theorem pure_blocks_ofT (K : PySem.W.Frag) (vs : List V) (H : Hp) (Q : VK) (E : XK) (h : sp_blocks_ofT K vs H Q E) :
    t_blocks_ofT K { nx := fun _ H' => Q .non H', rt := Q } (start N_blocks_ofT vs) H := by
  obtain ⟨v, o, ps, rfl, hf, q⟩ := h
  unfold t_blocks_ofT
  cases hf with
  | skip h => walk_at "gx"; rename_i p H1 n1 e1 h1; exact q p H1 e1 n1 h1
  | tell h => walk_at "gx"; rename_i p H1 n1 e1 h1; exact q p H1 e1 n1 h1
  | set h => walk_at "gx"; rename_i p H1 n1 e1 h1; exact q p H1 e1 n1 h1
  | whl h => walk_at "gx"; rename_i p H1 n1 e1 h1; exact q p H1 e1 n1 h1
  | ite h => walk_at "gx"; rename_i p H1 n1 e1 h1; exact q p H1 e1 n1 h1
abbrev isL (T : String) : Bool := decide (T = "list") || decide (T = "tuple")
theorem se_thg {K : PySem.W.Frag} {H : Hp} {a : Addr} {xs : List V} (h : SE K H a xs) : ∃ T, Thg K H (.ref a) T ∧ isL T = true := by
  rcases h with h | h
  · exact ⟨_, .lst h, by decide⟩
  · exact ⟨_, .tup h, by decide⟩
/-- a row's form is right: its formula, its blocks' things -/
inductive RowF (K : PySem.W.Frag) (H : Hp) : V → Option V → List (Addr × List V) → Prop where
  | skip {p : Addr} (h : SqT K H p [.str "skip"]) : RowF K H (.ref p) none []
  | tell {p : Addr} {u : V} (h : SqT K H p [.str "tell", u]) : RowF K H (.ref p) (some u) []
  | set {p : Addr} {x : Str} {u : V} (h : SqT K H p [.str "set", .str x, u]) (n : Nm x) : RowF K H (.ref p) (some u) []
  | whl {p a : Addr} {u : V} {xs : List V} (h : SqT K H p [.str "while", u, .ref a]) (s : SE K H a xs) : RowF K H (.ref p) (some u) [(a, xs)]
  | ite {p a b : Addr} {u : V} {xs ys : List V} (h : SqT K H p [.str "if", u, .ref a, .ref b]) (s : SE K H a xs) (t : SE K H b ys) : RowF K H (.ref p) (some u) [(a, xs), (b, ys)]
theorem RowF.monoI {K : PySem.W.Frag} {H H' : Hp} (e : SameI H H') {v : V} {o : Option V} {ps : List (Addr × List V)} (h : RowF K H v o ps) : RowF K H' v o ps := by
  cases h with
  | skip h => exact .skip (same_tI e h)
  | tell h => exact .tell (same_tI e h)
  | set h n => exact .set (same_tI e h) n
  | whl h s => exact .whl (same_tI e h) (se_sameI e s)
  | ite h s t => exact .ite (same_tI e h) (se_sameI e s) (se_sameI e t)
theorem RowF.mono {K : PySem.W.Frag} {H H' : Hp} (e : Same H H') {v : V} {o : Option V} {ps : List (Addr × List V)} (h : RowF K H v o ps) : RowF K H' v o ps := h.monoI (.of e)
theorem RowF.form {K : PySem.W.Frag} {H : Hp} {v : V} {o : Option V} {ps : List (Addr × List V)} (h : RowF K H v o ps) : FormAt K H v o (ps.map fun p => V.ref p.1) := by
  cases h with
  | skip h => exact .skip h
  | tell h => exact .tell h
  | set h n => exact .set h
  | whl h s => exact .whl h
  | ite h s t => exact .ite h
theorem RowF.ses {K : PySem.W.Frag} {H : Hp} {v : V} {o : Option V} {ps : List (Addr × List V)} (h : RowF K H v o ps) : ∀ p ∈ ps, SE K H p.1 p.2 := by
  intro p hp
  cases h with
  | skip h => exact nomatch hp
  | tell h => exact nomatch hp
  | set h n => exact nomatch hp
  | whl h s => rw [List.mem_singleton.mp hp]; exact s
  | ite h s t =>
    rcases List.mem_cons.mp hp with rfl | hp
    · exact s
    · rw [List.mem_singleton.mp hp]; exact t
inductive NoForm (K : PySem.W.Frag) (H : Hp) : V → Prop where
  | odd {v : V} {T : String} (t : Thg K H v T) (n : T ≠ "tuple") : NoForm K H v
  | emp {p : Addr} (h : SqT K H p []) : NoForm K H (.ref p)
  | hd {p : Addr} {u : V} {T : String} {xs : List V} (h : SqT K H p (u :: xs)) (t : Thg K H u T) (n : T ≠ "str") : NoForm K H (.ref p)
  | len {p : Addr} {s : Str} {xs : List V} (h : SqT K H p (.str s :: xs)) (n : thingsN s ≠ xs.length + 1) : NoForm K H (.ref p)
  | nam {p : Addr} {w u : V} {T : String} (h : SqT K H p [.str "set", w, u]) (t : Thg K H w T) (l : ShortV w) (n : nameV w = false) : NoForm K H (.ref p)
  | whl {p : Addr} {u w : V} {T : String} (h : SqT K H p [.str "while", u, w]) (t : Thg K H w T) (n : isL T = false) : NoForm K H (.ref p)
  | ite {p : Addr} {u a b : V} {T T' : String} (h : SqT K H p [.str "if", u, a, b]) (t : Thg K H a T) (t' : Thg K H b T') (n : (isL T && isL T') = false) : NoForm K H (.ref p)
def sp_need_formT (K : PySem.W.Frag) : Sp := fun vs H Q E => ∃ v, vs = [v] ∧
  ((∃ o ps, RowF K H v o ps ∧ ∀ H', Same H H' → Q .non H') ∨ (NoForm K H v ∧ ∀ C H', IsX K "NoRow" C → Same H H' → E (.ref C) none H'))
abbrev N_need_formT : List Str := ["row", "block"]
noncomputable def t_need_formT_j1 (K : PySem.W.Frag) (W : WX) : TS :=
  (tFor (iSeq K (tF (sp_blocks_ofT K) (tCons (tVar 0) tNil))) (gName 1) (tIfS (tNot (tB (tF (sp_is_listT K) (tCons (tVar 1) tNil)))) (tRaise K "NoRow" W) tNext))
noncomputable def t_need_formT_j2 (K : PySem.W.Frag) (W : WX) : TS :=
  (tSeq (tIfS (tTest (tOp (rNe2 K) (tF (sp_things_ofT K) (tCons (tOp (rIx K) (tVar 0) (tC (.int 0))) tNil)) (tCB (rLenA K) (tCons (tVar 0) tNil)))) (tRaise K "NoRow" W) tNext) (tSeq (tIfS (tAnd (tTest (tOp (rEq2 K) (tOp (rIx K) (tVar 0) (tC (.int 0))) (tC (.str "set")))) (tNot (tB (tF (sp_is_nameT K) (tCons (tOp (rIx K) (tVar 0) (tC (.int 1))) tNil))))) (tRaise K "NoRow" W) tNext) (t_need_formT_j1 K W)))
noncomputable def t_need_formT (K : PySem.W.Frag) (W : WX) : TS :=
  (tSeq (tIfS (tOr (tNot (tB (tCB (rIsi2 K) (tCons (tVar 0) (tCons (tC (.ty "tuple")) tNil))))) (tOr (tTest (tOp (rEqT K) (tVar 0) (tTup tNil))) (tNot (tB (tCB (rIsi2 K) (tCons (tOp (rIx K) (tVar 0) (tC (.int 0))) (tCons (tC (.ty "str")) tNil))))))) (tRaise K "NoRow" W) tNext) (t_need_formT_j2 K W))
/-- the blocks are looked at -/
theorem form_j1 (K : PySem.W.Frag) {D : Ends} {W : WX} {v : V} {w1 : Option V} {o : Option V} {ps : List V} {H : Hp} (hf : FormAt K H v o ps) {ts : List String} (ht : All2 (fun u T => Thg K H u T) ps ts)
    (good : (∀ T ∈ ts, isL T = true) → ∀ H' w, Same H H' → D.nx [some v, w] H') (bad : ¬ (∀ T ∈ ts, isL T = true) → ∀ C H' w, IsX K "NoRow" C → Same H H' → W (.ref C) none [some v, w] H') :
    t_need_formT_j1 K W D [some v, w1] H := by
  unfold t_need_formT_j1
  walk_at "gx"
  refine ⟨v, o, ps, rfl, hf, fun p H1 e1 np hp => ?_⟩
  refine w_isL (SqL.of hp) ?_
  refine for_list (xs := ps) (fun i σ H' => Same H1 H' ∧ (∀ T ∈ ts.take i, isL T = true) ∧ ∃ w, σ = [some v, w]) ⟨Same.refl _, (fun T h => nomatch h), _, rfl⟩ (fun i σ H' _ h => SqL.of (h.1 p _ hp)) ?_ ?_
  · rintro i u σ H2 hu ⟨e2, hall, w, rfl⟩
    obtain ⟨T, hT, t⟩ := ht.get hu
    walk_at "gx"
    refine ⟨u, T, rfl, t.mono (e1.trans e2), fun H3 e3 => ?_⟩
    show ∃ k, V.bl (isL T) = .bl k ∧ _
    cases c : isL T with
    | true =>
      walk_at "gx"
      refine ⟨e2.trans e3, fun T' h => ?_, _, rfl⟩
      rw [take_snoc hT] at h
      rcases List.mem_append.mp h with h | h
      · exact hall T' h
      · rw [List.mem_singleton.mp h]; exact c
    | false =>
      walk_at "gx"
      exact fun C hC => bad (fun h => by have := h T (List.mem_of_getElem? hT); rw [c] at this; cases this) C _ _ hC (e1.trans (e2.trans e3))
  · rintro σ H2 ⟨e2, hall, w, rfl⟩
    rw [ht.len, List.take_length] at hall
    exact good hall _ _ (e1.trans e2)
theorem things_skip : thingsN "skip" = 1 := by decide +kernel
theorem things_tell : thingsN "tell" = 2 := by decide +kernel
theorem things_set : thingsN "set" = 3 := by decide +kernel
theorem things_whl : thingsN "while" = 3 := by decide +kernel
theorem things_ite : thingsN "if" = 4 := by decide +kernel
theorem pure_need_formT (K : PySem.W.Frag) (vs : List V) (H : Hp) (Q : VK) (E : XK) (h : sp_need_formT K vs H Q E) :
    t_need_formT K (WD E) { nx := fun _ H' => Q .non H', rt := Q } (start N_need_formT vs) H := by
  obtain ⟨v, rfl, h⟩ := h
  /- a tuple with a text ahead and as many things as its word asks -/
  have j2 : ∀ {p : Addr} {s : Str} {xs : List V} {H1 : Hp}, SqT K H1 p (.str s :: xs) →
      (thingsN s ≠ xs.length + 1 → ∀ C, IsX K "NoRow" C → E (.ref C) none H1) →
      (thingsN s = xs.length + 1 → s = ("set" : Str) → ∃ w T, atI (V.str s :: xs) 1 = some w ∧ Thg K H1 w T ∧ ShortV w ∧ (nameV w = false → ∀ C, IsX K "NoRow" C → E (.ref C) none H1) ∧ (nameV w = true → t_need_formT_j1 K (WD E) { nx := fun _ H' => Q .non H', rt := Q } [some (.ref p), none] H1)) →
      (thingsN s = xs.length + 1 → s ≠ ("set" : Str) → t_need_formT_j1 K (WD E) { nx := fun _ H' => Q .non H', rt := Q } [some (.ref p), none] H1) →
      t_need_formT_j2 K (WD E) { nx := fun _ H' => Q .non H', rt := Q } [some (.ref p), none] H1 := by
    intro p s xs H1 hs a b c
    unfold t_need_formT_j2
    walk_at "gx"
    refine w_ixT hs at0 ?_
    walk_at "gx"
    refine ⟨s, rfl, ?_⟩
    walk_at "gx"
    by_cases n : thingsN s = xs.length + 1
    · refine w_no (show (!decide (((thingsN s : Nat) : Int) = (((V.str s :: xs).length : Nat) : Int))) = false by rw [decide_eq_true (by rw [List.length_cons, n])] <;> rfl) ?_
      walk_at "gx"
      refine w_ixT hs at0 ?_
      walk_at "gx"
      by_cases m : s = ("set" : Str)
      · obtain ⟨w, T, e, t, l, f, g⟩ := b n m
        rw [decide_eq_true m]
        walk_at "gx"
        refine w_ixT hs e ?_
        walk_at "gx"
        refine ⟨w, T, rfl, t, l, ?_⟩
        cases k : nameV w with
        | false => walk_at "gx"; exact fun C hC => f k C hC
        | true => walk_at "gx"; exact g k
      · rw [decide_eq_false m]
        walk_at "gx"
        exact c n m
    · refine w_yes (show (!decide (((thingsN s : Nat) : Int) = (((V.str s :: xs).length : Nat) : Int))) = true by rw [decide_eq_false (by rw [List.length_cons]; omega)] <;> rfl) ?_
      exact fun C hC => a n C hC
  have top : ∀ {p : Addr} {s : Str} {xs : List V}, v = .ref p → SqT K H p (.str s :: xs) → (∀ H1, Same H H1 → t_need_formT_j2 K (WD E) { nx := fun _ H' => Q .non H', rt := Q } [some (.ref p), none] H1) →
      t_need_formT K (WD E) { nx := fun _ H' => Q .non H', rt := Q } (start N_need_formT [v]) H := by
    rintro p s xs rfl hs k
    unfold t_need_formT
    walk_at "gx"
    refine w_isTup (.tup hs) ?_
    walk_at "gx"
    rename_i q H1 n1 e1 h1
    refine w_eqNil (same_t e1 hs) (SqT.of h1) ?_
    refine w_bl ?_
    refine w_no rfl ?_
    walk_at "gx"
    refine w_ixT (same_t e1 hs) at0 ?_
    walk_at "gx"
    refine w_isStr (.str s) ?_
    walk_at "gx"
    exact k _ e1
  rcases h with ⟨o, ps, rf, q⟩ | ⟨nf, q⟩
  · have j1 : ∀ H1, Same H H1 → t_need_formT_j1 K (WD E) { nx := fun _ H' => Q .non H', rt := Q } [some v, none] H1 := fun H1 e1 => by
      have hse := (rf.mono e1).ses
      have ht : ∃ ts, All2 (fun u T => Thg K H1 u T) (ps.map fun p => V.ref p.1) ts ∧ ∀ T ∈ ts, isL T = true := by
        clear rf
        induction ps with
        | nil => exact ⟨[], .nil, fun T h => nomatch h⟩
        | cons p ps ih =>
          obtain ⟨ts, a, b⟩ := ih fun p hp => hse p (List.mem_cons_of_mem _ hp)
          obtain ⟨T, t, l⟩ := se_thg (hse p List.mem_cons_self)
          exact ⟨T :: ts, .cons t a, fun T' h => (List.mem_cons.mp h).elim (fun e => e ▸ l) (b T')⟩
      obtain ⟨ts, a, b⟩ := ht
      exact form_j1 K (rf.mono e1).form a (fun _ H' w e => q _ (e1.trans e)) (fun n => absurd b n)
    cases rf with
    | skip h => exact top rfl h fun H1 e1 => j2 (same_t e1 h) (fun n => absurd things_skip n) (fun _ m => absurd m (by decide +kernel)) (fun _ _ => j1 H1 e1)
    | tell h => exact top rfl h fun H1 e1 => j2 (same_t e1 h) (fun n => absurd things_tell n) (fun _ m => absurd m (by decide +kernel)) (fun _ _ => j1 H1 e1)
    | @set p x u h n => exact top rfl h fun H1 e1 => j2 (same_t e1 h) (fun n => absurd things_set n) (fun _ m => ⟨.str x, "str", atI_nat (j := 1) rfl, .str x, (fun y e => by cases e; rw [cs_len]; have := n.most; omega), (fun c => by have := nm_iff.mpr n; rw [show nameV (.str x) = nmB x from rfl, this] at c; cases c), fun _ => j1 H1 e1⟩) (fun _ m => absurd rfl m)
    | whl h s => exact top rfl h fun H1 e1 => j2 (same_t e1 h) (fun n => absurd things_whl n) (fun _ m => absurd m (by decide +kernel)) (fun _ _ => j1 H1 e1)
    | ite h s t => exact top rfl h fun H1 e1 => j2 (same_t e1 h) (fun n => absurd things_ite n) (fun _ m => absurd m (by decide +kernel)) (fun _ _ => j1 H1 e1)
  · cases nf with
    | odd t n =>
      unfold t_need_formT
      walk_at "gx"
      refine w_isTup t ?_
      rw [decide_eq_false n]
      walk_at "gx"
      exact fun C hC => q C _ hC (Same.refl _)
    | emp h =>
      unfold t_need_formT
      walk_at "gx"
      refine w_isTup (.tup h) ?_
      walk_at "gx"
      rename_i p H1 n1 e1 h1
      refine w_eqNil (same_t e1 h) (SqT.of h1) ?_
      walk_at "gx"
      exact fun C hC => q C _ hC e1
    | hd h t n =>
      unfold t_need_formT
      walk_at "gx"
      refine w_isTup (.tup h) ?_
      walk_at "gx"
      rename_i p H1 n1 e1 h1
      refine w_eqNil (same_t e1 h) (SqT.of h1) ?_
      refine w_bl ?_
      refine w_no rfl ?_
      walk_at "gx"
      refine w_ixT (same_t e1 h) at0 ?_
      walk_at "gx"
      refine w_isStr (t.mono e1) ?_
      rw [decide_eq_false n]
      walk_at "gx"
      exact fun C hC => q C _ hC e1
    | len h n => exact top rfl h fun H1 e1 => j2 (same_t e1 h) (fun _ C hC => q C _ hC e1) (fun m => absurd m n) (fun m => absurd m n)
    | @nam p w u T h t l n => exact top rfl h fun H1 e1 => j2 (same_t e1 h) (fun n => absurd things_set n) (fun _ m => ⟨w, T, atI_nat (j := 1) rfl, t.mono e1, l, (fun _ C hC => q C _ hC e1), fun c => by rw [n] at c; cases c⟩) (fun _ m => absurd rfl m)
    | @whl p u w T h t n => exact top rfl h fun H1 e1 => j2 (same_t e1 h) (fun n => absurd things_whl n) (fun _ m => absurd m (by decide +kernel)) (fun _ _ => form_j1 K (.whl (same_t e1 h)) (.cons (t.mono e1) .nil) (fun g => by have := g T (List.mem_singleton.mpr rfl); rw [n] at this; cases this) (fun _ C H' w hC e => q C _ hC (e1.trans e)))
    | @ite p u a b T T' h t t' n => exact top rfl h fun H1 e1 => j2 (same_t e1 h) (fun n => absurd things_ite n) (fun _ m => absurd m (by decide +kernel)) (fun _ _ => form_j1 K (.ite (same_t e1 h)) (.cons (t.mono e1) (.cons (t'.mono e1) .nil)) (fun g => by rw [g T List.mem_cons_self, g T' (List.mem_cons_of_mem _ List.mem_cons_self)] at n; cases n) (fun _ C H' w hC e => q C _ hC (e1.trans e)))
theorem w_addTup' {K : PySem.W.Frag} {H : Hp} {Q : VK} {a b : Addr} {xs ys : List V} (ha : SqT K H a xs) (hb : SqT K H b ys) (hy : ys ≠ []) (z : xs.length + ys.length ≤ sizeLine) (q : ∀ p H', Same H H' → SqT K H' p (xs ++ ys) → Q (.ref p) H') : rAdd K (.ref a) (.ref b) H Q :=
  .inr (.inr (.inr ⟨a, b, xs, ys, rfl, rfl, ha, hb, z, fun e => q b H (Same.refl _) (by rw [e]; exact hb), fun _ e => absurd e hy, fun _ _ p hp => q p _ (same_new hp) (SqT.of upd_same)⟩))
theorem lc_bad {K : PySem.W.Frag} {a : Addr} {xs : List V} {g : TG} {tt : TT} {te : TE} {vs : List Nat} {σ : L2.St} {H0 : Hp} {Qd : Addr → Hp → Prop} (k : Nat) (hk : k < xs.length) (hq : SE K H0 a xs) (hl : xs.length ≤ 16000000)
    (hs : ∀ D i x H (Nx : Hp → Prop), i < k → xs[i]? = some x → Same H0 H → (∃ ys, H D = some (.lst ys)) → (∀ y H4, Same H H4 → ∃ acc, H4 D = some (.lst acc) ∧ acc.length < sizeLine ∧ Nx (upd H4 D (.lst (acc ++ [y])))) →
      g x (wipe σ vs) H fun σ2 H2 => wipe σ2 vs = wipe σ vs ∧ tt σ2 H2 fun b H3 => if b = true then te σ2 H3 fun y H4 => ∃ acc, H4 D = some (.lst acc) ∧ acc.length < sizeLine ∧ Nx (upd H4 D (.lst (acc ++ [y]))) else Nx H3)
    (hb : ∀ D x H (Nx : Hp → Prop), xs[k]? = some x → Same H0 H → g x (wipe σ vs) H fun σ2 H2 => wipe σ2 vs = wipe σ vs ∧ tt σ2 H2 fun b H3 => if b = true then te σ2 H3 fun y H4 => ∃ acc, H4 D = some (.lst acc) ∧ acc.length < sizeLine ∧ Nx (upd H4 D (.lst (acc ++ [y]))) else Nx H3) :
    ∃ b, V.ref a = .ref b ∧ (((∃ xs, SqL K H0 b xs) ∧ ∀ D, H0 D = none → ∃ W : Nat → Nat → Hp → Prop, (∃ m, W 0 m (upd H0 D (.lst []))) ∧ ∀ i m H, W i m H →
      ((Itl K b).stop i H ∧ Qd D H) ∨ ((Itl K b).go i H ∧ ∃ Nx : Hp → Prop, (∀ H', Nx H' → ∃ m', m' < m ∧ W (i + 1) m' H') ∧ ∀ x H', (Itl K b).yld i H x H' → g x (wipe σ vs) H' fun σ2 H2 => wipe σ2 vs = wipe σ vs ∧ tt σ2 H2 fun b H3 =>
        if b = true then te σ2 H3 fun y H4 => ∃ acc, H4 D = some (.lst acc) ∧ acc.length < sizeLine ∧ Nx (upd H4 D (.lst (acc ++ [y]))) else Nx H3)) ∨
      ((∃ xs, SqT K H0 b xs) ∧ ∀ D, H0 D = none → ∃ W : Nat → Nat → Hp → Prop, (∃ m, W 0 m (upd H0 D (.lst []))) ∧ ∀ i m H, W i m H →
      ((Itt K b).stop i H ∧ Qd D H) ∨ ((Itt K b).go i H ∧ ∃ Nx : Hp → Prop, (∀ H', Nx H' → ∃ m', m' < m ∧ W (i + 1) m' H') ∧ ∀ x H', (Itt K b).yld i H x H' → g x (wipe σ vs) H' fun σ2 H2 => wipe σ2 vs = wipe σ vs ∧ tt σ2 H2 fun b H3 =>
        if b = true then te σ2 H3 fun y H4 => ∃ acc, H4 D = some (.lst acc) ∧ acc.length < sizeLine ∧ Nx (upd H4 D (.lst (acc ++ [y]))) else Nx H3))) := by
  have step : ∀ D, H0 D = none → ∀ i x H, xs[i]? = some x → (Same H0 H ∧ i ≤ k ∧ ∃ ys, H D = some (.lst ys) ∧ ys.length = i) →
      g x (wipe σ vs) H fun σ2 H2 => wipe σ2 vs = wipe σ vs ∧ tt σ2 H2 fun b H3 => if b = true then te σ2 H3 fun y H4 => ∃ acc, H4 D = some (.lst acc) ∧ acc.length < sizeLine ∧
        (Same H0 (upd H4 D (.lst (acc ++ [y]))) ∧ i + 1 ≤ k ∧ ∃ ys, (upd H4 D (.lst (acc ++ [y]))) D = some (.lst ys) ∧ ys.length = i + 1) else (Same H0 H3 ∧ i + 1 ≤ k ∧ ∃ ys, H3 D = some (.lst ys) ∧ ys.length = i + 1) := by
    rintro D hD i x H hx ⟨e, ik, ys, hy, hl2⟩
    have hi : i < xs.length := (List.getElem?_eq_some_iff.mp hx).1
    rcases Nat.lt_or_ge i k with lt | ge
    · refine hs D i x H (fun H3 => Same H0 H3 ∧ i + 1 ≤ k ∧ ∃ ys, H3 D = some (.lst ys) ∧ ys.length = i + 1) lt hx e ⟨ys, hy⟩ fun y H4 e4 => ?_
      have h4 := e4 D _ hy
      exact ⟨ys, h4, Nat.lt_of_le_of_lt (by omega : ys.length ≤ 16000000) (by decide), same_mut (e.trans e4) hD, lt, ys ++ [y], upd_same, by rw [List.length_append, hl2] <;> rfl⟩
    · obtain rfl : i = k := by omega
      exact hb D x H (fun H3 => Same H0 H3 ∧ i + 1 ≤ i ∧ ∃ ys, H3 D = some (.lst ys) ∧ ys.length = i + 1) hx e
  refine ⟨a, rfl, ?_⟩
  rcases hq with hq | hq
  · exact .inl ⟨⟨xs, hq⟩, fun D hD => lc_list (xs := xs) (fun i H => Same H0 H ∧ i ≤ k ∧ ∃ ys, H D = some (.lst ys) ∧ ys.length = i) ⟨same_new hD, Nat.zero_le _, [], upd_same, rfl⟩ (fun i H _ h => same_l h.1 hq) (step D hD)
      fun H ⟨e, ik, _⟩ => absurd ik (by omega)⟩
  · exact .inr ⟨⟨xs, hq⟩, fun D hD => lc_tup (xs := xs) (fun i H => Same H0 H ∧ i ≤ k ∧ ∃ ys, H D = some (.lst ys) ∧ ys.length = i) ⟨same_new hD, Nat.zero_le _, [], upd_same, rfl⟩ (fun i H _ h => same_t h.1 hq) (step D hD)
      fun H ⟨e, ik, _⟩ => absurd ik (by omega)⟩
theorem w_lcX {wi : TI} {g : TG} {tt : TT} {te : WX → TE} {vs : List Nat} {W : WX} {σ : L2.St} {H : Hp} {Q : VK} (q : tLc wi g tt (te fun c d _ H2 => W c d σ H2) vs σ H Q) : tLcX wi g tt te vs W σ H Q := q
/-- right rows of a block, so deep -/
structure GoodR (K : PySem.W.Frag) (H : Hp) (xs : List V) (d : Nat) (b : List Rw) : Prop where
  at_ : BkAt K (SE K) H xs b
  rt : rts b
  nest : d + nests b ≤ 9
  size : szs b ≤ 100000
theorem GoodR.monoI {K : PySem.W.Frag} {H H' : Hp} (e : SameI H H') {xs : List V} {d : Nat} {b : List Rw} (h : GoodR K H xs d b) : GoodR K H' xs d b := ⟨h.at_.go (S' := SE K) e.T fun _ _ => se_sameI e, h.rt, h.nest, h.size⟩
theorem GoodR.mono {K : PySem.W.Frag} {H H' : Hp} (e : Same H H') {xs : List V} {d : Nat} {b : List Rw} (h : GoodR K H xs d b) : GoodR K H' xs d b := h.monoI (.of e)
/-- a row in which something is wrong, at a depth: the class it is refused with -/
inductive BadRow (K : PySem.W.Frag) (H : Hp) : V → Nat → Str → Prop where
  | form {v : V} {d : Nat} (h : NoForm K H v) : BadRow K H v d "NoRow"
  | deep {v : V} {d : Nat} {o : Option V} {ps : List (Addr × List V)} (h : RowF K H v o ps) (n : 8 < d) : BadRow K H v d "TooDeep"
  | fml {v u : V} {d : Nat} {ps : List (Addr × List V)} {x : Str} (h : RowF K H v (some u) ps) (n : d ≤ 8) (f : BadF K H u 12 x) : BadRow K H v d x
  | blk {v u w : V} {d : Nat} {f : Fm} {pre post : List (Addr × List V)} {a : Addr} {rp rq : List V} {b : List Rw} {x : Str} (h : RowF K H v (some u) (pre ++ (a, rp ++ w :: rq) :: post)) (n : d ≤ 8) (hf : FmAt K H u f) (rt : f.rt12)
      (good : ∀ p ∈ pre, ∃ c, GoodR K H p.2 (d + 1) c) (g : GoodR K H rp (d + 1) b) (l : (rp ++ w :: rq).length ≤ 100000) (bad : BadRow K H w (d + 1) x) : BadRow K H v d x
theorem NoForm.monoI {K : PySem.W.Frag} {H H' : Hp} (e : SameI H H') {v : V} (h : NoForm K H v) : NoForm K H' v := by
  cases h with
  | odd t n => exact .odd (t.monoI e) n
  | emp h => exact .emp (same_tI e h)
  | hd h t n => exact .hd (same_tI e h) (t.monoI e) n
  | len h n => exact .len (same_tI e h) n
  | nam h t l n => exact .nam (same_tI e h) (t.monoI e) l n
  | whl h t n => exact .whl (same_tI e h) (t.monoI e) n
  | ite h t t' n => exact .ite (same_tI e h) (t.monoI e) (t'.monoI e) n
theorem NoForm.mono {K : PySem.W.Frag} {H H' : Hp} (e : Same H H') {v : V} (h : NoForm K H v) : NoForm K H' v := h.monoI (.of e)
theorem BadRow.monoI {K : PySem.W.Frag} {H H' : Hp} (e : SameI H H') {v : V} {d : Nat} {x : Str} (h : BadRow K H v d x) : BadRow K H' v d x := by
  induction h with
  | form h => exact .form (h.monoI e)
  | deep h n => exact .deep (h.monoI e) n
  | fml h n f => exact .fml (h.monoI e) n (f.monoI e)
  | blk h n hf rt good g l _ ih => exact .blk (h.monoI e) n (hf.monoT e.T) rt (fun p hp => let ⟨c, q⟩ := good p hp; ⟨c, q.monoI e⟩) (g.monoI e) l ih
theorem BadRow.mono {K : PySem.W.Frag} {H H' : Hp} (e : Same H H') {v : V} {d : Nat} {x : Str} (h : BadRow K H v d x) : BadRow K H' v d x := h.monoI (.of e)
theorem RwAt.rowF {K : PySem.W.Frag} {H : Hp} {v : V} {r : Rw} (h : RwAt K (SE K) H v r) (rt : r.rt) : ∃ o ps, RowF K H v o ps ∧ (∀ u, o = some u → ∃ f, FmAt K H u f ∧ f.rt12) ∧ All2 (fun (y : V) (b : List Rw) => ∃ a xs, y = .ref a ∧ SE K H a xs ∧ BkAt K (SE K) H xs b ∧ rts b) (ps.map fun p => V.ref p.1) r.parts := by
  cases h with
  | @set a x u f h hf => exact ⟨_, _, .set h rt.1, fun u' e => by cases e; exact ⟨f, hf, rt.2⟩, .nil⟩
  | @tell a u f h hf => exact ⟨_, _, .tell h, fun u' e => by cases e; exact ⟨f, hf, rt⟩, .nil⟩
  | skip h => exact ⟨_, _, .skip h, (fun u' e => nomatch e), .nil⟩
  | @ite a p q u f xs ys b c h hf hp hb hq hc => exact ⟨_, _, .ite h hp hq, fun u' e => by cases e; exact ⟨f, hf, rt.1⟩, .cons ⟨p, xs, rfl, hp, hb, rt.2.1⟩ (.cons ⟨q, ys, rfl, hq, hc, rt.2.2⟩ .nil)⟩
  | @whl a p u f xs b h hf hp hb => exact ⟨_, _, .whl h hp, fun u' e => by cases e; exact ⟨f, hf, rt.1⟩, .cons ⟨p, xs, rfl, hp, hb, rt.2⟩ .nil⟩
theorem RowF.two {K : PySem.W.Frag} {H : Hp} {v : V} {o : Option V} {ps : List (Addr × List V)} (h : RowF K H v o ps) : ps.length ≤ 2 := by
  cases h <;> simp
def sp_need_rowT (K : PySem.W.Frag) (n : Nat) : Sp := fun vs H Q E => ∃ (v : V) (d : Nat), vs = [v, .int (d : Nat)] ∧ 1 ≤ d ∧ d ≤ 9 ∧ 10 ≤ n + d ∧
  ((∃ r, RwAt K (SE K) H v r ∧ r.rt ∧ d + r.nest ≤ 9 ∧ r.size ≤ 100000 ∧ ∀ u H', Same H H' → RwAt K (SqT K) H' u r → Q u H') ∨ (∃ x, BadRow K H v d x ∧ ∀ C H', IsX K x C → Same H H' → E (.ref C) none H'))
/-- a block that is refused -/
def BadBlk (K : PySem.W.Frag) (H : Hp) (v : V) (d : Nat) (x : Str) : Prop := (∃ a rp w rq b, v = .ref a ∧ SE K H a (rp ++ w :: rq) ∧ GoodR K H rp d b ∧ (rp ++ w :: rq).length ≤ 100000 ∧ BadRow K H w d x) ∨ (x = "NoRow" ∧ ∃ T, Thg K H v T ∧ isL T = false)
theorem BadBlk.monoI {K : PySem.W.Frag} {H H' : Hp} (e : SameI H H') {v : V} {d : Nat} {x : Str} (h : BadBlk K H v d x) : BadBlk K H' v d x := by
  rcases h with ⟨a, rp, w, rq, b, h1, h2, h3, h4, h5⟩ | ⟨h1, T, h2, h3⟩
  · exact .inl ⟨a, rp, w, rq, b, h1, se_sameI e h2, h3.monoI e, h4, h5.monoI e⟩
  · exact .inr ⟨h1, T, h2.monoI e, h3⟩
def sp_need_blockT (K : PySem.W.Frag) (n : Nat) : Sp := fun vs H Q E => ∃ (v : V) (d : Nat), vs = [v, .int (d : Nat)] ∧ 1 ≤ d ∧ d ≤ 9 ∧ 10 ≤ n + d ∧
  ((∃ a xs b, v = .ref a ∧ SE K H a xs ∧ GoodR K H xs d b ∧ ∀ p ys H', Same H H' → SqT K H' p ys → BkAt K (SqT K) H' ys b → Q (.ref p) H') ∨
   (∃ a rp w rq b x, v = .ref a ∧ SE K H a (rp ++ w :: rq) ∧ GoodR K H rp d b ∧ (rp ++ w :: rq).length ≤ 100000 ∧ BadRow K H w d x ∧ ∀ C H', IsX K x C → Same H H' → E (.ref C) none H') ∨
   (∃ T, Thg K H v T ∧ isL T = false ∧ ∀ C H', IsX K "NoRow" C → Same H H' → E (.ref C) none H'))
theorem rts_mem : ∀ {l : List Rw}, rts l → ∀ r ∈ l, r.rt
  | _ :: _, h, r, hr => (List.mem_cons.mp hr).elim (fun e => e ▸ h.1) (rts_mem h.2 r)
theorem no_need_rowT {K : PySem.W.Frag} : ∀ vs H Q E, ¬ sp_need_rowT K 0 vs H Q E := by
  rintro vs H Q E ⟨_, d, _, _, h, h2, _⟩
  omega
abbrev N_need_rowT : List Str := ["row", "deep", "blocks", "block"]
noncomputable def t_need_rowT_j1 (K : PySem.W.Frag) (n : Nat) (W : WX) : TS :=
  (tRet (tVar 0))
noncomputable def t_need_rowT_j2 (K : PySem.W.Frag) (n : Nat) (W : WX) : TS :=
  (tSeq (tAsg (tLcX (iSeq K (tF (sp_blocks_ofT K) (tCons (tVar 0) tNil))) (gName 3) tYes (fun W => (tFX (sp_need_blockT K n) W (tCons (tVar 3) (tCons (tOp (rAdd K) (tVar 1) (tC (.int 1))) tNil)))) [3] W) (gName 2)) (tSeq (tIfS (tOr (tTest (tOp (rEq2 K) (tOp (rIx K) (tVar 0) (tC (.int 0))) (tC (.str "if")))) (tTest (tOp (rEq2 K) (tOp (rIx K) (tVar 0) (tC (.int 0))) (tC (.str "while"))))) (tRet (tOp (rAdd K) (tTup (tCons (tOp (rIx K) (tVar 0) (tC (.int 0))) (tCons (tOp (rIx K) (tVar 0) (tC (.int 1))) tNil))) (tCB (rTupO K) (tCons (tVar 2) tNil)))) tNext) (t_need_rowT_j1 K n W)))
noncomputable def t_need_rowT (K : PySem.W.Frag) (n : Nat) (W : WX) : TS :=
  (tSeq (tDrop (tFX (sp_need_formT K) W (tCons (tVar 0) tNil))) (tSeq (tIfS (tTest (tOp rGt (tVar 1) (tC (.int 8)))) (tRaise K "TooDeep" W) tNext) (tSeq (tIfS (tTest (tOp (rNe2 K) (tOp (rIx K) (tVar 0) (tC (.int 0))) (tC (.str "skip")))) (tDrop (tFX (sp_need_formulaT K 14) W (tCons (tF (sp_formula_ofT K) (tCons (tVar 0) tNil)) (tCons (tC (.int 12)) tNil)))) tNext) (t_need_rowT_j2 K n W))))
abbrev N_need_blockT : List Str := ["block", "deep", "row"]
noncomputable def t_need_blockT (K : PySem.W.Frag) (n : Nat) (W : WX) : TS :=
  (tSeq (tIfS (tNot (tB (tF (sp_is_listT K) (tCons (tVar 0) tNil)))) (tRaise K "NoRow" W) tNext) (tRet (tCB (rTupO K) (tCons (tLcX (iSeq K (tVar 0)) (gName 2) tYes (fun W => (tFX (sp_need_rowT K n) W (tCons (tVar 2) (tCons (tVar 1) tNil)))) [2] W) tNil))))
theorem row_pre (K : PySem.W.Frag) (n : Nat) (Q : VK) (E : XK) {v : V} {d : Nat} {o : Option V} {ps : List (Addr × List V)} {H : Hp} (rf : RowF K H v o ps) (d8 : d ≤ 8)
    (k0 : o = none → ∀ H1, Same H H1 → t_need_rowT_j2 K n (WD E) { nx := fun _ H' => Q .non H', rt := Q } [some v, some (.int (d : Nat)), none, none] H1)
    (k1 : ∀ u, o = some u → ∀ H1, Same H H1 → sp_need_formulaT K 14 [u, .int ((12 : Nat) : Nat)] H1 (fun _ H2 => t_need_rowT_j2 K n (WD E) { nx := fun _ H' => Q .non H', rt := Q } [some v, some (.int (d : Nat)), none, none] H2) E) :
    t_need_rowT K n (WD E) { nx := fun _ H' => Q .non H', rt := Q } (start N_need_rowT [v, .int (d : Nat)]) H := by
  have dd : decide ((8 : Int) < ((d : Nat) : Int)) = false := decide_eq_false (by omega)
  unfold t_need_rowT
  walk_at "gx"
  refine ⟨v, rfl, .inl ⟨o, ps, rf, fun H1 e1 => ?_⟩⟩
  have rf1 := rf.mono e1
  have fm : ∀ u, o = some u → sp_formula_ofT K [v] H1 (fun x H2 => sp_need_formulaT K 14 [x, .int 12] H2 (fun _ H3 => t_need_rowT_j2 K n (WD E) { nx := fun _ H' => Q .non H', rt := Q } [some v, some (.int (d : Nat)), none, none] H3) E) E0 := fun u e => by
    refine ⟨v, o, _, rfl, rf1.form, ?_⟩
    rw [e]
    exact k1 u e H1 e1
  cases rf1 with
  | skip h =>
    walk_at "gx"
    exact k0 rfl H1 e1
  | tell h =>
    walk_at "gx"
    exact fm _ rfl
  | set h m =>
    walk_at "gx"
    exact fm _ rfl
  | whl h s =>
    walk_at "gx"
    exact fm _ rfl
  | ite h s t =>
    walk_at "gx"
    exact fm _ rfl
theorem pure_need_rowT (K : PySem.W.Frag) (n : Nat) (vs : List V) (H : Hp) (Q : VK) (E : XK) (h : sp_need_rowT K (n + 1) vs H Q E) :
    t_need_rowT K n (WD E) { nx := fun _ H' => Q .non H', rt := Q } (start N_need_rowT vs) H := by
  obtain ⟨v, d, rfl, d1, d9, hn, h⟩ := h
  have i1 : ((d : Nat) : Int) + 1 = ((d + 1 : Nat) : Int) := by omega
  rcases h with ⟨r, hr, rt, hd, hz, q⟩ | ⟨x, bad, q⟩
  · have rp := nest_pos r
    obtain ⟨o, ps, rf, hfm, hps⟩ := hr.rowF rt
    have j2 : ∀ H1, Same H H1 → t_need_rowT_j2 K n (WD E) { nx := fun _ H' => Q .non H', rt := Q } [some v, some (.int (d : Nat)), none, none] H1 := by
      intro H1 e1
      unfold t_need_rowT_j2
      walk_at "gx"
      refine w_lcX ?_
      refine w_lc ?_
      walk_at "gx"
      refine ⟨v, o, _, rfl, (rf.mono e1).form, fun p H2 e2 np hp => ?_⟩
      have wl : (ps.map fun p => V.ref p.1).length ≤ 2 := by rw [hps.len]; exact parts_len
      refine lc_se (xs := ps.map fun p => V.ref p.1) (fun i y H' => ∃ b t ys, r.parts[i]? = some b ∧ y = .ref t ∧ SqT K H' t ys ∧ BkAt K (SqT K) H' ys b) (.inl (SqL.of hp)) (by omega) (fun i y H1 H2 ⟨b, t, ys, h1, h2, h3, h4⟩ s => ⟨b, t, ys, h1, h2, sameT_t s h3, h4.monoT s⟩) ?_ ?_
      · rintro D i y H3 Nx hy e3 ⟨zs, hzs⟩ k
        obtain ⟨b, hb1, a, xs, rfl, hs1, hk1, rb⟩ := hps.get hy
        have bm : b ∈ r.parts := List.mem_of_getElem? hb1
        have pn := parts_nest b bm
        have pz := part_size bm
        have e03 := e1.trans (e2.trans e3)
        refine ⟨rfl, ?_⟩
        walk_at "gx"
        rw [i1]
        refine ⟨_, d + 1, rfl, by omega, by omega, by omega, .inl ⟨a, xs, b, rfl, se_same e03 hs1, ⟨hk1.monoE e03, rb, by omega, by omega⟩, fun u ys H4 e4 hu hbu => ?_⟩⟩
        exact k _ H4 e4 ⟨b, u, ys, hb1, rfl, hu, hbu⟩
      · intro D H3 ys e3 hD hD3 hyl hR
        have e13 := e1.trans (e2.trans e3)
        have hr3 := hr.monoE e13
        rw [hps.len] at hyl
        cases r with
        | set x f =>
          cases hr3 with
          | set h1 hf =>
            walk_at "gx"
            unfold t_need_rowT_j1
            walk_at "gx"
            exact q _ _ e13 (.set h1 hf)
        | tell f =>
          cases hr3 with
          | tell h1 hf =>
            walk_at "gx"
            unfold t_need_rowT_j1
            walk_at "gx"
            exact q _ _ e13 (.tell h1 hf)
        | skip =>
          cases hr3 with
          | skip h1 =>
            walk_at "gx"
            unfold t_need_rowT_j1
            walk_at "gx"
            exact q _ _ e13 (.skip h1)
        | ite f b1 b2 =>
          cases hr3 with
          | @ite _ _ _ u _ _ _ _ _ h1 hf hp1 hb1 hp2' hb2 =>
            obtain ⟨y1, y2, rfl⟩ := list_two hyl
            obtain ⟨c1, t1, z1, g1, rfl, s1, k1⟩ := hR 0 _ rfl
            obtain ⟨c2, t2, z2, g2, rfl, s2, k2⟩ := hR 1 _ rfl
            obtain rfl : b1 = c1 := Option.some.inj g1
            obtain rfl : b2 = c2 := Option.some.inj g2
            walk_at "gx"
            rename_i p4 H4 n4 e4 hp4
            refine w_tupL' (SqL.of (e4 _ _ hD3)) (fun p5 H5 n5 e5 hp5 => ?_)
            refine w_addTup' (SqT.of (e5 _ _ hp4)) (SqT.of hp5) (by simp) (sz (by simp)) (fun p6 H6 e6 hp6 => ?_)
            have s7 := e4.trans (e5.trans e6)
            exact q _ _ (e13.trans s7) (.ite hp6 (hf.mono s7) (same_t s7 s1) (k1.monoT (SameT.of s7)) (same_t s7 s2) (k2.monoT (SameT.of s7)))
        | whl f b1 =>
          cases hr3 with
          | @whl _ _ u _ _ _ h1 hf hp1 hb1 =>
            obtain ⟨y1, rfl⟩ := list_one hyl
            obtain ⟨c1, t1, z1, g1, rfl, s1, k1⟩ := hR 0 _ rfl
            obtain rfl : b1 = c1 := Option.some.inj g1
            walk_at "gx"
            rename_i p4 H4 n4 e4 hp4
            refine w_tupL' (SqL.of (e4 _ _ hD3)) (fun p5 H5 n5 e5 hp5 => ?_)
            refine w_addTup' (SqT.of (e5 _ _ hp4)) (SqT.of hp5) (by simp) (sz (by simp)) (fun p6 H6 e6 hp6 => ?_)
            have s7 := e4.trans (e5.trans e6)
            exact q _ _ (e13.trans s7) (.whl hp6 (hf.mono s7) (same_t s7 s1) (k1.monoT (SameT.of s7)))
    refine row_pre K n Q E rf (by omega) (fun _ H1 e1 => j2 H1 e1) fun u e H1 e1 => ?_
    obtain ⟨f, hf, rt⟩ := hfm u e
    exact ⟨u, 12, rfl, by decide, .inl ⟨f, hf.mono e1, rt.1, rt.2, fun H2 e2 => j2 H2 (e1.trans e2)⟩⟩
  · cases bad with
    | form h =>
      unfold t_need_rowT
      walk_at "gx"
      exact ⟨v, rfl, .inr ⟨h, fun C H1 hC e1 => q C _ hC e1⟩⟩
    | deep h m =>
      have dd : decide ((8 : Int) < ((d : Nat) : Int)) = true := decide_eq_true (by omega)
      unfold t_need_rowT
      walk_at "gx"
      refine ⟨v, rfl, .inl ⟨_, _, h, fun H1 e1 => ?_⟩⟩
      walk_at "gx"
      exact fun C hC => q C _ hC e1
    | @fml _ u _ ps _ h m f =>
      refine row_pre K n Q E h m (fun e => nomatch e) fun u' e H1 e1 => ?_
      cases e
      exact ⟨u, 12, rfl, by decide, .inr ⟨x, f.mono e1, fun C H2 hC e2 => q C _ hC (e1.trans e2)⟩⟩
    | @blk _ u w _ f pre post a rp rq b _ h m hf rt good g l bad =>
      refine row_pre K n Q E h m (fun e => nomatch e) fun u' e H1 e1 => ?_
      cases e
      refine ⟨u, 12, rfl, by decide, .inl ⟨f, hf.mono e1, rt.1, rt.2, fun H2 e2 => ?_⟩⟩
      have e02 := e1.trans e2
      have ses := (h.mono e02).ses
      have pl := h.two
      unfold t_need_rowT_j2
      walk_at "gx"
      refine w_lcX ?_
      refine w_lc ?_
      walk_at "gx"
      refine ⟨v, _, _, rfl, (h.mono e02).form, fun p H3 e3 np hp => ?_⟩
      refine lc_bad (xs := (pre ++ (a, rp ++ w :: rq) :: post).map fun p => V.ref p.1) pre.length (by rw [List.length_map, List.length_append, List.length_cons]; omega) (.inl (SqL.of hp)) (by rw [List.length_map]; omega) ?_ ?_
      · rintro D i y H4 Nx ik hy e4 ⟨zs, hzs⟩ k
        rw [List.getElem?_map, List.getElem?_append_left ik] at hy
        obtain ⟨p1, hp1, rfl⟩ := Option.map_eq_some_iff.mp hy
        have pm := List.mem_of_getElem? hp1
        obtain ⟨c, gc⟩ := good p1 pm
        have e34 := e3.trans e4
        refine ⟨rfl, ?_⟩
        walk_at "gx"
        rw [i1]
        refine ⟨_, d + 1, rfl, by omega, by omega, by omega, .inl ⟨p1.1, p1.2, c, rfl, se_same e34 (ses p1 (List.mem_append_left _ pm)), gc.mono (e02.trans e34), fun u ys H5 e5 hu hbu => ?_⟩⟩
        exact k _ H5 e5
      · rintro D y H4 Nx hy e4
        rw [List.getElem?_map, List.getElem?_append_right (Nat.le_refl _), Nat.sub_self] at hy
        obtain rfl : V.ref a = y := Option.some.inj hy
        have e34 := e3.trans e4
        refine ⟨rfl, ?_⟩
        walk_at "gx"
        rw [i1]
        exact ⟨_, d + 1, rfl, by omega, by omega, by omega, .inr (.inl ⟨a, rp, w, rq, b, x, rfl, se_same e34 (ses (a, rp ++ w :: rq) (List.mem_append_right _ List.mem_cons_self)), g.mono (e02.trans e34), l, bad.mono (e02.trans e34), fun C H5 hC e5 => q C _ hC (e02.trans (e34.trans e5))⟩)⟩
theorem pure_need_blockT (K : PySem.W.Frag) (n : Nat) (vs : List V) (H : Hp) (Q : VK) (E : XK) (h : sp_need_blockT K n vs H Q E) :
    t_need_blockT K n (WD E) { nx := fun _ H' => Q .non H', rt := Q } (start N_need_blockT vs) H := by
  obtain ⟨v, d, rfl, d1, d9, hn, h⟩ := h
  unfold t_need_blockT
  walk_at "gx"
  rcases h with ⟨a, xs, b, rfl, hs, g, q⟩ | ⟨a, rp, w, rq, b, x, rfl, hs, g, l, bad, q⟩ | ⟨T, t, nl, q⟩
  · obtain ⟨T, t, tl⟩ := se_thg hs
    refine ⟨_, T, rfl, t, fun H1 e1 => ?_⟩
    rw [show (decide (T = "list") || decide (T = "tuple")) = true from tl]
    walk_at "gx"
    refine w_lcX ?_
    refine w_lc ?_
    walk_at "gx"
    have hb := g.at_
    have bl := szs_len b
    have xl := hb.len
    have gz := g.size
    have gn := g.nest
    refine lc_se (xs := xs) (fun i y H' => ∃ r, b[i]? = some r ∧ RwAt K (SqT K) H' y r) (se_same e1 hs) (by omega) (fun i y H1 H2 ⟨r, h1, h2⟩ s => ⟨r, h1, h2.monoT s⟩) ?_ ?_
    · rintro D i x H3 Nx hx e3 ⟨zs, hzs⟩ k
      obtain ⟨r, hr1, hr2⟩ := hb.get hx
      have rm : r ∈ b := List.mem_of_getElem? hr1
      have rn := nest_mem rm
      have rz := sz_mem rm
      refine ⟨rfl, ?_⟩
      walk_at "gx"
      refine ⟨x, d, rfl, d1, d9, hn, .inl ⟨r, hr2.monoE (e1.trans e3), rts_mem g.rt r rm, by omega, by omega, fun u H4 e4 hu => ?_⟩⟩
      exact k _ H4 e4 ⟨r, hr1, hu⟩
    · intro D H3 ys e3 hD hD3 hyl hR
      have all : ∀ {ys : List V} {b : List Rw}, ys.length = b.length → (∀ (i : Nat) y, ys[i]? = some y → ∃ r, b[i]? = some r ∧ RwAt K (SqT K) H3 y r) → BkAt K (SqT K) H3 ys b := by
        intro ys
        induction ys with
        | nil =>
          intro b hl _
          cases b with
          | nil => exact .nil
          | cons _ _ => exact nomatch hl
        | cons y ys ih =>
          intro b hl hR
          cases b with
          | nil => exact nomatch hl
          | cons r b =>
            obtain ⟨r', h1, h2⟩ := hR 0 y rfl
            obtain rfl : r = r' := Option.some.inj h1
            exact .cons h2 (ih (Nat.succ.inj hl) fun i y hy => hR (i + 1) y hy)
      have hball := all (by rw [hyl, xl]) hR
      walk_at "gx"
      refine w_tupL' (SqL.of hD3) (fun p5 H5 n5 e5 hp5 => ?_)
      exact q p5 ys H5 (e1.trans (e3.trans e5)) (SqT.of hp5) (hball.monoS e5)
  · obtain ⟨T, t, tl⟩ := se_thg hs
    refine ⟨_, T, rfl, t, fun H1 e1 => ?_⟩
    rw [show (decide (T = "list") || decide (T = "tuple")) = true from tl]
    walk_at "gx"
    refine w_lcX ?_
    refine w_lc ?_
    walk_at "gx"
    have hb := g.at_
    have gz := g.size
    have gn := g.nest
    refine lc_bad (xs := rp ++ w :: rq) rp.length (by rw [List.length_append, List.length_cons]; omega) (se_same e1 hs) (by omega) ?_ ?_
    · rintro D i y H3 Nx ik hy e3 ⟨zs, hzs⟩ k
      rw [List.getElem?_append_left ik] at hy
      obtain ⟨r, hr1, hr2⟩ := hb.get hy
      have rm : r ∈ b := List.mem_of_getElem? hr1
      have rn := nest_mem rm
      have rz := sz_mem rm
      refine ⟨rfl, ?_⟩
      walk_at "gx"
      refine ⟨y, d, rfl, d1, d9, hn, .inl ⟨r, hr2.monoE (e1.trans e3), rts_mem g.rt r rm, by omega, by omega, fun u H4 e4 hu => ?_⟩⟩
      exact k _ H4 e4
    · rintro D y H3 Nx hy e3
      rw [List.getElem?_append_right (Nat.le_refl _), Nat.sub_self] at hy
      obtain rfl : w = y := Option.some.inj hy
      refine ⟨rfl, ?_⟩
      walk_at "gx"
      exact ⟨w, d, rfl, d1, d9, hn, .inr ⟨x, bad.mono (e1.trans e3), fun C H4 hC e4 => q C _ hC (e1.trans (e3.trans e4))⟩⟩
  · refine ⟨_, T, rfl, t, fun H1 e1 => ?_⟩
    rw [show (decide (T = "list") || decide (T = "tuple")) = false from nl]
    walk_at "gx"
    exact fun C hC => q C _ hC e1
/-- right names ahead: told once, not among ts -/
structure GoodN (ns ts : List Str) : Prop where
  nm : ∀ x ∈ ns, Nm x
  nd : ns.Nodup
  no : ∀ x ∈ ns, x ∉ ts
  len : ns.length ≤ 1000
/-- what is no row of names, behind the names ts -/
inductive BadN (K : PySem.W.Frag) (H : Hp) (ts : List Str) : V → Str → Prop where
  | odd {v : V} {T : String} (t : Thg K H v T) (n : isL T = false) : BadN K H ts v "NoName"
  | name {a : Addr} {ns : List Str} {u : V} {us : List V} {T : String} (h : SE K H a (ns.map V.str ++ u :: us)) (g : GoodN ns ts) (t : Thg K H u T) (l : ShortV u) (n : nameV u = false) : BadN K H ts (.ref a) "NoName"
  | twice {a : Addr} {ns : List Str} {x : Str} {us : List V} (h : SE K H a (ns.map V.str ++ .str x :: us)) (g : GoodN ns ts) (n : Nm x) (m : x ∈ ts ∨ x ∈ ns) : BadN K H ts (.ref a) "Twice"
theorem BadN.monoI {K : PySem.W.Frag} {H H' : Hp} {ts : List Str} {v : V} {x : Str} (e : SameI H H') (h : BadN K H ts v x) : BadN K H' ts v x := by
  cases h with
  | odd t n => exact .odd (t.monoI e) n
  | name h g t l n => exact .name (se_sameI e h) g (t.monoI e) l n
  | twice h g n m => exact .twice (se_sameI e h) g n m
theorem BadN.mono {K : PySem.W.Frag} {H H' : Hp} {ts : List Str} {v : V} {x : Str} (e : Same H H') (h : BadN K H ts v x) : BadN K H' ts v x := h.monoI (.of e)
def sp_need_namesT (K : PySem.W.Frag) : Sp := fun vs H Q E => ∃ (v : V) (t : Addr) (ts : List Str), vs = [v, .ref t] ∧ SqL K H t (ts.map V.str) ∧
  ((∃ a ns, v = .ref a ∧ SE K H a (ns.map V.str) ∧ GoodN ns ts ∧ ∀ (p : Addr) (H' : Hp), Same H H' → H p = none → H' p = some (.lst (ns.map V.str)) → Q (.ref p) H') ∨
   (∃ x, BadN K H ts v x ∧ ∀ C H', IsX K x C → Same H H' → E (.ref C) none H'))
abbrev N_need_namesT : List Str := ["names", "told", "found", "name"]
noncomputable def t_need_namesT_j1 (K : PySem.W.Frag) (W : WX) : TS :=
  (tDrop (tBM K "list" rAppend (tVar 2) (tCons (tVar 3) tNil)))
noncomputable def t_need_namesT (K : PySem.W.Frag) (W : WX) : TS :=
  (tSeq (tIfS (tNot (tB (tF (sp_is_listT K) (tCons (tVar 0) tNil)))) (tRaise K "NoName" W) tNext) (tSeq (tAsg (tLst tNil) (gName 2)) (tSeq (tFor (iSeq K (tVar 0)) (gName 3) (tSeq (tIfS (tNot (tB (tF (sp_is_nameT K) (tCons (tVar 3) tNil)))) (tRaise K "NoName" W) tNext) (tSeq (tIfS (tOr (tTest (tOp (rIn2 K false) (tVar 3) (tVar 1))) (tTest (tOp (rIn2 K false) (tVar 3) (tVar 2)))) (tRaise K "Twice" W) tNext) (t_need_namesT_j1 K W)))) (tRet (tVar 2)))))
/-- the loop over names that are right, up to what comes then -/
theorem names_loop (K : PySem.W.Frag) (Q : VK) (E : XK) {a t : Addr} {v : V} {ns ts : List Str} {us : List V} {H : Hp} (hv : v = .ref a) (hs : SE K H a (ns.map V.str ++ us)) (ht : SqL K H t (ts.map V.str)) (g : GoodN ns ts)
    (done : us = [] → ∀ (p : Addr) (H' : Hp), Same H H' → H p = none → H' p = some (.lst (ns.map V.str)) → Q (.ref p) H')
    (more : ∀ u rest, us = u :: rest → ∃ T, Thg K H u T ∧ ShortV u ∧ ((nameV u = false ∧ ∀ C H', IsX K "NoName" C → Same H H' → E (.ref C) none H') ∨ (∃ x, u = .str x ∧ Nm x ∧ (x ∈ ts ∨ x ∈ ns) ∧ ∀ C H', IsX K "Twice" C → Same H H' → E (.ref C) none H'))) :
    t_need_namesT K (WD E) { nx := fun _ H' => Q .non H', rt := Q } (start N_need_namesT [v, .ref t]) H := by
  subst hv
  obtain ⟨T, tt, tl⟩ := se_thg hs
  have hl := g.len
  unfold t_need_namesT
  walk_at "gx"
  refine ⟨_, T, rfl, tt, fun H1 e1 => ?_⟩
  rw [show (decide (T = "list") || decide (T = "tuple")) = true from tl]
  walk_at "gx"
  rename_i p H2 np e2 hp2
  have hpH : H p = none := none_of e1 np
  refine for_se (Hb := H1) (xs := ns.map V.str ++ us) (fun i σ H' => Same H1 H' ∧ i ≤ ns.length ∧ H' p = some (.lst ((ns.take i).map V.str)) ∧ ∃ w, σ = [some (.ref a), some (.ref t), some (.ref p), w]) (se_same e1 hs) ⟨e2, Nat.zero_le _, hp2, _, rfl⟩ (fun i σ H' h => h.1) ?_ ?_
  · rintro i u σ H' hu ⟨e3, il, hp3, w, rfl⟩
    have e13 := e1.trans e3
    rcases Nat.lt_or_ge i ns.length with lt | ge
    · rw [List.getElem?_append_left (by rw [List.length_map]; exact lt), List.getElem?_map] at hu
      obtain ⟨y, hy, rfl⟩ := Option.map_eq_some_iff.mp hu
      have ym : y ∈ ns := List.mem_of_getElem? hy
      have nm := g.nm y ym
      have tk : ns.take (i + 1) = ns.take i ++ [y] := by rw [List.take_succ, hy] <;> rfl
      have ny : y ∉ ns.take i := by
        intro c
        have nd2 : (ns.take (i + 1)).Nodup := List.Sublist.nodup (List.take_sublist _ _) g.nd
        rw [tk, List.nodup_append] at nd2
        exact nd2.2.2 y c y (List.mem_singleton.mpr rfl) rfl
      walk_at "gx"
      refine ⟨_, "str", rfl, .str y, (fun z e => by cases e; rw [cs_len]; have := nm.most; omega), ?_⟩
      rw [show nameV (.str y) = true from nm_iff.mpr nm]
      walk_at "gx"
      refine w_inTxt (xs := ts) (same_l e13 ht) ?_
      rw [decide_eq_false (g.no y ym)]
      walk_at "gx"
      refine w_inTxt (xs := ns.take i) (SqL.of hp3) ?_
      rw [decide_eq_false ny]
      walk_at "gx"
      unfold t_need_namesT_j1
      walk_at "gx"
      refine w_app' hp3 (lt_line (by rw [List.length_map, List.length_take]; omega)) (fun H4 x4 t4 h4 => ?_)
      walk_at "gx"
      exact ⟨SameX.same e3 np x4, lt, by rw [h4, tk, List.map_append] <;> rfl, _, rfl⟩
    · obtain rfl : i = ns.length := by omega
      rw [List.getElem?_append_right (by rw [List.length_map]; exact Nat.le_refl _), List.length_map, Nat.sub_self] at hu
      obtain ⟨rest, hr⟩ : ∃ rest, us = u :: rest := by
        cases us with
        | nil => exact nomatch hu
        | cons z rest => exact ⟨rest, by rw [Option.some.inj hu]⟩
      rw [List.take_length] at hp3
      obtain ⟨T', t', l', h⟩ := more u rest hr
      walk_at "gx"
      refine ⟨u, T', rfl, t'.mono e13, l', ?_⟩
      rcases h with ⟨n, k⟩ | ⟨x, rfl, nm, m, k⟩
      · rw [n]
        walk_at "gx"
        exact fun C hC => k C _ hC e13
      · rw [show nameV (.str x) = true from nm_iff.mpr nm]
        walk_at "gx"
        refine w_inTxt (xs := ts) (same_l e13 ht) ?_
        by_cases c : x ∈ ts
        · rw [decide_eq_true c]
          walk_at "gx"
          exact fun C hC => k C _ hC e13
        · rw [decide_eq_false c]
          walk_at "gx"
          refine w_inTxt (xs := ns) (SqL.of hp3) ?_
          rw [decide_eq_true (m.elim (fun m => absurd m c) id)]
          walk_at "gx"
          exact fun C hC => k C _ hC e13
  · rintro σ H' ⟨e3, il, hp3, w, rfl⟩
    have ul : us = [] := by
      rw [List.length_append, List.length_map] at il
      exact List.length_eq_zero_iff.mp (by omega)
    rw [ul, List.append_nil, List.length_map, List.take_length] at hp3
    walk_at "gx"
    exact done ul p H' (e1.trans e3) hpH hp3
theorem pure_need_namesT (K : PySem.W.Frag) (vs : List V) (H : Hp) (Q : VK) (E : XK) (h : sp_need_namesT K vs H Q E) :
    t_need_namesT K (WD E) { nx := fun _ H' => Q .non H', rt := Q } (start N_need_namesT vs) H := by
  obtain ⟨v, t, ts, rfl, ht, h⟩ := h
  rcases h with ⟨a, ns, rfl, hs, g, q⟩ | ⟨x, bad, q⟩
  · exact names_loop K Q E (us := []) rfl (by rw [List.append_nil]; exact hs) ht g (fun _ => q) (fun u rest e => nomatch e)
  · cases bad with
    | @odd _ T tt nl =>
      unfold t_need_namesT
      walk_at "gx"
      refine ⟨_, _, rfl, tt, fun H1 e1 => ?_⟩
      rw [show (decide (T = "list") || decide (T = "tuple")) = false from nl]
      walk_at "gx"
      exact fun C hC => q C _ hC e1
    | name h g tt l n => exact names_loop K Q E rfl h ht g (fun e => nomatch e) fun u rest e => by cases e; exact ⟨_, tt, l, .inl ⟨n, q⟩⟩
    | @twice a ns x us h g n m => exact names_loop K Q E rfl h ht g (fun e => nomatch e) fun u rest e => by cases e; exact ⟨_, .str x, (fun z e => by cases e; rw [cs_len]; have := n.most; omega), .inr ⟨x, rfl, n, m, q⟩⟩
theorem blk_spec {K : PySem.W.Frag} {n : Nat} {v : V} {d : Nat} {H : Hp} {Q : VK} {E : XK} {x : Str} (h1 : 1 ≤ d) (h9 : d ≤ 9) (hn : 10 ≤ n + d) (b : BadBlk K H v d x) (q : ∀ C H', IsX K x C → Same H H' → E (.ref C) none H') : sp_need_blockT K n [v, .int (d : Nat)] H Q E := by
  rcases b with ⟨a, rp, w, rq, b, e, h2, h3, h4, h5⟩ | ⟨rfl, T, h2, h3⟩
  · exact ⟨v, d, rfl, h1, h9, hn, .inr (.inl ⟨a, rp, w, rq, b, x, e, h2, h3, h4, h5, q⟩)⟩
  · exact ⟨v, d, rfl, h1, h9, hn, .inr (.inr ⟨T, h2, h3, q⟩)⟩
/-- what a program is made of, or what is wrong -/
inductive Bad3 (K : PySem.W.Frag) (H : Hp) (x y z : V) : Str → Prop where
  | opens {c : Str} (h : BadN K H [] x c) : Bad3 K H x y z c
  | secrets {a : Addr} {os : List Str} {c : Str} (e : x = .ref a) (s : SE K H a (os.map V.str)) (g : GoodN os []) (h : BadN K H os y c) : Bad3 K H x y z c
  | block {a b : Addr} {os ss : List Str} {c : Str} (e : x = .ref a) (s : SE K H a (os.map V.str)) (g : GoodN os []) (e2 : y = .ref b) (s2 : SE K H b (ss.map V.str)) (g2 : GoodN ss os) (h : BadBlk K H z 1 c) : Bad3 K H x y z c
/-- a program, made: its lists are its own -/
def PrN (K : PySem.W.Frag) (H H' : Hp) (a : Addr) (os ss : List Str) (b : List Rw) : Prop := ∃ C dx o h q ys, PrIn K H' a os ss b C dx o h q ys ∧ H o = none ∧ H h = none
theorem PrN.at_ {K : PySem.W.Frag} {H H' : Hp} {a : Addr} {os ss : List Str} {b : List Rw} (h : PrN K H H' a os ss b) : PrAt K H' a os ss b := by
  obtain ⟨C, dx, o, h, q, ys, i, _⟩ := h
  exact ⟨C, dx, o, h, q, ys, i⟩
def sp_Program___init__T (K : PySem.W.Frag) : Sp := fun vs H Q E => ∃ (p C dx : Addr) (x y z : V), vs = [.ref p, x, y, z] ∧ H p = some (.ins C dx []) ∧ CC K "Program" as_Program C ∧
  ((∃ ax ay az os ss xs b, x = .ref ax ∧ y = .ref ay ∧ z = .ref az ∧ SE K H ax (os.map V.str) ∧ SE K H ay (ss.map V.str) ∧ GoodN os [] ∧ GoodN ss os ∧ SE K H az xs ∧ GoodR K H xs 1 b ∧ ∀ H', SameX p H H' → PrN K H H' p os ss b → Q .non H') ∨
   (∃ c, Bad3 K H x y z c ∧ ∀ D H', IsX K c D → SameX p H H' → E (.ref D) none H'))
abbrev N_Program___init__T : List Str := ["self", "opens", "secrets", "block"]
noncomputable def t_Program___init__T (K : PySem.W.Frag) (W : WX) : TS :=
  (tSeq (sFld K (tVar 0) (tFX (sp_need_namesT K) W (tCons (tVar 1) (tCons (tLst tNil) tNil))) "opened") (tSeq (sFld K (tVar 0) (tFX (sp_need_namesT K) W (tCons (tVar 2) (tCons (tFld K (tVar 0) "opened") tNil))) "hidden") (sFld K (tVar 0) (tFX (sp_need_blockT K 9) W (tCons (tVar 3) (tCons (tC (.int 1)) tNil))) "inner")))
theorem pure_Program___init__T (K : PySem.W.Frag) (vs : List V) (H : Hp) (Q : VK) (E : XK) (h : sp_Program___init__T K vs H Q E) :
    t_Program___init__T K (WD E) { nx := fun _ H' => Q .non H', rt := Q } (start N_Program___init__T vs) H := by
  obtain ⟨p, C, dx, x, y, z, rfl, hp, cc, h⟩ := h
  /- the names told open are right -/
  have second : ∀ {ax : Addr} {os : List Str}, x = .ref ax → SE K H ax (os.map V.str) → GoodN os [] →
      (∀ (o : Addr) (H3 : Hp), SameX p H H3 → H3 p = some (.ins C dx [("opened", .ref o)]) → H3 o = some (.lst (os.map V.str)) → o ≠ p → H o = none →
        sp_need_namesT K [y, .ref o] H3 (fun v H4 => sFld K (tVar 0) (tC v) "hidden" { nx := fun σ H5 => sFld K (tVar 0) (tFX (sp_need_blockT K 9) (WD E) (tCons (tVar 3) (tCons (tC (.int 1)) tNil))) "inner" { nx := fun _ H' => Q .non H', rt := Q } σ H5, rt := Q } [some (.ref p), some x, some y, some z] H4) E) →
      t_Program___init__T K (WD E) { nx := fun _ H' => Q .non H', rt := Q } (start N_Program___init__T [.ref p, x, y, z]) H := by
    intro ax os hx sx g k
    unfold t_Program___init__T
    walk_at "gx"
    rename_i t0 H1 n0 e1 h0
    refine ⟨x, t0, [], rfl, SqL.of h0, .inl ⟨ax, os, hx, se_same e1 sx, g, fun o H2 e2 no ho2 => ?_⟩⟩
    have e12 := e1.trans e2
    have po : p ≠ o := ne_of_none (e1 _ _ hp) no
    have hp2 := e12 _ _ hp
    walk_at "gx"
    refine w_sfldAt hp2 cc (by simp) (by simp) ?_
    rw [put1]
    have h3p : upd H2 p (.ins C dx [("opened", .ref o)]) p = _ := upd_same
    have h3o : upd H2 p (.ins C dx [("opened", .ref o)]) o = _ := (upd_ne po.symm).trans ho2
    have x3 : SameX p H (upd H2 p (.ins C dx [("opened", .ref o)])) := fun a u na ha => by rw [upd_ne na]; exact e12 a u ha
    generalize upd H2 p (.ins C dx [("opened", .ref o)]) = H3 at h3p h3o x3
    have kk := k o H3 x3 h3p h3o po.symm (none_of e1 no)
    walk_at "gx"
    refine w_fldAt h3p cc (by simp) rfl ?_
    exact kk
  have third : ∀ {ax ay : Addr} {os ss : List Str}, x = .ref ax → SE K H ax (os.map V.str) → GoodN os [] → y = .ref ay → SE K H ay (ss.map V.str) → GoodN ss os →
      (∀ (o h' : Addr) (H5 : Hp), SameX p H H5 → H5 p = some (.ins C dx [("opened", .ref o), ("hidden", .ref h')]) → H5 o = some (.lst (os.map V.str)) → H5 h' = some (.lst (ss.map V.str)) → o ≠ p → h' ≠ p → H o = none → H h' = none →
        sp_need_blockT K 9 [z, .int ((1 : Nat) : Nat)] H5 (fun v H6 => sFld K (tVar 0) (tC v) "inner" { nx := fun _ H' => Q .non H', rt := Q } [some (.ref p), some x, some y, some z] H6) E) →
      t_Program___init__T K (WD E) { nx := fun _ H' => Q .non H', rt := Q } (start N_Program___init__T [.ref p, x, y, z]) H := by
    intro ax ay os ss hx sx g hy sy g2 k
    refine second hx sx g fun o H3 x3 h3p h3o op nO => ?_
    refine ⟨y, o, os, rfl, SqL.of h3o, .inl ⟨ay, ss, hy, se_sameI (.ofX hp x3) sy, g2, fun h' H4 e4 nh hh4 => ?_⟩⟩
    have ph : p ≠ h' := ne_of_none h3p nh
    have oh : o ≠ h' := ne_of_none h3o nh
    have hp4 := e4 _ _ h3p
    walk_at "gx"
    refine w_sfldAt hp4 cc (by simp) (by simp) ?_
    rw [put2]
    have h5p : upd H4 p (.ins C dx [("opened", .ref o), ("hidden", .ref h')]) p = _ := upd_same
    have h5o : upd H4 p (.ins C dx [("opened", .ref o), ("hidden", .ref h')]) o = _ := (upd_ne op).trans (e4 _ _ h3o)
    have h5h : upd H4 p (.ins C dx [("opened", .ref o), ("hidden", .ref h')]) h' = _ := (upd_ne ph.symm).trans hh4
    have x5 : SameX p H (upd H4 p (.ins C dx [("opened", .ref o), ("hidden", .ref h')])) := fun a u na ha => by rw [upd_ne na]; exact e4 a u (x3 a u na ha)
    generalize upd H4 p (.ins C dx [("opened", .ref o), ("hidden", .ref h')]) = H5 at h5p h5o h5h x5
    have kk := k o h' H5 x5 h5p h5o h5h op ph.symm nO (none_x x3 h3p nh)
    walk_at "gx"
    exact kk
  rcases h with ⟨ax, ay, az, os, ss, xs, b, hx, hy, hz, sx, sy, g, g2, sz', gr, q⟩ | ⟨c, bad, q⟩
  · refine third hx sx g hy sy g2 fun o h' H5 x5 h5p h5o h5h op hp' nO nh' => ?_
    have i5 := SameI.ofX hp x5
    refine ⟨z, 1, rfl, by decide, by decide, by decide, .inl ⟨az, xs, b, hz, se_sameI i5 sz', gr.monoI i5, fun q' ys H6 e6 hq6 hb6 => ?_⟩⟩
    have hp6 := e6 _ _ h5p
    walk_at "gx"
    refine w_sfldAt hp6 cc (by simp) (by simp) ?_
    rw [put3]
    refine q _ (fun a u na ha => by rw [upd_ne na]; exact e6 a u (x5 a u na ha)) ⟨C, dx, o, h', q', ys, ⟨upd_same, cc, (upd_ne op).trans (e6 _ _ h5o), (upd_ne hp').trans (e6 _ _ h5h), ?_, ?_⟩, nO, nh'⟩
    · exact sameT_t (SameT.upd hp6 rfl) hq6
    · exact hb6.monoT (SameT.upd hp6 rfl)
  · have out : ∀ {H' H'' : Hp} {D : Addr}, SameX p H H' → Same H' H'' → IsX K c D → E (.ref D) none H'' := fun x e i => q _ _ i fun a u na ha => e a u (x a u na ha)
    cases bad with
    | opens h =>
      unfold t_Program___init__T
      walk_at "gx"
      rename_i t0 H1 n0 e1 h0
      exact ⟨x, t0, [], rfl, SqL.of h0, .inr ⟨c, h.mono e1, fun D H2 i e2 => q D H2 i fun a u _ ha => e2 a u (e1 a u ha)⟩⟩
    | secrets e s g h => exact second e s g fun o H3 x3 h3p h3o op _ => ⟨y, o, _, rfl, SqL.of h3o, .inr ⟨c, h.monoI (.ofX hp x3), fun D H4 i e4 => out x3 e4 i⟩⟩
    | block e s g e2 s2 g2 h => exact third e s g e2 s2 g2 fun o h' H5 x5 h5p h5o h5h op hp' _ _ => blk_spec (by decide) (by decide) (by decide) (h.monoI (.ofX hp x5)) fun D H6 i e6 => out x5 e6 i
theorem one_name {x : Str} (hx : x ∈ XNames) : List.countP (fun z => eqV z (.bl true)) ([V.bl (decide (x = "NoName")), .bl (decide (x = "Twice")), .bl (decide (x = "NoRow")), .bl (decide (x = "TooDeep"))] ++ [.bl (decide (x = "NoValues")), .bl (decide (x = "NoTurns")), .bl (decide (x = "NoLine"))]) = 1 := by
  simp only [XNames, List.mem_cons, List.not_mem_nil, or_false] at hx
  rcases hx with rfl | rfl | rfl | rfl | rfl | rfl | rfl <;> decide +kernel
abbrev N_law_alone : List Str := ["_law_e", "_law_told"]
noncomputable def t_law_alone (K : PySem.W.Frag) (x : Str) (a : Addr) : TS :=
  (tSeq (tAsg (tLst (tCons (tCB (rIsX K x a) (tCons (tVar 0) (tCons (tX K "NoName") tNil))) (tCons (tCB (rIsX K x a) (tCons (tVar 0) (tCons (tX K "Twice") tNil))) (tCons (tCB (rIsX K x a) (tCons (tVar 0) (tCons (tX K "NoRow") tNil))) (tCons (tCB (rIsX K x a) (tCons (tVar 0) (tCons (tX K "TooDeep") tNil))) tNil))))) (gName 1)) (tSeq (tAsg (tOp (rAdd K) (tVar 1) (tLst (tCons (tCB (rIsX K x a) (tCons (tVar 0) (tCons (tX K "NoValues") tNil))) (tCons (tCB (rIsX K x a) (tCons (tVar 0) (tCons (tX K "NoTurns") tNil))) (tCons (tCB (rIsX K x a) (tCons (tVar 0) (tCons (tX K "NoLine") tNil))) tNil))))) (gName 1)) (tRet (tAndV (tCB (rIsX K x a) (tCons (tVar 0) (tCons (tC (.ty "ValueError")) tNil))) (tOp (rEq2 K) (tBM K "list" (rCount K) (tVar 1) (tCons (tC (.bl true)) tNil)) (tC (.int 1)))))))
theorem pure_law_alone (K : PySem.W.Frag) (x : Str) (a : Addr) (hx : x ∈ XNames) (H : Hp) (Q : VK) (q : ∀ H', Same H H' → Q (.bl true) H') :
    t_law_alone K x a { nx := fun _ H' => Q .non H', rt := Q } (start N_law_alone [.ref a]) H := by
  unfold t_law_alone
  walk_at "gx"
  rename_i p1 H1 n1 e1 h1 p2 H2 n2 e2 h2
  refine w_addL' (e2 _ _ h1) h2 (show 7 ≤ sizeLine by decide) (fun p3 H3 n3 e3 h3 => ?_)
  walk_at "gx"
  refine ⟨p3, _, _, rfl, rfl, SqL.of h3, rfl, rfl, ?_⟩
  rw [one_name hx]
  walk_at "gx"
  exact q _ ((e1.trans e2).trans e3)
abbrev RS : List Str := ["NoName", "Twice", "NoRow", "TooDeep"]
def wordX (c : Str) : Str := if c = ("NoName" : Str) then "name" else if c = ("Twice" : Str) then "twice" else if c = ("NoRow" : Str) then "row" else "deep"
theorem BadF.mem {K : PySem.W.Frag} {H : Hp} {v : V} {l : Nat} {x : Str} (h : BadF K H v l x) : x ∈ RS := by
  induction h with
  | deep => decide
  | odd t n => decide
  | two h t sh q => decide
  | sign h q => decide
  | left h q _ ih => exact ih
  | right h q hf rt d _ ih => exact ih
theorem BadRow.mem {K : PySem.W.Frag} {H : Hp} {v : V} {d : Nat} {x : Str} (h : BadRow K H v d x) : x ∈ RS := by
  induction h with
  | form h => decide
  | deep h n => decide
  | fml h n f => exact f.mem
  | blk h n hf rt good g l _ ih => exact ih
theorem BadN.mem {K : PySem.W.Frag} {H : Hp} {ts : List Str} {v : V} {x : Str} (h : BadN K H ts v x) : x ∈ RS := by
  cases h <;> decide
theorem BadBlk.mem {K : PySem.W.Frag} {H : Hp} {v : V} {d : Nat} {x : Str} (h : BadBlk K H v d x) : x ∈ RS := by
  rcases h with ⟨a, rp, w, rq, b, h1, h2, h3, h4, h5⟩ | ⟨rfl, _⟩
  · exact h5.mem
  · decide
theorem Bad3.mem {K : PySem.W.Frag} {H : Hp} {x y z : V} {c : Str} (h : Bad3 K H x y z c) : c ∈ RS := by
  cases h with
  | opens h => exact h.mem
  | secrets e s g h => exact h.mem
  | block e s g e2 s2 g2 h => exact h.mem
theorem BadBlk.mono {K : PySem.W.Frag} {H H' : Hp} (e : Same H H') {v : V} {d : Nat} {x : Str} (h : BadBlk K H v d x) : BadBlk K H' v d x := h.monoI (.of e)
theorem Bad3.mono {K : PySem.W.Frag} {H H' : Hp} (i : Same H H') {x y z : V} {c : Str} (h : Bad3 K H x y z c) : Bad3 K H' x y z c := by
  cases h with
  | opens h => exact .opens (h.mono i)
  | secrets e s g h => exact .secrets e (se_same i s) g (h.mono i)
  | block e s g e2 s2 g2 h => exact .block e (se_same i s) g e2 (se_same i s2) g2 (h.mono i)
/-- what a program may be made of -/
def Good3 (K : PySem.W.Frag) (H : Hp) (x y z : V) (os ss : List Str) (b : List Rw) : Prop := ∃ ax ay az xs, x = .ref ax ∧ y = .ref ay ∧ z = .ref az ∧ SE K H ax (os.map V.str) ∧ SE K H ay (ss.map V.str) ∧ GoodN os [] ∧ GoodN ss os ∧ SE K H az xs ∧ GoodR K H xs 1 b
theorem Good3.mono {K : PySem.W.Frag} {H H' : Hp} (e : Same H H') {x y z : V} {os ss : List Str} {b : List Rw} (h : Good3 K H x y z os ss b) : Good3 K H' x y z os ss b := by
  obtain ⟨ax, ay, az, xs, h1, h2, h3, h4, h5, h6, h7, h8, h9⟩ := h
  exact ⟨ax, ay, az, xs, h1, h2, h3, se_same e h4, se_same e h5, h6, h7, se_same e h8, h9.mono e⟩
def sp_law_refusedT (K : PySem.W.Frag) : Sp := fun vs H Q _ => ∃ (x y z : V), vs = [x, y, z] ∧
  ((∃ os ss b, Good3 K H x y z os ss b ∧ ∀ H', Same H H' → Q (.str "made") H') ∨ (∃ c, Bad3 K H x y z c ∧ ∀ H', Same H H' → Q (.str (wordX c)) H'))
abbrev N_law_refusedT : List Str := ["_law_opens", "_law_secrets", "_law_block", "_law_e", "_law_told"]
noncomputable def t_law_refusedT (K : PySem.W.Frag) : TS :=
  (tSeq (tTry K ["NoName", "Twice", "NoRow", "TooDeep"] 3 (fun W => (tDrop (tMkX K "Program" as_Program (sp_Program___init__T K) 5 W (tCons (tVar 0) (tCons (tVar 1) (tCons (tVar 2) tNil)))))) (fun x a => (tSeq (tIfS (tNot (tB (tFE a (.bl true) (tCons (tVar 3) tNil)))) (tRet (tC (.str "none"))) tNext) (tSeq (tAsg (tLst (tCons (tCB (rIsX K x a) (tCons (tVar 3) (tCons (tX K "NoName") tNil))) (tCons (tCB (rIsX K x a) (tCons (tVar 3) (tCons (tX K "Twice") tNil))) (tCons (tCB (rIsX K x a) (tCons (tVar 3) (tCons (tX K "NoRow") tNil))) (tCons (tCB (rIsX K x a) (tCons (tVar 3) (tCons (tX K "TooDeep") tNil))) tNil))))) (gName 4)) (tRet (tOp (rIx K) (tLst (tCons (tC (.str "name")) (tCons (tC (.str "twice")) (tCons (tC (.str "row")) (tCons (tC (.str "deep")) (tCons (tC (.str "none")) tNil)))))) (tBM K "list" (rIndex K) (tOp (rAdd K) (tVar 4) (tLst (tCons (tC (.bl true)) tNil))) (tCons (tC (.bl true)) tNil)))))))) (tRet (tC (.str "made"))))
theorem new2 {H : Hp} {x dx C : Addr} (h1 : H x = none) (h2 : H dx = none) (ne : dx ≠ x) : Same H (upd (upd H dx (.own x)) x (.ins C dx [])) := fun a u ha => by
  have n1 : a ≠ x := fun e => by rw [e, h1] at ha; cases ha
  have n2 : a ≠ dx := fun e => by rw [e, h2] at ha; cases ha
  rw [upd_ne n1, upd_ne n2]
  exact ha
theorem idx_of {K : PySem.W.Frag} {H : Hp} {Q : VK} {p : Addr} {bs : List Bool} {j : Nat} (h : H p = some (.lst (bs.map V.bl))) (hj : bs[j]? = some true) (hm : ∀ m, m < j → bs[m]? = some false) (q : Q (.int (j : Nat)) H) : rIndex K (.ref p) [.bl true] H Q := by
  refine ⟨p, bs.map V.bl, .bl true, j, .bl true, rfl, rfl, SqL.of h, rfl, List.all_eq_true.mpr fun v hv => ?_, by rw [List.getElem?_map, hj] <;> rfl, rfl, fun m z' l hz => ?_, q⟩
  · obtain ⟨b, _, rfl⟩ := List.mem_map.mp hv
    rfl
  · rw [List.getElem?_map, hm m l] at hz
    rw [← Option.some.inj hz]
    rfl
theorem five {σ : L2.St} (h : σ.length = 5) : ∃ a b c d e, σ = [a, b, c, d, e] := by
  match σ, h with
  | [a, b, c, d, e], _ => exact ⟨a, b, c, d, e, rfl⟩
theorem pure_law_refusedT (K : PySem.W.Frag) (vs : List V) (H : Hp) (Q : VK) (E : XK) (h : sp_law_refusedT K vs H Q E) :
    t_law_refusedT K { nx := fun _ H' => Q .non H', rt := Q } (start N_law_refusedT vs) H := by
  obtain ⟨x, y, z, rfl, h⟩ := h
  unfold t_law_refusedT
  walk_at "gx"
  refine w_mkX ?_
  walk_at "gx"
  intro p C dx cc np nd ne
  have e1 : Same H (upd (upd H dx (.own p)) p (.ins C dx [])) := new2 np nd ne
  have hp : upd (upd H dx (.own p)) p (.ins C dx []) p = some (.ins C dx []) := upd_same
  have back : ∀ {H2 : Hp}, SameX p (upd (upd H dx (.own p)) p (.ins C dx [])) H2 → Same H H2 := fun x => SameX.same (H := H) (Same.refl _) np (fun a u na ha => x a u na (e1 a u ha))
  generalize upd (upd H dx (.own p)) p (.ins C dx []) = H1 at e1 hp back
  rcases h with ⟨os, ss, b, g, q⟩ | ⟨c, bad, q⟩
  · obtain ⟨ax, ay, az, xs, h1, h2, h3, h4, h5, h6, h7, h8, h9⟩ := g.mono e1
    refine ⟨p, C, dx, x, y, z, rfl, hp, cc, .inl ⟨ax, ay, az, os, ss, xs, b, h1, h2, h3, h4, h5, h6, h7, h8, h9, fun H2 x2 _ => ⟨rfl, ?_⟩⟩⟩
    walk_at "gx"
    exact q _ (back x2)
  · refine ⟨p, C, dx, x, y, z, rfl, hp, cc, .inr ⟨c, bad.mono e1, fun D H2 i x2 σ2 l2 => ⟨c, D, rfl, rfl, bad.mem, i, fun a ha => ?_⟩⟩⟩
    obtain ⟨s0, s1, s2, s3, s4, rfl⟩ := five l2
    have e2 := back x2
    walk_at "gx"
    refine ⟨rfl, fun H3 e3 => ?_⟩
    walk_at "gx"
    rename_i pt H4 n4 e4 h4 pn H5 n5 e5 h5 pl H6 n6 e6 h6
    refine w_addL' (e6 _ _ (e5 _ _ h4)) h6 (sz (by show 4 + 1 ≤ _; decide)) (fun p7 H7 n7 e7 h7 => ?_)
    walk_at "gx"
    have e27 := e3.trans (e4.trans (e5.trans (e6.trans e7)))
    have hc := bad.mem
    simp only [List.mem_cons, List.not_mem_nil, or_false] at hc
    have fin : ∀ (j : Nat) (w : Str), ([decide (c = "NoName"), decide (c = "Twice"), decide (c = "NoRow"), decide (c = "TooDeep"), true] : List Bool)[j]? = some true → (∀ m, m < j → ([decide (c = "NoName"), decide (c = "Twice"), decide (c = "NoRow"), decide (c = "TooDeep"), true] : List Bool)[m]? = some false) →
        ([("name" : Str), "twice", "row", "deep", "none"].map V.str)[j]? = some (.str w) → wordX c = w → rIndex K (.ref p7) [.bl true] H7 fun y H8 => rIx K (.ref pn) y H8 Q := fun j w h1 h2 h3 h4 => by
      refine idx_of (bs := [decide (c = "NoName"), decide (c = "Twice"), decide (c = "NoRow"), decide (c = "TooDeep"), true]) h7 h1 h2 ?_
      refine w_ixL (SqL.of (e7 _ _ (e6 _ _ h5))) (atI_nat h3) ?_
      have := q H7 (e2.trans e27)
      rw [h4] at this
      exact this
    rcases hc with rfl | rfl | rfl | rfl
    · exact fin 0 "name" (by decide +kernel) (fun m h => absurd h (Nat.not_lt_zero m)) rfl (by decide +kernel)
    · exact fin 1 "twice" (by decide +kernel) (by decide +kernel) rfl (by decide +kernel)
    · exact fin 2 "row" (by decide +kernel) (by decide +kernel) rfl (by decide +kernel)
    · exact fin 3 "deep" (by decide +kernel) (by decide +kernel) rfl (by decide +kernel)
def Rn (H H' : Hp) : Hp := fun a => match H a with
  | none => H' a
  | some u => if Fix u = true then H' a else none
theorem Rn.new {H H' : Hp} {p : Addr} (h : H p = none) : Rn H H' p = H' p := by unfold Rn; rw [h]
theorem Rn.fixd {H H' : Hp} {p : Addr} {u : HO} (h : H p = some u) (f : Fix u = true) : Rn H H' p = H' p := by unfold Rn; rw [h]; exact if_pos f
theorem Rn.gone {H H' : Hp} {p : Addr} {u : HO} (h : H p = some u) (f : Fix u = false) : Rn H H' p = none := by unfold Rn; rw [h]; exact if_neg (by rw [f]; exact Bool.false_ne_true)
theorem Rn.cases' {H H' : Hp} {p : Addr} {w : HO} (h : Rn H H' p = some w) : H' p = some w ∧ (H p = none ∨ ∃ u, H p = some u ∧ Fix u = true) := by
  cases e : H p with
  | none => rw [Rn.new e] at h; exact ⟨h, .inl rfl⟩
  | some u =>
    cases f : Fix u with
    | false => rw [Rn.gone e f] at h; cases h
    | true => rw [Rn.fixd e f] at h; exact ⟨h, .inr ⟨u, rfl, f⟩⟩
theorem Rn.same {H G G2 : Hp} (e : Same G G2) : Same (Rn H G) (Rn H G2) := fun a u h => by
  obtain ⟨h1, h2 | ⟨w, h2, f⟩⟩ := Rn.cases' h
  · rw [Rn.new h2]; exact e a u h1
  · rw [Rn.fixd h2 f]; exact e a u h1
theorem Rn.mk {H G : Hp} {p : Addr} {u : HO} (e : Same H G) (h : G p = some u) (c : H p = none ∨ Fix u = true) : Rn H G p = some u := by
  cases q : H p with
  | none => rw [Rn.new q]; exact h
  | some w =>
    have z := e p w q
    rw [h] at z
    cases z
    rcases c with c | c
    · rw [c] at q; cases q
    · rw [Rn.fixd q c]; exact h
theorem Rn.sub {H0 G H' : Hp} (e : Same H0 G) : Same (Rn G H') (Rn H0 H') := fun a u h => by
  obtain ⟨h1, h2⟩ := Rn.cases' h
  cases q : H0 a with
  | none => rw [Rn.new q]; exact h1
  | some w =>
    rcases h2 with h2 | ⟨w', h2, f⟩
    · have := e a w q; rw [h2] at this; cases this
    · have := e a w q
      rw [h2] at this
      cases this
      rw [Rn.fixd q f]; exact h1
theorem Rn.keep {H H' H'' : Hp} {pr : Addr} {u : HO} (h : H pr = some u) (f : Fix u = false) (x : SameX pr H' H'') : Same (Rn H H') H'' := fun a w hw => by
  obtain ⟨h1, h2⟩ := Rn.cases' hw
  refine x a w (fun e => ?_) h1
  rw [e, h] at h2
  rcases h2 with h2 | ⟨w', h2, g⟩
  · cases h2
  · cases h2; rw [f] at g; cases g
theorem Rn.le {H H' : Hp} : Same (Rn H H') H' := fun a u h => (Rn.cases' h).1
theorem Rn.T {H G : Hp} (e : Same H G) : SameT G (Rn H G) := fun a o h f => Rn.mk e h (.inr f)
theorem deepF {K : PySem.W.Frag} {H : Hp} : ∀ {l : Nat} {v : V} {f : Fm}, FmAt K H v f → f.rt → l < f.depth → BadF K H v l "TooDeep"
  | 0, _, _, _, _, _ => .deep
  | l + 1, v, f, h, rt, d => by
    cases h with
    | num h => exact absurd d (by show ¬ (l + 1 < 1); omega)
    | nam h => exact absurd d (by show ¬ (l + 1 < 1); omega)
    | @op p s x y a c h h1 h2 =>
      have d : l + 1 < max a.depth c.depth + 1 := d
      have sm := of_decide_eq_true (sgs_mem s)
      by_cases ca : a.depth ≤ l
      · exact .right h sm h1 rt.1 ca (deepF h2 rt.2 (by omega))
      · exact .left h sm (deepF h1 rt.1 (by omega))
theorem szs_one {r : Rw} {l : List Rw} : szs (r :: l) = r.size + szs l := rfl
/-- the first row that is too deep -/
theorem first_deep : ∀ {b : List Rw} {d : Nat}, 9 < d + nests b → d ≤ 9 → ∃ c r e, b = c ++ r :: e ∧ d + nests c ≤ 9 ∧ 9 < d + r.nest
  | [], d, h, hd => absurd h (by show ¬ (9 < d + 0); omega)
  | r :: l, d, h, hd => by
    have h : 9 < d + max r.nest (nests l) := h
    by_cases c : d + r.nest ≤ 9
    · obtain ⟨c', r', e, rfl, h1, h2⟩ := first_deep (b := l) (d := d) (by omega) hd
      exact ⟨r :: c', r', e, rfl, by show d + max r.nest (nests c') ≤ 9; omega, h2⟩
    · exact ⟨[], r, l, rfl, by show d + 0 ≤ 9; omega, by omega⟩
theorem BkAt.cut {K : PySem.W.Frag} {S : SQ} {H : Hp} {r : Rw} : ∀ {xs : List V} {c e : List Rw}, BkAt K S H xs (c ++ r :: e) → ∃ rp w rq, xs = rp ++ w :: rq ∧ BkAt K S H rp c ∧ RwAt K S H w r ∧ BkAt K S H rq e
  | _, [], _, .cons h t => ⟨[], _, _, rfl, .nil, h, t⟩
  | _, _ :: _, _, .cons h t => by
    obtain ⟨rp, w, rq, rfl, h1, h2, h3⟩ := BkAt.cut t
    exact ⟨_ :: rp, w, rq, rfl, .cons h h1, h2, h3⟩
theorem deepR {K : PySem.W.Frag} {H : Hp} : ∀ {n : Nat} {v : V} {r : Rw} {d : Nat}, 9 ≤ n + d → RwAt K (SE K) H v r → r.rt → 1 ≤ d → d ≤ 9 → 9 < d + r.nest → r.size ≤ 100000 → BadRow K H v d "TooDeep"
  | 0, v, r, d, hn, h, rt, d1, d9, hd, hz => by
    obtain ⟨o, ps, rf, _, _⟩ := h.rowF rt
    exact .deep rf (by omega)
  | n + 1, v, r, d, hn, h, rt, d1, d9, hd, hz => by
    by_cases e9 : d = 9
    · obtain ⟨o, ps, rf, _, _⟩ := h.rowF rt
      exact .deep rf (by omega)
    /- a part that is too deep -/
    have part : ∀ {xs : List V} {b : List Rw}, BkAt K (SE K) H xs b → rts b → 9 < d + 1 + nests b → szs b ≤ 100000 → ∃ rp w rq c, xs = rp ++ w :: rq ∧ GoodR K H rp (d + 1) c ∧ (rp ++ w :: rq).length ≤ 100000 ∧ BadRow K H w (d + 1) "TooDeep" := fun {xs b} hb rb nb zb => by
      obtain ⟨c, r', e, rfl, h1, h2⟩ := first_deep nb (by omega)
      obtain ⟨rp, w, rq, rfl, k1, k2, k3⟩ := hb.cut
      obtain ⟨t1, t2⟩ := rts_app.mp rb
      have zl := szs_len (c ++ r' :: e)
      have xl := hb.len
      rw [szs_app, szs_one] at zb
      rw [szs_app, szs_one] at zl
      exact ⟨rp, w, rq, c, rfl, ⟨k1, t1, by omega, by omega⟩, by omega, deepR (n := n) (by omega) k2 t2.1 (by omega) (by omega) (by omega) (by omega)⟩
    cases h with
    | set h hf => exact absurd hd (by show ¬ (9 < d + 1); omega)
    | tell h hf => exact absurd hd (by show ¬ (9 < d + 1); omega)
    | skip h => exact absurd hd (by show ¬ (9 < d + 1); omega)
    | @ite a p q u f xs ys b c h hf hp hb hq hc =>
      have hd : 9 < d + (1 + max (nests b) (nests c)) := hd
      have hz : 1 + (szs b + szs c) ≤ 100000 := hz
      by_cases cb : d + 1 + nests b ≤ 9
      · obtain ⟨rp, w, rq, cc, rfl, g, l, bad⟩ := part hc rt.2.2 (by omega) (by omega)
        exact .blk (pre := [(p, xs)]) (post := []) (.ite h hp hq) (by omega) hf rt.1 (fun z hz' => by rw [List.mem_singleton.mp hz']; exact ⟨b, hb, rt.2.1, cb, by omega⟩) g l bad
      · obtain ⟨rp, w, rq, cc, rfl, g, l, bad⟩ := part hb rt.2.1 (by omega) (by omega)
        exact .blk (pre := []) (post := [(q, ys)]) (.ite h hp hq) (by omega) hf rt.1 (fun z hz' => nomatch hz') g l bad
    | @whl a p u f xs b h hf hp hb =>
      have hd : 9 < d + (1 + nests b) := hd
      have hz : 1 + szs b ≤ 100000 := hz
      obtain ⟨rp, w, rq, cc, rfl, g, l, bad⟩ := part hb rt.2 (by omega) (by omega)
      exact .blk (pre := []) (post := []) (.whl h hp) (by omega) hf rt.1 (fun z hz' => nomatch hz') g l bad
def sp_law_chainT (K : PySem.W.Frag) : Sp := fun vs H Q _ => ∃ (x : Str) (m : Nat), vs = [.str x, .int (m : Nat)] ∧ Nm x ∧ 1 ≤ m ∧ m ≤ 100 ∧ ∀ (v : V) (f : Fm) (H' : Hp), Same H H' → FmAt K H' v f → f.rt → f.depth = m → (∃ p, v = .ref p) → Q v H'
def sp_law_nestedT (K : PySem.W.Frag) : Sp := fun vs H Q _ => ∃ m : Nat, vs = [.int (m : Nat)] ∧ 1 ≤ m ∧ m ≤ 100 ∧
  ∀ (p : Addr) (w : V) (r : Rw) (H' : Hp), Same H H' → H p = none → H' p = some (.lst [w]) → RwAt K (SE K) (Rn H H') w r → r.rt → r.nest = m → r.size = m → Q (.ref p) H'
abbrev N_law_chainT : List Str := ["_law_name", "_law_many_here", "_law_found", "_law_k"]
noncomputable def t_law_chainT (K : PySem.W.Frag) : TS :=
  (tSeq (tAsg (tTup (tCons (tC (.str "name")) (tCons (tVar 0) tNil))) (gName 2)) (tSeq (tFor (iRng1 (tCons (tOp rSub (tVar 1) (tC (.int 1))) tNil)) (gName 3) (tAsg (tOp (rIx K) (tLst (tCons (tTup (tCons (tC (.str "+")) (tCons (tVar 2) (tCons (tTup (tCons (tC (.str "number")) (tCons (tC (.int 1)) tNil))) tNil)))) (tCons (tTup (tCons (tC (.str "*")) (tCons (tTup (tCons (tC (.str "number")) (tCons (tC (.int 2)) tNil))) (tCons (tVar 2) tNil)))) tNil))) (tOp rMod (tVar 3) (tC (.int 2)))) (gName 2))) (tRet (tVar 2))))
abbrev N_law_nestedT : List Str := ["_law_many_here", "_law_found", "_law_k"]
noncomputable def t_law_nestedT (K : PySem.W.Frag) : TS :=
  (tSeq (tAsg (tLst (tCons (tTup (tCons (tC (.str "skip")) tNil)) tNil)) (gName 1)) (tSeq (tFor (iRng1 (tCons (tOp rSub (tVar 0) (tC (.int 1))) tNil)) (gName 2) (tAsg (tOp (rIx K) (tLst (tCons (tLst (tCons (tTup (tCons (tC (.str "while")) (tCons (tTup (tCons (tC (.str "number")) (tCons (tC (.int 0)) tNil))) (tCons (tVar 1) tNil)))) tNil)) (tCons (tLst (tCons (tTup (tCons (tC (.str "if")) (tCons (tTup (tCons (tC (.str "number")) (tCons (tC (.int 1)) tNil))) (tCons (tLst tNil) (tCons (tVar 1) tNil))))) tNil)) tNil))) (tOp rMod (tVar 2) (tC (.int 2)))) (gName 1))) (tRet (tVar 1))))
theorem pure_law_chainT (K : PySem.W.Frag) (vs : List V) (H : Hp) (Q : VK) (E : XK) (h : sp_law_chainT K vs H Q E) :
    t_law_chainT K { nx := fun _ H' => Q .non H', rt := Q } (start N_law_chainT vs) H := by
  obtain ⟨x, m, rfl, hx, m1, m9, q⟩ := h
  have k1 : ((m : Nat) : Int) - 1 = ((m - 1 : Nat) : Int) := by omega
  unfold t_law_chainT
  walk_at "gx"
  rename_i p0 H0 n0 e0 h0
  rw [k1]
  refine ⟨_, rfl, by omega, by omega, for_range (lo := 0) (n := m - 1) (fun i σ H' => Same H H' ∧ ∃ (v : V) (f : Fm) (w : Option V), FmAt K H' v f ∧ f.rt ∧ f.depth = i + 1 ∧ (∃ p, v = .ref p) ∧ σ = [some (.str x), some (.int (m : Nat)), some v, w])
    ⟨e0, .ref p0, .nam x, _, .nam (SqT.of h0), hx, rfl, ⟨_, rfl⟩, rfl⟩ ?_ ?_⟩
  · rintro i σ H1 hi ⟨e1, v, f, w, hf, rt, hd, ⟨pv, rfl⟩, rfl⟩
    walk_at "gx"
    rename_i a1 A1 b1 c1 d1 a2 A2 b2 c2 d2 a3 A3 b3 c3 d3 a4 A4 b4 c4 d4 a5 A5 b5 c5 d5
    have m2 := mod_in ((0 : Int) + ((i : Nat) : Int)) (show (0 : Int) < 2 by decide)
    have e15 := c1.trans (c2.trans (c3.trans (c4.trans c5)))
    have h25 := c3.trans (c4.trans c5)
    have c : ((0 : Int) + ((i : Nat) : Int)) % 2 = 0 ∨ ((0 : Int) + ((i : Nat) : Int)) % 2 = 1 := by omega
    rcases c with c | c
    · rw [c]
      refine w_ixL (v := .ref a2) (SqL.of d5) (atI_nat (j := 0) rfl) ?_
      exact ⟨e1.trans e15, .ref a2, .op .add f (.num 1), _, .op (s := .add) (SqT.of (h25 _ _ d2)) (hf.mono e15) (.num (SqT.of (h25 _ _ (c2 _ _ d1)))), ⟨rt, by decide, by decide⟩, (by show max f.depth 1 + 1 = _; omega), ⟨_, rfl⟩, rfl⟩
    · rw [c]
      refine w_ixL (v := .ref a4) (SqL.of d5) (atI_nat (j := 1) rfl) ?_
      exact ⟨e1.trans e15, .ref a4, .op .mul (.num 2) f, _, .op (s := .mul) (SqT.of (c5 _ _ d4)) (.num (SqT.of (c5 _ _ (c4 _ _ d3)))) (hf.mono e15), ⟨⟨by decide, by decide⟩, rt⟩, (by show max 1 f.depth + 1 = _; omega), ⟨_, rfl⟩, rfl⟩
  · rintro σ H1 ⟨e1, v, f, w, hf, rt, hd, hp, rfl⟩
    walk_at "gx"
    exact q v f _ e1 hf rt (by omega) hp
theorem pure_law_nestedT (K : PySem.W.Frag) (vs : List V) (H : Hp) (Q : VK) (E : XK) (h : sp_law_nestedT K vs H Q E) :
    t_law_nestedT K { nx := fun _ H' => Q .non H', rt := Q } (start N_law_nestedT vs) H := by
  obtain ⟨m, rfl, m1, m9, q⟩ := h
  have k1 : ((m : Nat) : Int) - 1 = ((m - 1 : Nat) : Int) := by omega
  unfold t_law_nestedT
  walk_at "gx"
  rename_i p0 H0 n0 e0 h0 p1 H1 n1 e1 h1
  rw [k1]
  refine ⟨_, rfl, by omega, by omega, for_range (lo := 0) (n := m - 1) (fun i σ H' => Same H H' ∧ ∃ (p : Addr) (v : V) (r : Rw) (w : Option V), H p = none ∧ H' p = some (.lst [v]) ∧ RwAt K (SE K) (Rn H H') v r ∧ r.rt ∧ r.nest = i + 1 ∧ r.size = i + 1 ∧ σ = [some (.int (m : Nat)), some (.ref p), w])
    ⟨e0.trans e1, p1, .ref p0, .skip, _, none_of e0 n1, h1, .skip (SqT.of (Rn.mk (e0.trans e1) (e1 _ _ h0) (.inr rfl))), trivial, rfl, rfl, rfl⟩ ?_ ?_⟩
  · rintro i σ H2 hi ⟨e2, p, v, r, w, np, hp, hr, rt, hn, hz, rfl⟩
    walk_at "gx"
    rename_i a1 A1 b1 c1 d1 a2 A2 b2 c2 d2 a3 A3 b3 c3 d3 a4 A4 b4 c4 d4 a5 A5 b5 c5 d5 a6 A6 b6 c6 d6 a7 A7 b7 c7 d7 a8 A8 b8 c8 d8
    have m2 := mod_in ((0 : Int) + ((i : Nat) : Int)) (show (0 : Int) < 2 by decide)
    have c : ((0 : Int) + ((i : Nat) : Int)) % 2 = 0 ∨ ((0 : Int) + ((i : Nat) : Int)) % 2 = 1 := by omega
    have e78 := c7.trans c8
    have e68 := c6.trans e78
    have e58 := c5.trans e68
    have e48 := c4.trans e58
    have e38 := c3.trans e48
    have e28 := c2.trans e38
    have e18 := c1.trans e28
    have E8 : Same H A8 := e2.trans e18
    have hr8 := hr.monoE (Rn.same (H := H) e18)
    have hp8 : SE K (Rn H A8) p [v] := .inl (SqL.of (Rn.mk E8 (e18 _ _ hp) (.inl np)))
    have f3 : H a3 = none := none_of e2 (none_of (c1.trans c2) b3)
    have f5 : H a5 = none := none_of e2 (none_of (c1.trans (c2.trans (c3.trans c4))) b5)
    have f7 : H a7 = none := none_of e2 (none_of (c1.trans (c2.trans (c3.trans (c4.trans (c5.trans c6))))) b7)
    rcases c with c | c
    · rw [c]
      refine w_ixL (v := .ref a3) (SqL.of d8) (atI_nat (j := 0) rfl) ?_
      exact ⟨e2.trans e18, a3, .ref a2, .whl (.num 0) [r], _, f3, e48 _ _ d3, .whl (SqT.of (Rn.mk E8 (e38 _ _ d2) (.inr rfl))) (.num (SqT.of (Rn.mk E8 (e28 _ _ d1) (.inr rfl)))) hp8 (.cons hr8 .nil), ⟨⟨⟨by decide, by decide⟩, by decide⟩, rt, trivial⟩, (by show 1 + max r.nest 0 = _; omega), (by show 1 + (r.size + 0) = _; omega), rfl⟩
    · rw [c]
      refine w_ixL (v := .ref a7) (SqL.of d8) (atI_nat (j := 1) rfl) ?_
      exact ⟨e2.trans e18, a7, .ref a6, .ite (.num 1) [] [r], _, f7, c8 _ _ d7, .ite (SqT.of (Rn.mk E8 (e78 _ _ d6) (.inr rfl))) (.num (SqT.of (Rn.mk E8 (e58 _ _ d4) (.inr rfl)))) (.inl (SqL.of (Rn.mk E8 (e68 _ _ d5) (.inl f5)))) .nil hp8 (.cons hr8 .nil), ⟨⟨⟨by decide, by decide⟩, by decide⟩, trivial, rt, trivial⟩, (by show 1 + max 0 (max r.nest 0) = _; omega), (by show 1 + (0 + (r.size + 0)) = _; omega), rfl⟩
  · rintro σ H2 ⟨e2, p, v, r, w, np, hp, hr, rt, hn, hz, rfl⟩
    walk_at "gx"
    exact q p v r _ e2 np hp hr rt (by omega) (by omega)
def sp_law_wrong_rowT (K : PySem.W.Frag) : Sp := fun vs H Q _ => ∃ (a : Addr) (ns : List Str) (c : Int), vs = [.ref a, .int c] ∧ SqL K H a (ns.map V.str) ∧ Ten ns ∧ ∀ (v : V) (H' : Hp), Same H H' → BadRow K (Rn H H') v 1 "NoRow" → Q v H'
theorem endB_no {s : Str} {u : V} (h1 : decide (s = ("number" : Str)) = false) (h2 : decide (s = ("name" : Str)) = false) : endB s u = false := by
  unfold endB
  rw [if_neg (of_decide_eq_false h1), h2, Bool.false_and]
abbrev AllBad (K : PySem.W.Frag) (H : Hp) (xs : List V) : Prop := ∀ v ∈ xs, BadRow K H v 1 "NoRow"
theorem AllBad.app {K : PySem.W.Frag} {H H' : Hp} {xs ys : List V} (e : Same H H') (h : AllBad K H xs) (g : AllBad K H' ys) : AllBad K H' (xs ++ ys) := fun v hv => (List.mem_append.mp hv).elim (fun m => (h v m).mono e) (g v)
theorem AllBad.one {K : PySem.W.Frag} {H : Hp} {v : V} (h : BadRow K H v 1 "NoRow") : AllBad K H [v] := fun u hu => by rw [List.mem_singleton.mp hu]; exact h
theorem AllBad.cons {K : PySem.W.Frag} {H : Hp} {v : V} {xs : List V} (h : BadRow K H v 1 "NoRow") (g : AllBad K H xs) : AllBad K H (v :: xs) := fun u hu => (List.mem_cons.mp hu).elim (fun e => e ▸ h) (g u)
abbrev N_law_wrong_rowT : List Str := ["_law_names_here", "_law_cell", "_law_some"]
noncomputable def t_law_wrong_rowT (K : PySem.W.Frag) : TS :=
  (tSeq (tAsg (tLst (tCons (tC (.int 5)) (tCons (tC (.str "skip")) (tCons (tLst (tCons (tC (.str "skip")) tNil)) (tCons (tTup tNil) (tCons (tTup (tCons (tC (.int 1)) tNil)) (tCons (tTup (tCons (tC (.str "jump")) tNil)) (tCons (tTup (tCons (tC (.str "skip")) (tCons (tC (.int 1)) tNil))) (tCons (tTup (tCons (tC (.str "tell")) tNil)) (tCons (tTup (tCons (tC (.str "set")) (tCons (tOp (rIx K) (tVar 0) (tC (.int 0))) tNil))) tNil)))))))))) (gName 2)) (tSeq (tAsg (tOp (rAdd K) (tVar 2) (tLst (tCons (tTup (tCons (tC (.str "set")) (tCons (tC (.str "A")) (tCons (tTup (tCons (tC (.str "number")) (tCons (tC (.int 1)) tNil))) tNil)))) (tCons (tTup (tCons (tC (.str "set")) (tCons (tC (.str "if")) (tCons (tTup (tCons (tC (.str "number")) (tCons (tC (.int 1)) tNil))) tNil)))) (tCons (tTup (tCons (tC (.str "set")) (tCons (tC (.int 7)) (tCons (tTup (tCons (tC (.str "number")) (tCons (tC (.int 1)) tNil))) tNil)))) tNil))))) (gName 2)) (tSeq (tAsg (tOp (rAdd K) (tVar 2) (tLst (tCons (tTup (tCons (tC (.str "if")) (tCons (tTup (tCons (tC (.str "number")) (tCons (tC (.int 1)) tNil))) (tCons (tLst tNil) tNil)))) tNil))) (gName 2)) (tSeq (tAsg (tOp (rAdd K) (tVar 2) (tLst (tCons (tTup (tCons (tC (.str "while")) (tCons (tTup (tCons (tC (.str "number")) (tCons (tC (.int 1)) tNil))) (tCons (tC (.int 5)) tNil)))) (tCons (tTup (tCons (tC (.str "if")) (tCons (tTup (tCons (tC (.str "number")) (tCons (tC (.int 1)) tNil))) (tCons (tLst tNil) (tCons (tC (.str "x")) tNil))))) (tCons (tTup (tCons (tC (.str "while")) (tCons (tTup (tCons (tC (.str "number")) (tCons (tC (.int 1)) tNil))) (tCons (tC .non) tNil)))) tNil))))) (gName 2)) (tSeq (tAsg (tOp (rAdd K) (tVar 2) (tLst (tCons (tTup (tCons (tC (.str "tell")) (tCons (tC (.int 5)) tNil))) (tCons (tTup (tCons (tC (.str "tell")) (tCons (tTup (tCons (tC (.str "number")) (tCons (tOp rPow (tC (.int 10)) (tC (.int 6))) tNil))) tNil))) (tCons (tTup (tCons (tC (.str "tell")) (tCons (tTup (tCons (tC (.str "number")) (tCons (tUn rNeg (tC (.int 1))) tNil))) tNil))) tNil))))) (gName 2)) (tSeq (tAsg (tOp (rAdd K) (tVar 2) (tLst (tCons (tTup (tCons (tC (.str "tell")) (tCons (tTup (tCons (tC (.str "number")) (tCons (tC (.bl true)) tNil))) tNil))) tNil))) (gName 2)) (tSeq (tAsg (tOp (rAdd K) (tVar 2) (tLst (tCons (tTup (tCons (tC (.str "tell")) (tCons (tTup (tCons (tC (.str "name")) (tCons (tC (.str "9a")) tNil))) tNil))) (tCons (tTup (tCons (tC (.str "tell")) (tCons (tTup (tCons (tC (.str "name")) (tCons (tC (.str "abcdefghi")) tNil))) tNil))) tNil)))) (gName 2)) (tSeq (tAsg (tOp (rAdd K) (tVar 2) (tLst (tCons (tTup (tCons (tC (.str "tell")) (tCons (tTup (tCons (tC (.str "!")) (tCons (tTup (tCons (tC (.str "number")) (tCons (tC (.int 1)) tNil))) (tCons (tTup (tCons (tC (.str "number")) (tCons (tC (.int 1)) tNil))) tNil)))) tNil))) (tCons (tTup (tCons (tC (.str "tell")) (tCons (tTup (tCons (tC (.str "+")) (tCons (tTup (tCons (tC (.str "number")) (tCons (tC (.int 1)) tNil))) tNil))) tNil))) tNil)))) (gName 2)) (tSeq (tAsg (tOp (rAdd K) (tVar 2) (tLst (tCons (tTup (tCons (tC (.str "tell")) (tCons (tLst (tCons (tC (.str "number")) (tCons (tC (.int 1)) tNil))) tNil))) (tCons (tTup (tCons (tC (.str "tell")) (tCons (tTup (tCons (tC (.str "name")) (tCons (tC (.str "end")) tNil))) tNil))) (tCons (tTup (tCons (tC (.str "tell")) (tCons (tTup (tCons (tC (.str "name")) (tCons (tC (.str "")) tNil))) tNil))) tNil))))) (gName 2)) (tRet (tOp (rIx K) (tVar 2) (tOp rMod (tVar 1) (tC (.int 27))))))))))))))
theorem pure_law_wrong_rowT (K : PySem.W.Frag) (vs : List V) (H : Hp) (Q : VK) (E : XK) (h : sp_law_wrong_rowT K vs H Q E) :
    t_law_wrong_rowT K { nx := fun _ H' => Q .non H', rt := Q } (start N_law_wrong_rowT vs) H := by
  obtain ⟨a, ns, c, rfl, hS, hT, q⟩ := h
  obtain ⟨n0, nt, nse⟩ := List.exists_cons_of_ne_nil (show ns ≠ [] from fun e => by have := hT.len; rw [e] at this; exact nomatch this)
  have n0i : atI (ns.map V.str) 0 = some (.str n0) := atI_nat (j := 0) (by rw [nse] <;> rfl)
  have si : ∀ {i : Int}, ShortV (.int i) := fun x e => nomatch e
  have sb : ∀ {b : Bool}, ShortV (.bl b) := fun x e => nomatch e
  have sr : ∀ {p : Addr}, ShortV (.ref p) := fun x e => nomatch e
  have st : ∀ {s : Str}, s.length ≤ 1000000 → ShortV (.str s) := fun h x e => by cases e; exact h
  unfold t_law_wrong_rowT
  walk_at "gx"
  refine w_ixL (v := .str n0) (by walk_at "hp") n0i ?_
  walk_at "gx"
  rename_i p1 G1 n1 e1 h1 p2 G2 n2 e2 h2 p3 G3 n3 e3 h3 p4 G4 n4 e4 h4 p5 G5 n5 e5 h5 p6 G6 n6 e6 h6 p7 G7 n7 e7 h7 p8 G8 n8 e8 h8 p9 G9 n9 e9 h9 p10 G10 n10 e10 h10 p11 G11 n11 e11 h11 p12 G12 n12 e12 h12 p13 G13 n13 e13 h13 p14 G14 n14 e14 h14 p15 G15 n15 e15 h15
  have r1 := Rn.mk e1 h1 (.inl n1)
  have s1 := Rn.same (H := H) e1
  have r2 := Rn.mk (e1.trans e2) h2 (.inl (none_of e1 n2))
  have s2 := Rn.same (H := H) e2
  have r3 := Rn.mk (e1.trans (e2.trans e3)) h3 (.inl (none_of (e1.trans e2) n3))
  have s3 := Rn.same (H := H) e3
  have r4 := Rn.mk (e1.trans (e2.trans (e3.trans e4))) h4 (.inl (none_of (e1.trans (e2.trans e3)) n4))
  have s4 := Rn.same (H := H) e4
  have r5 := Rn.mk (e1.trans (e2.trans (e3.trans (e4.trans e5)))) h5 (.inl (none_of (e1.trans (e2.trans (e3.trans e4))) n5))
  have s5 := Rn.same (H := H) e5
  have r6 := Rn.mk (e1.trans (e2.trans (e3.trans (e4.trans (e5.trans e6))))) h6 (.inl (none_of (e1.trans (e2.trans (e3.trans (e4.trans e5)))) n6))
  have s6 := Rn.same (H := H) e6
  have r7 := Rn.mk (e1.trans (e2.trans (e3.trans (e4.trans (e5.trans (e6.trans e7)))))) h7 (.inl (none_of (e1.trans (e2.trans (e3.trans (e4.trans (e5.trans e6))))) n7))
  have s7 := Rn.same (H := H) e7
  have r8 := Rn.mk (e1.trans (e2.trans (e3.trans (e4.trans (e5.trans (e6.trans (e7.trans e8))))))) h8 (.inl (none_of (e1.trans (e2.trans (e3.trans (e4.trans (e5.trans (e6.trans e7)))))) n8))
  have s8 := Rn.same (H := H) e8
  have r9 := Rn.mk (e1.trans (e2.trans (e3.trans (e4.trans (e5.trans (e6.trans (e7.trans (e8.trans e9)))))))) h9 (.inl (none_of (e1.trans (e2.trans (e3.trans (e4.trans (e5.trans (e6.trans (e7.trans e8))))))) n9))
  have s9 := Rn.same (H := H) e9
  have r10 := Rn.mk (e1.trans (e2.trans (e3.trans (e4.trans (e5.trans (e6.trans (e7.trans (e8.trans (e9.trans e10))))))))) h10 (.inl (none_of (e1.trans (e2.trans (e3.trans (e4.trans (e5.trans (e6.trans (e7.trans (e8.trans e9)))))))) n10))
  have s10 := Rn.same (H := H) e10
  have r11 := Rn.mk (e1.trans (e2.trans (e3.trans (e4.trans (e5.trans (e6.trans (e7.trans (e8.trans (e9.trans (e10.trans e11)))))))))) h11 (.inl (none_of (e1.trans (e2.trans (e3.trans (e4.trans (e5.trans (e6.trans (e7.trans (e8.trans (e9.trans e10))))))))) n11))
  have s11 := Rn.same (H := H) e11
  have r12 := Rn.mk (e1.trans (e2.trans (e3.trans (e4.trans (e5.trans (e6.trans (e7.trans (e8.trans (e9.trans (e10.trans (e11.trans e12))))))))))) h12 (.inl (none_of (e1.trans (e2.trans (e3.trans (e4.trans (e5.trans (e6.trans (e7.trans (e8.trans (e9.trans (e10.trans e11)))))))))) n12))
  have s12 := Rn.same (H := H) e12
  have r13 := Rn.mk (e1.trans (e2.trans (e3.trans (e4.trans (e5.trans (e6.trans (e7.trans (e8.trans (e9.trans (e10.trans (e11.trans (e12.trans e13)))))))))))) h13 (.inl (none_of (e1.trans (e2.trans (e3.trans (e4.trans (e5.trans (e6.trans (e7.trans (e8.trans (e9.trans (e10.trans (e11.trans e12))))))))))) n13))
  have s13 := Rn.same (H := H) e13
  have r14 := Rn.mk (e1.trans (e2.trans (e3.trans (e4.trans (e5.trans (e6.trans (e7.trans (e8.trans (e9.trans (e10.trans (e11.trans (e12.trans (e13.trans e14))))))))))))) h14 (.inl (none_of (e1.trans (e2.trans (e3.trans (e4.trans (e5.trans (e6.trans (e7.trans (e8.trans (e9.trans (e10.trans (e11.trans (e12.trans e13)))))))))))) n14))
  have s14 := Rn.same (H := H) e14
  have r15 := Rn.mk (e1.trans (e2.trans (e3.trans (e4.trans (e5.trans (e6.trans (e7.trans (e8.trans (e9.trans (e10.trans (e11.trans (e12.trans (e13.trans (e14.trans e15)))))))))))))) h15 (.inl (none_of (e1.trans (e2.trans (e3.trans (e4.trans (e5.trans (e6.trans (e7.trans (e8.trans (e9.trans (e10.trans (e11.trans (e12.trans (e13.trans e14))))))))))))) n15))
  have s15 := Rn.same (H := H) e15
  obtain ⟨xs8, h8, lx8, bx8⟩ : ∃ xs, G8 p8 = some (.lst xs) ∧ xs.length = 9 ∧ AllBad K (Rn H G8) xs := ⟨_, h8, rfl, (.cons (.form (.odd (.int 5) (by decide))) (.cons (.form (.odd (.str _) (by decide))) (.cons (.form (.odd (.lst (xs := [.str "skip"]) (by walk_at "hp")) (by decide))) (.cons (.form (.emp (by walk_at "hp"))) (.cons (.form (.hd (u := .int 1) (xs := []) (by walk_at "hp") (.int 1) (by decide))) (.cons (.form (.len (s := "jump") (xs := []) (by walk_at "hp") (by decide +kernel))) (.cons (.form (.len (s := "skip") (xs := [.int 1]) (by walk_at "hp") (by decide +kernel))) (.cons (.form (.len (s := "tell") (xs := []) (by walk_at "hp") (by decide +kernel))) (.one (.form (.len (s := "set") (xs := [.str n0]) (by walk_at "hp") (by rw [things_set]; exact (by decide : (3 : Nat) ≠ 2)))))))))))))⟩
  have bn15 : AllBad K (Rn H G15) [.ref p10, .ref p12, .ref p14] := (.cons (.form (.nam (w := .str "A") (u := .ref p9) (by walk_at "hp") (.str _) (st (by decide +kernel)) (by decide +kernel))) (.cons (.form (.nam (w := .str "if") (u := .ref p11) (by walk_at "hp") (.str _) (st (by decide +kernel)) (by decide +kernel))) (.one (.form (.nam (w := .int 7) (u := .ref p13) (by walk_at "hp") (.int 7) si rfl)))))
  have el16 : Same G8 G15 := (e9.trans (e10.trans (e11.trans (e12.trans (e13.trans (e14.trans e15))))))
  refine w_addL' (e15 _ _ (e14 _ _ (e13 _ _ (e12 _ _ (e11 _ _ (e10 _ _ (e9 _ _ h8))))))) h15 (sz (by rw [lx8]; show _ + 3 ≤ _; decide)) (fun p16 G16 n16 e16 h16 => ?_)
  obtain ⟨xs16, h16, lx16, bx16⟩ : ∃ xs, G16 p16 = some (.lst xs) ∧ xs.length = 12 ∧ AllBad K (Rn H G16) xs := ⟨_, h16, by rw [List.length_append, lx8] <;> rfl, AllBad.app (Rn.same (el16.trans e16)) bx8 fun v hv => (bn15 v hv).mono (Rn.same e16)⟩
  have E16 : Same H G16 := (e1.trans (e2.trans (e3.trans (e4.trans (e5.trans (e6.trans (e7.trans e8))))))).trans (el16.trans e16)
  clear bn15 el16 e16 n16 bx8 e1 n1 r1 s1 e2 n2 r2 s2 e3 n3 r3 s3 e4 n4 r4 s4 e5 n5 r5 s5 e6 n6 r6 s6 e7 n7 r7 s7 e8 n8 r8 s8 e9 n9 r9 s9 e10 n10 r10 s10 e11 n11 r11 s11 e12 n12 r12 s12 e13 n13 r13 s13 e14 n14 r14 s14 e15 n15 r15 s15 h1 h2 h3 h4 h5 h6 h7 h8 h9 h10 h11 h12 h13 h14 h15
  walk_at "gx"
  rename_i p17 G17 n17 e17 h17 p18 G18 n18 e18 h18 p19 G19 n19 e19 h19 p20 G20 n20 e20 h20
  have r17 := Rn.mk (E16.trans e17) h17 (.inl (none_of E16 n17))
  have s17 := Rn.same (H := H) e17
  have r18 := Rn.mk (E16.trans (e17.trans e18)) h18 (.inl (none_of (E16.trans e17) n18))
  have s18 := Rn.same (H := H) e18
  have r19 := Rn.mk (E16.trans (e17.trans (e18.trans e19))) h19 (.inl (none_of (E16.trans (e17.trans e18)) n19))
  have s19 := Rn.same (H := H) e19
  have r20 := Rn.mk (E16.trans (e17.trans (e18.trans (e19.trans e20)))) h20 (.inl (none_of (E16.trans (e17.trans (e18.trans e19))) n20))
  have s20 := Rn.same (H := H) e20
  have bn20 : AllBad K (Rn H G20) [.ref p19] := (.one (.form (.len (s := "if") (xs := [.ref p17, .ref p18]) (by walk_at "hp") (by rw [things_ite]; exact (by decide : (4 : Nat) ≠ 3)))))
  have el21 : Same G16 G20 := (e17.trans (e18.trans (e19.trans e20)))
  refine w_addL' (e20 _ _ (e19 _ _ (e18 _ _ (e17 _ _ h16)))) h20 (sz (by rw [lx16]; show _ + 1 ≤ _; decide)) (fun p21 G21 n21 e21 h21 => ?_)
  obtain ⟨xs21, h21, lx21, bx21⟩ : ∃ xs, G21 p21 = some (.lst xs) ∧ xs.length = 13 ∧ AllBad K (Rn H G21) xs := ⟨_, h21, by rw [List.length_append, lx16] <;> rfl, AllBad.app (Rn.same (el21.trans e21)) bx16 fun v hv => (bn20 v hv).mono (Rn.same e21)⟩
  have E21 : Same H G21 := E16.trans (el21.trans e21)
  clear bn20 el21 e21 n21 bx16 e17 n17 r17 s17 e18 n18 r18 s18 e19 n19 r19 s19 e20 n20 r20 s20 h17 h18 h19 h20 E16 h16
  walk_at "gx"
  rename_i p22 G22 n22 e22 h22 p23 G23 n23 e23 h23 p24 G24 n24 e24 h24 p25 G25 n25 e25 h25 p26 G26 n26 e26 h26 p27 G27 n27 e27 h27 p28 G28 n28 e28 h28 p29 G29 n29 e29 h29
  have r22 := Rn.mk (E21.trans e22) h22 (.inl (none_of E21 n22))
  have s22 := Rn.same (H := H) e22
  have r23 := Rn.mk (E21.trans (e22.trans e23)) h23 (.inl (none_of (E21.trans e22) n23))
  have s23 := Rn.same (H := H) e23
  have r24 := Rn.mk (E21.trans (e22.trans (e23.trans e24))) h24 (.inl (none_of (E21.trans (e22.trans e23)) n24))
  have s24 := Rn.same (H := H) e24
  have r25 := Rn.mk (E21.trans (e22.trans (e23.trans (e24.trans e25)))) h25 (.inl (none_of (E21.trans (e22.trans (e23.trans e24))) n25))
  have s25 := Rn.same (H := H) e25
  have r26 := Rn.mk (E21.trans (e22.trans (e23.trans (e24.trans (e25.trans e26))))) h26 (.inl (none_of (E21.trans (e22.trans (e23.trans (e24.trans e25)))) n26))
  have s26 := Rn.same (H := H) e26
  have r27 := Rn.mk (E21.trans (e22.trans (e23.trans (e24.trans (e25.trans (e26.trans e27)))))) h27 (.inl (none_of (E21.trans (e22.trans (e23.trans (e24.trans (e25.trans e26))))) n27))
  have s27 := Rn.same (H := H) e27
  have r28 := Rn.mk (E21.trans (e22.trans (e23.trans (e24.trans (e25.trans (e26.trans (e27.trans e28))))))) h28 (.inl (none_of (E21.trans (e22.trans (e23.trans (e24.trans (e25.trans (e26.trans e27)))))) n28))
  have s28 := Rn.same (H := H) e28
  have r29 := Rn.mk (E21.trans (e22.trans (e23.trans (e24.trans (e25.trans (e26.trans (e27.trans (e28.trans e29)))))))) h29 (.inl (none_of (E21.trans (e22.trans (e23.trans (e24.trans (e25.trans (e26.trans (e27.trans e28))))))) n29))
  have s29 := Rn.same (H := H) e29
  have bn29 : AllBad K (Rn H G29) [.ref p23, .ref p26, .ref p28] := (.cons (.form (.whl (u := .ref p22) (w := .int 5) (by walk_at "hp") (.int 5) (by decide))) (.cons (.form (.ite (u := .ref p24) (a := .ref p25) (b := .str "x") (by walk_at "hp") (.lst (xs := []) (by walk_at "hp")) (.str _) (by decide))) (.one (.form (.whl (u := .ref p27) (w := .non) (by walk_at "hp") .non (by decide))))))
  have el30 : Same G21 G29 := (e22.trans (e23.trans (e24.trans (e25.trans (e26.trans (e27.trans (e28.trans e29)))))))
  refine w_addL' (e29 _ _ (e28 _ _ (e27 _ _ (e26 _ _ (e25 _ _ (e24 _ _ (e23 _ _ (e22 _ _ h21)))))))) h29 (sz (by rw [lx21]; show _ + 3 ≤ _; decide)) (fun p30 G30 n30 e30 h30 => ?_)
  obtain ⟨xs30, h30, lx30, bx30⟩ : ∃ xs, G30 p30 = some (.lst xs) ∧ xs.length = 16 ∧ AllBad K (Rn H G30) xs := ⟨_, h30, by rw [List.length_append, lx21] <;> rfl, AllBad.app (Rn.same (el30.trans e30)) bx21 fun v hv => (bn29 v hv).mono (Rn.same e30)⟩
  have E30 : Same H G30 := E21.trans (el30.trans e30)
  clear bn29 el30 e30 n30 bx21 e22 n22 r22 s22 e23 n23 r23 s23 e24 n24 r24 s24 e25 n25 r25 s25 e26 n26 r26 s26 e27 n27 r27 s27 e28 n28 r28 s28 e29 n29 r29 s29 h22 h23 h24 h25 h26 h27 h28 h29 E21 h21
  walk_at "gx"
  refine w_pow ⟨by decide, by decide, by decide⟩ ?_
  walk_at "gx"
  rename_i p31 G31 n31 e31 h31 p32 G32 n32 e32 h32 p33 G33 n33 e33 h33 p34 G34 n34 e34 h34 p35 G35 n35 e35 h35 p36 G36 n36 e36 h36
  have r31 := Rn.mk (E30.trans e31) h31 (.inl (none_of E30 n31))
  have s31 := Rn.same (H := H) e31
  have r32 := Rn.mk (E30.trans (e31.trans e32)) h32 (.inl (none_of (E30.trans e31) n32))
  have s32 := Rn.same (H := H) e32
  have r33 := Rn.mk (E30.trans (e31.trans (e32.trans e33))) h33 (.inl (none_of (E30.trans (e31.trans e32)) n33))
  have s33 := Rn.same (H := H) e33
  have r34 := Rn.mk (E30.trans (e31.trans (e32.trans (e33.trans e34)))) h34 (.inl (none_of (E30.trans (e31.trans (e32.trans e33))) n34))
  have s34 := Rn.same (H := H) e34
  have r35 := Rn.mk (E30.trans (e31.trans (e32.trans (e33.trans (e34.trans e35))))) h35 (.inl (none_of (E30.trans (e31.trans (e32.trans (e33.trans e34)))) n35))
  have s35 := Rn.same (H := H) e35
  have r36 := Rn.mk (E30.trans (e31.trans (e32.trans (e33.trans (e34.trans (e35.trans e36)))))) h36 (.inl (none_of (E30.trans (e31.trans (e32.trans (e33.trans (e34.trans e35))))) n36))
  have s36 := Rn.same (H := H) e36
  have bn36 : AllBad K (Rn H G36) [.ref p31, .ref p33, .ref p35] := (.cons (.fml (u := .int 5) (.tell (by walk_at "hp")) (by decide) (.odd (.int 5) (by decide))) (.cons (.fml (u := .ref p32) (.tell (by walk_at "hp")) (by decide) (.two (s := "number") (u := .int _) (by walk_at "hp") (.int _) si (by decide +kernel))) (.one (.fml (u := .ref p34) (.tell (by walk_at "hp")) (by decide) (.two (s := "number") (u := .int _) (by walk_at "hp") (.int _) si (by decide +kernel))))))
  have el37 : Same G30 G36 := (e31.trans (e32.trans (e33.trans (e34.trans (e35.trans e36)))))
  refine w_addL' (e36 _ _ (e35 _ _ (e34 _ _ (e33 _ _ (e32 _ _ (e31 _ _ h30)))))) h36 (sz (by rw [lx30]; show _ + 3 ≤ _; decide)) (fun p37 G37 n37 e37 h37 => ?_)
  obtain ⟨xs37, h37, lx37, bx37⟩ : ∃ xs, G37 p37 = some (.lst xs) ∧ xs.length = 19 ∧ AllBad K (Rn H G37) xs := ⟨_, h37, by rw [List.length_append, lx30] <;> rfl, AllBad.app (Rn.same (el37.trans e37)) bx30 fun v hv => (bn36 v hv).mono (Rn.same e37)⟩
  have E37 : Same H G37 := E30.trans (el37.trans e37)
  clear bn36 el37 e37 n37 bx30 e31 n31 r31 s31 e32 n32 r32 s32 e33 n33 r33 s33 e34 n34 r34 s34 e35 n35 r35 s35 e36 n36 r36 s36 h31 h32 h33 h34 h35 h36 E30 h30
  walk_at "gx"
  rename_i p38 G38 n38 e38 h38 p39 G39 n39 e39 h39 p40 G40 n40 e40 h40
  have r38 := Rn.mk (E37.trans e38) h38 (.inl (none_of E37 n38))
  have s38 := Rn.same (H := H) e38
  have r39 := Rn.mk (E37.trans (e38.trans e39)) h39 (.inl (none_of (E37.trans e38) n39))
  have s39 := Rn.same (H := H) e39
  have r40 := Rn.mk (E37.trans (e38.trans (e39.trans e40))) h40 (.inl (none_of (E37.trans (e38.trans e39)) n40))
  have s40 := Rn.same (H := H) e40
  have bn40 : AllBad K (Rn H G40) [.ref p39] := (.one (.fml (u := .ref p38) (.tell (by walk_at "hp")) (by decide) (.two (s := "number") (u := .bl true) (by walk_at "hp") (.bl true) sb (by decide +kernel))))
  have el41 : Same G37 G40 := (e38.trans (e39.trans e40))
  refine w_addL' (e40 _ _ (e39 _ _ (e38 _ _ h37))) h40 (sz (by rw [lx37]; show _ + 1 ≤ _; decide)) (fun p41 G41 n41 e41 h41 => ?_)
  obtain ⟨xs41, h41, lx41, bx41⟩ : ∃ xs, G41 p41 = some (.lst xs) ∧ xs.length = 20 ∧ AllBad K (Rn H G41) xs := ⟨_, h41, by rw [List.length_append, lx37] <;> rfl, AllBad.app (Rn.same (el41.trans e41)) bx37 fun v hv => (bn40 v hv).mono (Rn.same e41)⟩
  have E41 : Same H G41 := E37.trans (el41.trans e41)
  clear bn40 el41 e41 n41 bx37 e38 n38 r38 s38 e39 n39 r39 s39 e40 n40 r40 s40 h38 h39 h40 E37 h37
  walk_at "gx"
  rename_i p42 G42 n42 e42 h42 p43 G43 n43 e43 h43 p44 G44 n44 e44 h44 p45 G45 n45 e45 h45 p46 G46 n46 e46 h46
  have r42 := Rn.mk (E41.trans e42) h42 (.inl (none_of E41 n42))
  have s42 := Rn.same (H := H) e42
  have r43 := Rn.mk (E41.trans (e42.trans e43)) h43 (.inl (none_of (E41.trans e42) n43))
  have s43 := Rn.same (H := H) e43
  have r44 := Rn.mk (E41.trans (e42.trans (e43.trans e44))) h44 (.inl (none_of (E41.trans (e42.trans e43)) n44))
  have s44 := Rn.same (H := H) e44
  have r45 := Rn.mk (E41.trans (e42.trans (e43.trans (e44.trans e45)))) h45 (.inl (none_of (E41.trans (e42.trans (e43.trans e44))) n45))
  have s45 := Rn.same (H := H) e45
  have r46 := Rn.mk (E41.trans (e42.trans (e43.trans (e44.trans (e45.trans e46))))) h46 (.inl (none_of (E41.trans (e42.trans (e43.trans (e44.trans e45)))) n46))
  have s46 := Rn.same (H := H) e46
  have bn46 : AllBad K (Rn H G46) [.ref p43, .ref p45] := (.cons (.fml (u := .ref p42) (.tell (by walk_at "hp")) (by decide) (.two (s := "name") (u := .str "9a") (by walk_at "hp") (.str _) (st (by decide +kernel)) (by decide +kernel))) (.one (.fml (u := .ref p44) (.tell (by walk_at "hp")) (by decide) (.two (s := "name") (u := .str "abcdefghi") (by walk_at "hp") (.str _) (st (by decide +kernel)) (by decide +kernel)))))
  have el47 : Same G41 G46 := (e42.trans (e43.trans (e44.trans (e45.trans e46))))
  refine w_addL' (e46 _ _ (e45 _ _ (e44 _ _ (e43 _ _ (e42 _ _ h41))))) h46 (sz (by rw [lx41]; show _ + 2 ≤ _; decide)) (fun p47 G47 n47 e47 h47 => ?_)
  obtain ⟨xs47, h47, lx47, bx47⟩ : ∃ xs, G47 p47 = some (.lst xs) ∧ xs.length = 22 ∧ AllBad K (Rn H G47) xs := ⟨_, h47, by rw [List.length_append, lx41] <;> rfl, AllBad.app (Rn.same (el47.trans e47)) bx41 fun v hv => (bn46 v hv).mono (Rn.same e47)⟩
  have E47 : Same H G47 := E41.trans (el47.trans e47)
  clear bn46 el47 e47 n47 bx41 e42 n42 r42 s42 e43 n43 r43 s43 e44 n44 r44 s44 e45 n45 r45 s45 e46 n46 r46 s46 h42 h43 h44 h45 h46 E41 h41
  walk_at "gx"
  rename_i p48 G48 n48 e48 h48 p49 G49 n49 e49 h49 p50 G50 n50 e50 h50 p51 G51 n51 e51 h51 p52 G52 n52 e52 h52 p53 G53 n53 e53 h53 p54 G54 n54 e54 h54 p55 G55 n55 e55 h55
  have r48 := Rn.mk (E47.trans e48) h48 (.inl (none_of E47 n48))
  have s48 := Rn.same (H := H) e48
  have r49 := Rn.mk (E47.trans (e48.trans e49)) h49 (.inl (none_of (E47.trans e48) n49))
  have s49 := Rn.same (H := H) e49
  have r50 := Rn.mk (E47.trans (e48.trans (e49.trans e50))) h50 (.inl (none_of (E47.trans (e48.trans e49)) n50))
  have s50 := Rn.same (H := H) e50
  have r51 := Rn.mk (E47.trans (e48.trans (e49.trans (e50.trans e51)))) h51 (.inl (none_of (E47.trans (e48.trans (e49.trans e50))) n51))
  have s51 := Rn.same (H := H) e51
  have r52 := Rn.mk (E47.trans (e48.trans (e49.trans (e50.trans (e51.trans e52))))) h52 (.inl (none_of (E47.trans (e48.trans (e49.trans (e50.trans e51)))) n52))
  have s52 := Rn.same (H := H) e52
  have r53 := Rn.mk (E47.trans (e48.trans (e49.trans (e50.trans (e51.trans (e52.trans e53)))))) h53 (.inl (none_of (E47.trans (e48.trans (e49.trans (e50.trans (e51.trans e52))))) n53))
  have s53 := Rn.same (H := H) e53
  have r54 := Rn.mk (E47.trans (e48.trans (e49.trans (e50.trans (e51.trans (e52.trans (e53.trans e54))))))) h54 (.inl (none_of (E47.trans (e48.trans (e49.trans (e50.trans (e51.trans (e52.trans e53)))))) n54))
  have s54 := Rn.same (H := H) e54
  have r55 := Rn.mk (E47.trans (e48.trans (e49.trans (e50.trans (e51.trans (e52.trans (e53.trans (e54.trans e55)))))))) h55 (.inl (none_of (E47.trans (e48.trans (e49.trans (e50.trans (e51.trans (e52.trans (e53.trans e54))))))) n55))
  have s55 := Rn.same (H := H) e55
  have bn55 : AllBad K (Rn H G55) [.ref p51, .ref p54] := (.cons (.fml (u := .ref p50) (.tell (by walk_at "hp")) (by decide) (.sign (s := "!") (a := .ref p48) (b := .ref p49) (by walk_at "hp") (by decide +kernel))) (.one (.fml (u := .ref p53) (.tell (by walk_at "hp")) (by decide) (.two (s := "+") (u := .ref p52) (by walk_at "hp") (.tup (xs := [.str "number", .int 1]) (by walk_at "hp")) sr (endB_no (by decide +kernel) (by decide +kernel))))))
  have el56 : Same G47 G55 := (e48.trans (e49.trans (e50.trans (e51.trans (e52.trans (e53.trans (e54.trans e55)))))))
  refine w_addL' (e55 _ _ (e54 _ _ (e53 _ _ (e52 _ _ (e51 _ _ (e50 _ _ (e49 _ _ (e48 _ _ h47)))))))) h55 (sz (by rw [lx47]; show _ + 2 ≤ _; decide)) (fun p56 G56 n56 e56 h56 => ?_)
  obtain ⟨xs56, h56, lx56, bx56⟩ : ∃ xs, G56 p56 = some (.lst xs) ∧ xs.length = 24 ∧ AllBad K (Rn H G56) xs := ⟨_, h56, by rw [List.length_append, lx47] <;> rfl, AllBad.app (Rn.same (el56.trans e56)) bx47 fun v hv => (bn55 v hv).mono (Rn.same e56)⟩
  have E56 : Same H G56 := E47.trans (el56.trans e56)
  clear bn55 el56 e56 n56 bx47 e48 n48 r48 s48 e49 n49 r49 s49 e50 n50 r50 s50 e51 n51 r51 s51 e52 n52 r52 s52 e53 n53 r53 s53 e54 n54 r54 s54 e55 n55 r55 s55 h48 h49 h50 h51 h52 h53 h54 h55 E47 h47
  walk_at "gx"
  rename_i p57 G57 n57 e57 h57 p58 G58 n58 e58 h58 p59 G59 n59 e59 h59 p60 G60 n60 e60 h60 p61 G61 n61 e61 h61 p62 G62 n62 e62 h62 p63 G63 n63 e63 h63
  have r57 := Rn.mk (E56.trans e57) h57 (.inl (none_of E56 n57))
  have s57 := Rn.same (H := H) e57
  have r58 := Rn.mk (E56.trans (e57.trans e58)) h58 (.inl (none_of (E56.trans e57) n58))
  have s58 := Rn.same (H := H) e58
  have r59 := Rn.mk (E56.trans (e57.trans (e58.trans e59))) h59 (.inl (none_of (E56.trans (e57.trans e58)) n59))
  have s59 := Rn.same (H := H) e59
  have r60 := Rn.mk (E56.trans (e57.trans (e58.trans (e59.trans e60)))) h60 (.inl (none_of (E56.trans (e57.trans (e58.trans e59))) n60))
  have s60 := Rn.same (H := H) e60
  have r61 := Rn.mk (E56.trans (e57.trans (e58.trans (e59.trans (e60.trans e61))))) h61 (.inl (none_of (E56.trans (e57.trans (e58.trans (e59.trans e60)))) n61))
  have s61 := Rn.same (H := H) e61
  have r62 := Rn.mk (E56.trans (e57.trans (e58.trans (e59.trans (e60.trans (e61.trans e62)))))) h62 (.inl (none_of (E56.trans (e57.trans (e58.trans (e59.trans (e60.trans e61))))) n62))
  have s62 := Rn.same (H := H) e62
  have r63 := Rn.mk (E56.trans (e57.trans (e58.trans (e59.trans (e60.trans (e61.trans (e62.trans e63))))))) h63 (.inl (none_of (E56.trans (e57.trans (e58.trans (e59.trans (e60.trans (e61.trans e62)))))) n63))
  have s63 := Rn.same (H := H) e63
  have bn63 : AllBad K (Rn H G63) [.ref p58, .ref p60, .ref p62] := (.cons (.fml (u := .ref p57) (.tell (by walk_at "hp")) (by decide) (.odd (.lst (xs := [.str "number", .int 1]) (by walk_at "hp")) (by decide))) (.cons (.fml (u := .ref p59) (.tell (by walk_at "hp")) (by decide) (.two (s := "name") (u := .str "end") (by walk_at "hp") (.str _) (st (by decide +kernel)) (by decide +kernel))) (.one (.fml (u := .ref p61) (.tell (by walk_at "hp")) (by decide) (.two (s := "name") (u := .str "") (by walk_at "hp") (.str _) (st (by decide +kernel)) (by decide +kernel))))))
  have el64 : Same G56 G63 := (e57.trans (e58.trans (e59.trans (e60.trans (e61.trans (e62.trans e63))))))
  refine w_addL' (e63 _ _ (e62 _ _ (e61 _ _ (e60 _ _ (e59 _ _ (e58 _ _ (e57 _ _ h56))))))) h63 (sz (by rw [lx56]; show _ + 3 ≤ _; decide)) (fun p64 G64 n64 e64 h64 => ?_)
  obtain ⟨xs64, h64, lx64, bx64⟩ : ∃ xs, G64 p64 = some (.lst xs) ∧ xs.length = 27 ∧ AllBad K (Rn H G64) xs := ⟨_, h64, by rw [List.length_append, lx56] <;> rfl, AllBad.app (Rn.same (el64.trans e64)) bx56 fun v hv => (bn63 v hv).mono (Rn.same e64)⟩
  have E64 : Same H G64 := E56.trans (el64.trans e64)
  clear bn63 el64 e64 n64 bx56 e57 n57 r57 s57 e58 n58 r58 s58 e59 n59 r59 s59 e60 n60 r60 s60 e61 n61 r61 s61 e62 n62 r62 s62 e63 n63 r63 s63 h57 h58 h59 h60 h61 h62 h63 E56 h56
  walk_at "gx"
  have m := mod_in c (show (0 : Int) < 27 by decide)
  obtain ⟨j, hj⟩ := Int.eq_ofNat_of_zero_le m.1
  have jl : j < xs64.length := by omega
  rw [show c % 27 = ((j : Nat) : Int) from hj]
  refine w_ixL (SqL.of h64) (atI_nat (List.getElem?_eq_getElem jl)) ?_
  exact q _ _ E64 (bx64 _ (List.getElem_mem jl))
mutual
theorem dp_mono {K : PySem.W.Frag} {H H' : Hp} (e : Same H H') : ∀ {v : V} {d : PyData}, Dp K H v d → Dp K H' v d
  | _, _, .non => .non
  | _, _, .bl b => .bl b
  | _, _, .int i => .int i
  | _, _, .str x => .str x
  | _, _, .lst h a => .lst (same_l e h) (dpall_mono e a)
  | _, _, .tup h a => .tup (same_t e h) (dpall_mono e a)
theorem dpall_mono {K : PySem.W.Frag} {H H' : Hp} (e : Same H H') : ∀ {vs : List V} {ds : List PyData}, DpAll K H vs ds → DpAll K H' vs ds
  | _, _, .nil => .nil
  | _, _, .cons h t => .cons (dp_mono e h) (dpall_mono e t)
end
def dA (fd : PyData) : PyData := .tuple [.str "if", fd, .list [], .str "x"]
def dB (fd : PyData) : PyData := .tuple [.str "while", fd, .none]
/-- a row with something wrong, and the word of its refusal; fd: the deep chain's data -/
def Itm (K : PySem.W.Frag) (H : Hp) (fd : PyData) (q : V) : Prop := ∃ (p a : Addr) (s x : Str) (xs : List V) (d : PyData), q = .ref p ∧ SqT K H p [.ref a, .str (wordX x)] ∧ BadRow K H (.ref a) 1 x ∧ SqT K H a (.str s :: xs) ∧ Dp K H (.ref a) d ∧ Dk d 60 ∧
  ((∃ o ps, RowF K H (.ref a) o ps) ∨ ((s = "tell" ∧ xs.length ≠ 1) ∨ s = "set") ∨ d = dA fd ∨ d = dB fd)
theorem Itm.mono {K : PySem.W.Frag} {H H' : Hp} (e : Same H H') {fd : PyData} {q : V} (h : Itm K H fd q) : Itm K H' fd q := by
  obtain ⟨p, a, s, x, xs, d, h1, h2, h3, h4, h5, h6, h7⟩ := h
  exact ⟨p, a, s, x, xs, d, h1, same_t e h2, h3.mono e, same_t e h4, dp_mono e h5, h6, h7.imp (fun ⟨o, ps, h⟩ => ⟨o, ps, h.mono e⟩) id⟩
abbrev AllI (K : PySem.W.Frag) (H : Hp) (fd : PyData) (xs : List V) : Prop := ∀ v ∈ xs, Itm K H fd v
theorem AllI.app {K : PySem.W.Frag} {H H' : Hp} {fd : PyData} {xs ys : List V} (e : Same H H') (h : AllI K H fd xs) (g : AllI K H' fd ys) : AllI K H' fd (xs ++ ys) := fun v hv => (List.mem_append.mp hv).elim (fun m => (h v m).mono e) (g v)
theorem AllI.one {K : PySem.W.Frag} {H : Hp} {fd : PyData} {v : V} (h : Itm K H fd v) : AllI K H fd [v] := fun u hu => by rw [List.mem_singleton.mp hu]; exact h
theorem AllI.cons {K : PySem.W.Frag} {H : Hp} {fd : PyData} {v : V} {xs : List V} (h : Itm K H fd v) (g : AllI K H fd xs) : AllI K H fd (v :: xs) := fun u hu => (List.mem_cons.mp hu).elim (fun e => e ▸ h) (g u)
theorem itm {K : PySem.W.Frag} {H : Hp} {fd : PyData} {p a : Addr} {s w x : Str} {xs : List V} {d : PyData} (hw : wordX x = w) (h1 : SqT K H p [.ref a, .str w]) (h2 : BadRow K H (.ref a) 1 x) (h3 : SqT K H a (.str s :: xs)) (h4 : Dp K H (.ref a) d) (h5 : Dk d 60)
    (h6 : (∃ o ps, RowF K H (.ref a) o ps) ∨ ((s = "tell" ∧ xs.length ≠ 1) ∨ s = "set") ∨ d = dA fd ∨ d = dB fd) : Itm K H fd (.ref p) := ⟨p, a, s, x, xs, d, rfl, by rw [hw]; exact h1, h2, h3, h4, h5, h6⟩
def sp_law_twoT (K : PySem.W.Frag) : Sp := fun vs H Q _ => ∃ c : Int, vs = [.int c] ∧ ∀ (p : Addr) (v : V) (x : Str) (H' : Hp), Same H H' → SqT K H' p [v, .str (wordX x)] → BadRow K (Rn H H') v 1 x → Q (.ref p) H'
/-- the 5 under many products -/
structure EndAt (K : PySem.W.Frag) (H : Hp) (v : V) (k : Nat) (d : PyData) : Prop where
  bad : ∀ l, l ≤ k → BadF K H v l "TooDeep"
  dp : Dp K H v d
  dk : Dk d (k + 1)
theorem EndAt.mono {K : PySem.W.Frag} {H H' : Hp} (e : Same H H') {v : V} {k : Nat} {d : PyData} (h : EndAt K H v k d) : EndAt K H' v k d := ⟨fun l hl => (h.bad l hl).mono e, dp_mono e h.dp, h.dk⟩
theorem nest_dp {K : PySem.W.Frag} {H : Hp} {p : Addr} {w : V} {r : Rw} (hp : H p = some (.lst [w])) (hr : RwAt K (SE K) H w r) (rt : r.rt) (hn : r.nest = 12) : ∃ d, Dp K H (.ref p) d ∧ Dk d 37 := by
  obtain ⟨h1, h2⟩ := rt_ok rt
  obtain ⟨d, ds, a, b⟩ := RwAt.dpE h2 hr h1
  exact ⟨.list [.tuple (d :: ds)], .lst (SqL.of hp) (.cons a .nil), (Dk.list (dk_cons (b.mono (by omega)) dk_nil) : Dk _ (36 + 1))⟩
abbrev N_law_twoT : List Str := ["_law_cell", "_law_deep", "_law_some", "_law_end", "_law_k", "_law_found", "_law_row"]
noncomputable def t_law_twoT_j1 (K : PySem.W.Frag) : TS :=
  (tRet (tVar 5))
noncomputable def t_law_twoT (K : PySem.W.Frag) : TS :=
  (tSeq (tAsg (tF (sp_law_chainT K) (tCons (tC (.str "a")) (tCons (tC (.int 13)) tNil))) (gName 1)) (tSeq (tAsg (tLst (tCons (tTup (tCons (tTup (tCons (tC (.str "while")) (tCons (tC (.int 5)) (tCons (tF (sp_law_nestedT K) (tCons (tC (.int 12)) tNil)) tNil)))) (tCons (tC (.str "row")) tNil))) (tCons (tTup (tCons (tTup (tCons (tC (.str "while")) (tCons (tVar 1) (tCons (tLst (tCons (tC (.int 5)) tNil)) tNil)))) (tCons (tC (.str "deep")) tNil))) (tCons (tTup (tCons (tTup (tCons (tC (.str "if")) (tCons (tVar 1) (tCons (tLst tNil) (tCons (tC (.str "x")) tNil))))) (tCons (tC (.str "row")) tNil))) tNil)))) (gName 2)) (tSeq (tAsg (tOp (rAdd K) (tVar 2) (tLst (tCons (tTup (tCons (tTup (tCons (tC (.str "tell")) (tCons (tTup (tCons (tC (.str "+")) (tCons (tVar 1) (tCons (tC (.int 5)) tNil)))) tNil))) (tCons (tC (.str "deep")) tNil))) (tCons (tTup (tCons (tTup (tCons (tC (.str "tell")) (tCons (tTup (tCons (tC (.str "+")) (tCons (tC (.int 5)) (tCons (tVar 1) tNil)))) tNil))) (tCons (tC (.str "row")) tNil))) (tCons (tTup (tCons (tTup (tCons (tC (.str "set")) (tCons (tC (.str "A")) (tCons (tVar 1) tNil)))) (tCons (tC (.str "row")) tNil))) tNil))))) (gName 2)) (tSeq (tAsg (tOp (rAdd K) (tVar 2) (tLst (tCons (tTup (tCons (tTup (tCons (tC (.str "if")) (tCons (tTup (tCons (tC (.str "number")) (tCons (tC (.int 1)) tNil))) (tCons (tLst (tCons (tTup (tCons (tC (.str "tell")) (tCons (tC (.int 5)) tNil))) tNil)) (tCons (tF (sp_law_nestedT K) (tCons (tC (.int 12)) tNil)) tNil))))) (tCons (tC (.str "row")) tNil))) (tCons (tTup (tCons (tTup (tCons (tC (.str "while")) (tCons (tVar 1) (tCons (tC .non) tNil)))) (tCons (tC (.str "row")) tNil))) tNil)))) (gName 2)) (tSeq (tAsg (tOp (rAdd K) (tVar 2) (tLst (tCons (tTup (tCons (tTup (tCons (tC (.str "if")) (tCons (tTup (tCons (tC (.str "number")) (tCons (tC (.int 1)) tNil))) (tCons (tF (sp_law_nestedT K) (tCons (tC (.int 12)) tNil)) (tCons (tLst (tCons (tC (.int 5)) tNil)) tNil))))) (tCons (tC (.str "deep")) tNil))) (tCons (tTup (tCons (tTup (tCons (tC (.str "tell")) (tCons (tVar 1) (tCons (tC (.int 5)) tNil)))) (tCons (tC (.str "row")) tNil))) tNil)))) (gName 2)) (tSeq (tAsg (tC (.int 5)) (gName 3)) (tSeq (tFor (iRng1 (tCons (tC (.int 12)) tNil)) (gName 4) (tAsg (tTup (tCons (tC (.str "*")) (tCons (tTup (tCons (tC (.str "number")) (tCons (tC (.int 1)) tNil))) (tCons (tVar 3) tNil)))) (gName 3))) (tSeq (tAsg (tOp (rAdd K) (tVar 2) (tLst (tCons (tTup (tCons (tTup (tCons (tC (.str "tell")) (tCons (tVar 3) tNil))) (tCons (tC (.str "deep")) tNil))) (tCons (tTup (tCons (tTup (tCons (tC (.str "tell")) (tCons (tTup (tCons (tC (.str "+")) (tCons (tVar 3) (tCons (tVar 1) tNil)))) tNil))) (tCons (tC (.str "deep")) tNil))) tNil)))) (gName 2)) (tSeq (tAsg (tOp (rAdd K) (tVar 2) (tLst (tCons (tTup (tCons (tTup (tCons (tC (.str "tell")) (tCons (tTup (tCons (tC (.str "-")) (tCons (tTup (tCons (tC (.str "!")) (tCons (tVar 1) (tCons (tC (.int 1)) tNil)))) (tCons (tC (.int 5)) tNil)))) tNil))) (tCons (tC (.str "row")) tNil))) tNil))) (gName 2)) (tSeq (tAsg (tOp (rIx K) (tVar 2) (tOp rMod (tVar 0) (tC (.int 13)))) (gName 5)) (tSeq (tIfS (tAnd (tTest (tOp (rEq2 K) (tOp rMod (tOp rDiv (tVar 0) (tC (.int 13))) (tC (.int 3))) (tC (.int 1)))) (tAnd (tTest (tOp (rNe2 K) (tOp (rIx K) (tVar 5) (tC (.int 0))) (tTup (tCons (tC (.str "if")) (tCons (tVar 1) (tCons (tLst tNil) (tCons (tC (.str "x")) tNil))))))) (tTest (tOp (rNe2 K) (tOp (rIx K) (tVar 5) (tC (.int 0))) (tTup (tCons (tC (.str "while")) (tCons (tVar 1) (tCons (tC .non) tNil)))))))) (tSeq (tAsg (tOp (rIx K) (tVar 5) (tC (.int 0))) (gName 6)) (tIfS (tOr (tAnd (tTest (tOp (rEq2 K) (tOp (rIx K) (tVar 6) (tC (.int 0))) (tC (.str "tell")))) (tTest (tOp (rEq2 K) (tCB (rLenA K) (tCons (tVar 6) tNil)) (tC (.int 2))))) (tOr (tTest (tOp (rEq2 K) (tOp (rIx K) (tVar 6) (tC (.int 0))) (tC (.str "while")))) (tTest (tOp (rEq2 K) (tOp (rIx K) (tVar 6) (tC (.int 0))) (tC (.str "if")))))) (tSeq (tFor (iRng1 (tCons (tC (.int 8)) tNil)) (gName 4) (tAsg (tTup (tCons (tC (.str "while")) (tCons (tTup (tCons (tC (.str "number")) (tCons (tC (.int 0)) tNil))) (tCons (tLst (tCons (tVar 6) tNil)) tNil)))) (gName 6))) (tRet (tTup (tCons (tVar 6) (tCons (tC (.str "deep")) tNil))))) tNext)) tNext) (t_law_twoT_j1 K))))))))))))
theorem pure_law_twoT (K : PySem.W.Frag) (vs : List V) (H : Hp) (Q : VK) (E : XK) (h : sp_law_twoT K vs H Q E) :
    t_law_twoT K { nx := fun _ H' => Q .non H', rt := Q } (start N_law_twoT vs) H := by
  obtain ⟨c, rfl, q⟩ := h
  have si : ∀ {i : Int}, ShortV (.int i) := fun x e => nomatch e
  have st : ∀ {s : Str}, s.length ≤ 1000000 → ShortV (.str s) := fun h x e => by cases e; exact h
  have wr : wordX "NoRow" = "row" := by decide +kernel
  have wd : wordX "TooDeep" = "deep" := by decide +kernel
  have ks : ∀ {s : Str} {k : Nat}, PyData.strOk s = true → Dk (.str s) k := fun h => Dk.str h
  unfold t_law_twoT
  walk_at "gx"
  refine ⟨"a", 13, rfl, nm_iff.mp (by decide +kernel), by decide, by decide, fun vd f G0 e0 hf0 rt hd ev => ?_⟩
  obtain ⟨pd, rfl⟩ := ev
  have hg0 : FmAt K (Rn H G0) (.ref pd) f := hf0.monoT (Rn.T e0)
  clear hf0
  have fk : Dk f.pd 13 := by
    obtain ⟨a1, a2⟩ := Fm.rt_ok rt
    have := Fm.dk a2 a1
    rw [hd] at this
    exact this
  walk_at "gx"
  refine ⟨12, rfl, by decide, by decide, fun p1 w1 x1 G1 e1 np1 h1 hR1 rt1 nn1 nz1 => ?_⟩
  have hr1 := hR1.monoE (Rn.sub e0)
  have r1 := Rn.mk (e0.trans (e1)) h1 (.inl (none_of e0 np1))
  have s1 := Rn.same (H := H) e1
  clear hR1 np1
  obtain ⟨dn1, dp1, dk1⟩ := nest_dp r1 hr1 rt1 nn1
  walk_at "gx"
  rename_i p2 G2 n2 e2 h2 p3 G3 n3 e3 h3 p4 G4 n4 e4 h4 p5 G5 n5 e5 h5 p6 G6 n6 e6 h6 p7 G7 n7 e7 h7 p8 G8 n8 e8 h8 p9 G9 n9 e9 h9 p10 G10 n10 e10 h10 p11 G11 n11 e11 h11 p12 G12 n12 e12 h12 p13 G13 n13 e13 h13 p14 G14 n14 e14 h14 p15 G15 n15 e15 h15 p16 G16 n16 e16 h16 p17 G17 n17 e17 h17 p18 G18 n18 e18 h18 p19 G19 n19 e19 h19
  have r2 := Rn.mk (e0.trans ((e1.trans e2))) h2 (.inl (none_of (e0.trans (e1)) n2))
  have s2 := Rn.same (H := H) e2
  have r3 := Rn.mk (e0.trans ((e1.trans (e2.trans e3)))) h3 (.inl (none_of (e0.trans ((e1.trans e2))) n3))
  have s3 := Rn.same (H := H) e3
  have r4 := Rn.mk (e0.trans ((e1.trans (e2.trans (e3.trans e4))))) h4 (.inl (none_of (e0.trans ((e1.trans (e2.trans e3)))) n4))
  have s4 := Rn.same (H := H) e4
  have r5 := Rn.mk (e0.trans ((e1.trans (e2.trans (e3.trans (e4.trans e5)))))) h5 (.inl (none_of (e0.trans ((e1.trans (e2.trans (e3.trans e4))))) n5))
  have s5 := Rn.same (H := H) e5
  have r6 := Rn.mk (e0.trans ((e1.trans (e2.trans (e3.trans (e4.trans (e5.trans e6))))))) h6 (.inl (none_of (e0.trans ((e1.trans (e2.trans (e3.trans (e4.trans e5)))))) n6))
  have s6 := Rn.same (H := H) e6
  have r7 := Rn.mk (e0.trans ((e1.trans (e2.trans (e3.trans (e4.trans (e5.trans (e6.trans e7)))))))) h7 (.inl (none_of (e0.trans ((e1.trans (e2.trans (e3.trans (e4.trans (e5.trans e6))))))) n7))
  have s7 := Rn.same (H := H) e7
  have r8 := Rn.mk (e0.trans ((e1.trans (e2.trans (e3.trans (e4.trans (e5.trans (e6.trans (e7.trans e8))))))))) h8 (.inl (none_of (e0.trans ((e1.trans (e2.trans (e3.trans (e4.trans (e5.trans (e6.trans e7)))))))) n8))
  have s8 := Rn.same (H := H) e8
  have r9 := Rn.mk (e0.trans ((e1.trans (e2.trans (e3.trans (e4.trans (e5.trans (e6.trans (e7.trans (e8.trans e9)))))))))) h9 (.inl (none_of (e0.trans ((e1.trans (e2.trans (e3.trans (e4.trans (e5.trans (e6.trans (e7.trans e8))))))))) n9))
  have s9 := Rn.same (H := H) e9
  have r10 := Rn.mk (e0.trans ((e1.trans (e2.trans (e3.trans (e4.trans (e5.trans (e6.trans (e7.trans (e8.trans (e9.trans e10))))))))))) h10 (.inl (none_of (e0.trans ((e1.trans (e2.trans (e3.trans (e4.trans (e5.trans (e6.trans (e7.trans (e8.trans e9)))))))))) n10))
  have s10 := Rn.same (H := H) e10
  have r11 := Rn.mk (e0.trans ((e1.trans (e2.trans (e3.trans (e4.trans (e5.trans (e6.trans (e7.trans (e8.trans (e9.trans (e10.trans e11)))))))))))) h11 (.inl (none_of (e0.trans ((e1.trans (e2.trans (e3.trans (e4.trans (e5.trans (e6.trans (e7.trans (e8.trans (e9.trans e10))))))))))) n11))
  have s11 := Rn.same (H := H) e11
  have r12 := Rn.mk (e0.trans ((e1.trans (e2.trans (e3.trans (e4.trans (e5.trans (e6.trans (e7.trans (e8.trans (e9.trans (e10.trans (e11.trans e12))))))))))))) h12 (.inl (none_of (e0.trans ((e1.trans (e2.trans (e3.trans (e4.trans (e5.trans (e6.trans (e7.trans (e8.trans (e9.trans (e10.trans e11)))))))))))) n12))
  have s12 := Rn.same (H := H) e12
  have r13 := Rn.mk (e0.trans ((e1.trans (e2.trans (e3.trans (e4.trans (e5.trans (e6.trans (e7.trans (e8.trans (e9.trans (e10.trans (e11.trans (e12.trans e13)))))))))))))) h13 (.inl (none_of (e0.trans ((e1.trans (e2.trans (e3.trans (e4.trans (e5.trans (e6.trans (e7.trans (e8.trans (e9.trans (e10.trans (e11.trans e12))))))))))))) n13))
  have s13 := Rn.same (H := H) e13
  have r14 := Rn.mk (e0.trans ((e1.trans (e2.trans (e3.trans (e4.trans (e5.trans (e6.trans (e7.trans (e8.trans (e9.trans (e10.trans (e11.trans (e12.trans (e13.trans e14))))))))))))))) h14 (.inl (none_of (e0.trans ((e1.trans (e2.trans (e3.trans (e4.trans (e5.trans (e6.trans (e7.trans (e8.trans (e9.trans (e10.trans (e11.trans (e12.trans e13)))))))))))))) n14))
  have s14 := Rn.same (H := H) e14
  have r15 := Rn.mk (e0.trans ((e1.trans (e2.trans (e3.trans (e4.trans (e5.trans (e6.trans (e7.trans (e8.trans (e9.trans (e10.trans (e11.trans (e12.trans (e13.trans (e14.trans e15)))))))))))))))) h15 (.inl (none_of (e0.trans ((e1.trans (e2.trans (e3.trans (e4.trans (e5.trans (e6.trans (e7.trans (e8.trans (e9.trans (e10.trans (e11.trans (e12.trans (e13.trans e14))))))))))))))) n15))
  have s15 := Rn.same (H := H) e15
  have r16 := Rn.mk (e0.trans ((e1.trans (e2.trans (e3.trans (e4.trans (e5.trans (e6.trans (e7.trans (e8.trans (e9.trans (e10.trans (e11.trans (e12.trans (e13.trans (e14.trans (e15.trans e16))))))))))))))))) h16 (.inl (none_of (e0.trans ((e1.trans (e2.trans (e3.trans (e4.trans (e5.trans (e6.trans (e7.trans (e8.trans (e9.trans (e10.trans (e11.trans (e12.trans (e13.trans (e14.trans e15)))))))))))))))) n16))
  have s16 := Rn.same (H := H) e16
  have r17 := Rn.mk (e0.trans ((e1.trans (e2.trans (e3.trans (e4.trans (e5.trans (e6.trans (e7.trans (e8.trans (e9.trans (e10.trans (e11.trans (e12.trans (e13.trans (e14.trans (e15.trans (e16.trans e17)))))))))))))))))) h17 (.inl (none_of (e0.trans ((e1.trans (e2.trans (e3.trans (e4.trans (e5.trans (e6.trans (e7.trans (e8.trans (e9.trans (e10.trans (e11.trans (e12.trans (e13.trans (e14.trans (e15.trans e16))))))))))))))))) n17))
  have s17 := Rn.same (H := H) e17
  have r18 := Rn.mk (e0.trans ((e1.trans (e2.trans (e3.trans (e4.trans (e5.trans (e6.trans (e7.trans (e8.trans (e9.trans (e10.trans (e11.trans (e12.trans (e13.trans (e14.trans (e15.trans (e16.trans (e17.trans e18))))))))))))))))))) h18 (.inl (none_of (e0.trans ((e1.trans (e2.trans (e3.trans (e4.trans (e5.trans (e6.trans (e7.trans (e8.trans (e9.trans (e10.trans (e11.trans (e12.trans (e13.trans (e14.trans (e15.trans (e16.trans e17)))))))))))))))))) n18))
  have s18 := Rn.same (H := H) e18
  have r19 := Rn.mk (e0.trans ((e1.trans (e2.trans (e3.trans (e4.trans (e5.trans (e6.trans (e7.trans (e8.trans (e9.trans (e10.trans (e11.trans (e12.trans (e13.trans (e14.trans (e15.trans (e16.trans (e17.trans (e18.trans e19)))))))))))))))))))) h19 (.inl (none_of (e0.trans ((e1.trans (e2.trans (e3.trans (e4.trans (e5.trans (e6.trans (e7.trans (e8.trans (e9.trans (e10.trans (e11.trans (e12.trans (e13.trans (e14.trans (e15.trans (e16.trans (e17.trans e18))))))))))))))))))) n19))
  have s19 := Rn.same (H := H) e19
  have dq1 := dp_mono (s2.trans (s3.trans (s4.trans (s5.trans (s6.trans (s7.trans (s8.trans (s9.trans s10)))))))) dp1
  have hq1 : SE K (Rn H G10) p1 [w1] := .inl (SqL.of ((s2.trans (s3.trans (s4.trans (s5.trans (s6.trans (s7.trans (s8.trans (s9.trans s10)))))))) _ _ r1))
  have hfl : FmAt K (Rn H G10) (.ref pd) f := by walk_at "hp"
  obtain ⟨xs10, h10, lx10, bx10⟩ : ∃ xs, G10 p10 = some (.lst xs) ∧ xs.length = 3 ∧ AllI K (Rn H G10) f.pd xs := ⟨_, h10, rfl, (.cons (itm (s := "while") (xs := [.int 5, .ref p1]) (x := "NoRow") wr (by walk_at "hp") (.fml (.whl (u := .int 5) (a := p1) (xs := [w1]) (by walk_at "hp") hq1) (by decide) (.odd (.int 5) (by decide))) (by walk_at "hp") (.tup (by walk_at "hp") (.cons (.str _) (.cons (.int _) (.cons dq1 .nil)))) (Dk.mono (Dk.tup (k := 50) (dk_cons (ks (by decide +kernel)) (dk_cons Dk.int (dk_cons (dk1.mono (by decide)) dk_nil)))) (by decide)) (.inl ⟨_, _, .whl (u := .int 5) (a := p1) (xs := [w1]) (by walk_at "hp") hq1⟩)) (.cons (itm (s := "while") (xs := [.ref pd, .ref p4]) (x := "TooDeep") wd (by walk_at "hp") (.fml (.whl (u := .ref pd) (a := p4) (xs := [.int 5]) (by walk_at "hp") (.inl (by walk_at "hp"))) (by decide) (deepF hfl rt (by omega))) (by walk_at "hp") (.tup (by walk_at "hp") (.cons (.str _) (.cons hfl.dp (.cons (.lst (by walk_at "hp") (.cons (.int _) .nil)) .nil)))) (Dk.mono (Dk.tup (k := 50) (dk_cons (ks (by decide +kernel)) (dk_cons (fk.mono (by decide)) (dk_cons (Dk.mono (Dk.list (k := 45) (dk_cons Dk.int dk_nil)) (by decide)) dk_nil)))) (by decide)) (.inl ⟨_, _, .whl (u := .ref pd) (a := p4) (xs := [.int 5]) (by walk_at "hp") (.inl (by walk_at "hp"))⟩)) (.one (itm (s := "if") (xs := [.ref pd, .ref p7, .str "x"]) (x := "NoRow") wr (by walk_at "hp") (.form (.ite (u := .ref pd) (a := .ref p7) (b := .str "x") (by walk_at "hp") (.lst (xs := []) (by walk_at "hp")) (.str _) (by decide))) (by walk_at "hp") (.tup (by walk_at "hp") (.cons (.str _) (.cons hfl.dp (.cons (.lst (by walk_at "hp") .nil) (.cons (.str _) .nil))))) (Dk.mono (Dk.tup (k := 50) (dk_cons (ks (by decide +kernel)) (dk_cons (fk.mono (by decide)) (dk_cons (Dk.mono (Dk.list (k := 45) dk_nil) (by decide)) (dk_cons (ks (by decide +kernel)) dk_nil))))) (by decide)) (.inr (.inr (.inl rfl)))))))⟩
  clear hfl
  have hfl : FmAt K (Rn H G19) (.ref pd) f := by walk_at "hp"
  have bn19 : AllI K (Rn H G19) f.pd [.ref p13, .ref p16, .ref p18] := (.cons (itm (s := "tell") (xs := [.ref p11]) (x := "TooDeep") wd (by walk_at "hp") (.fml (.tell (u := .ref p11) (by walk_at "hp")) (by decide) (.left (s := "+") (a := .ref pd) (b := .int 5) (by walk_at "hp") (by decide +kernel) (deepF hfl rt (by omega)))) (by walk_at "hp") (.tup (by walk_at "hp") (.cons (.str _) (.cons (.tup (by walk_at "hp") (.cons (.str _) (.cons hfl.dp (.cons (.int _) .nil)))) .nil))) (Dk.mono (Dk.tup (k := 50) (dk_cons (ks (by decide +kernel)) (dk_cons (Dk.mono (Dk.tup (k := 45) (dk_cons (ks (by decide +kernel)) (dk_cons (fk.mono (by decide)) (dk_cons Dk.int dk_nil)))) (by decide)) dk_nil))) (by decide)) (.inl ⟨_, _, .tell (u := .ref p11) (by walk_at "hp")⟩)) (.cons (itm (s := "tell") (xs := [.ref p14]) (x := "NoRow") wr (by walk_at "hp") (.fml (.tell (u := .ref p14) (by walk_at "hp")) (by decide) (.left (s := "+") (a := .int 5) (b := .ref pd) (by walk_at "hp") (by decide +kernel) (.odd (.int 5) (by decide)))) (by walk_at "hp") (.tup (by walk_at "hp") (.cons (.str _) (.cons (.tup (by walk_at "hp") (.cons (.str _) (.cons (.int _) (.cons hfl.dp .nil)))) .nil))) (Dk.mono (Dk.tup (k := 50) (dk_cons (ks (by decide +kernel)) (dk_cons (Dk.mono (Dk.tup (k := 45) (dk_cons (ks (by decide +kernel)) (dk_cons Dk.int (dk_cons (fk.mono (by decide)) dk_nil)))) (by decide)) dk_nil))) (by decide)) (.inl ⟨_, _, .tell (u := .ref p14) (by walk_at "hp")⟩)) (.one (itm (s := "set") (xs := [.str "A", .ref pd]) (x := "NoRow") wr (by walk_at "hp") (.form (.nam (w := .str "A") (u := .ref pd) (by walk_at "hp") (.str _) (st (by decide +kernel)) (by decide +kernel))) (by walk_at "hp") (.tup (by walk_at "hp") (.cons (.str _) (.cons (.str _) (.cons hfl.dp .nil)))) (Dk.mono (Dk.tup (k := 50) (dk_cons (ks (by decide +kernel)) (dk_cons (ks (by decide +kernel)) (dk_cons (fk.mono (by decide)) dk_nil)))) (by decide)) (.inr (.inl (.inr rfl)))))))
  clear hfl
  have el20 : Same G10 G19 := (e11.trans (e12.trans (e13.trans (e14.trans (e15.trans (e16.trans (e17.trans (e18.trans e19))))))))
  refine w_addL' (e19 _ _ (e18 _ _ (e17 _ _ (e16 _ _ (e15 _ _ (e14 _ _ (e13 _ _ (e12 _ _ (e11 _ _ h10))))))))) h19 (sz (by rw [lx10]; show _ + 3 ≤ _; decide)) (fun p20 G20 n20 e20 h20 => ?_)
  obtain ⟨xs20, h20, lx20, bx20⟩ : ∃ xs, G20 p20 = some (.lst xs) ∧ xs.length = 6 ∧ AllI K (Rn H G20) f.pd xs := ⟨_, h20, by rw [List.length_append, lx10] <;> rfl, AllI.app (Rn.same (el20.trans e20)) bx10 fun v hv => (bn19 v hv).mono (Rn.same e20)⟩
  have hg20 : FmAt K (Rn H G20) (.ref pd) f := hg0.mono ((s1.trans (s2.trans (s3.trans (s4.trans (s5.trans (s6.trans (s7.trans (s8.trans (s9.trans (s10.trans (s11.trans (s12.trans (s13.trans (s14.trans (s15.trans (s16.trans (s17.trans (s18.trans s19)))))))))))))))))).trans (Rn.same e20))
  have E20 : Same H G20 := (e0.trans (e1.trans (e2.trans (e3.trans (e4.trans (e5.trans (e6.trans (e7.trans (e8.trans (e9.trans (e10.trans (e11.trans (e12.trans (e13.trans (e14.trans (e15.trans (e16.trans (e17.trans (e18.trans (e19.trans e20))))))))))))))))))))
  clear bn19 el20 e20 n20 bx10 hg0 e1 hr1 dp1 h1 r1 s1 e2 n2 h2 r2 s2 e3 n3 h3 r3 s3 e4 n4 h4 r4 s4 e5 n5 h5 r5 s5 e6 n6 h6 r6 s6 e7 n7 h7 r7 s7 e8 n8 h8 r8 s8 e9 n9 h9 r9 s9 e10 n10 h10 r10 s10 e11 n11 h11 r11 s11 e12 n12 h12 r12 s12 e13 n13 h13 r13 s13 e14 n14 h14 r14 s14 e15 n15 h15 r15 s15 e16 n16 h16 r16 s16 e17 n17 h17 r17 s17 e18 n18 h18 r18 s18 e19 n19 h19 r19 s19 e0
  walk_at "gx"
  rename_i p21 G21 n21 e21 h21 p22 G22 n22 e22 h22 p23 G23 n23 e23 h23
  have r21 := Rn.mk (E20.trans (e21)) h21 (.inl (none_of E20 n21))
  have s21 := Rn.same (H := H) e21
  have r22 := Rn.mk (E20.trans ((e21.trans e22))) h22 (.inl (none_of (E20.trans (e21)) n22))
  have s22 := Rn.same (H := H) e22
  have r23 := Rn.mk (E20.trans ((e21.trans (e22.trans e23)))) h23 (.inl (none_of (E20.trans ((e21.trans e22))) n23))
  have s23 := Rn.same (H := H) e23
  refine ⟨12, rfl, by decide, by decide, fun p24 w24 x24 G24 e24 np24 h24 hR24 rt24 nn24 nz24 => ?_⟩
  have hr24 := hR24.monoE (Rn.sub (E20.trans ((e21.trans (e22.trans e23)))))
  have r24 := Rn.mk (E20.trans ((e21.trans (e22.trans (e23.trans e24))))) h24 (.inl (none_of (E20.trans ((e21.trans (e22.trans e23)))) np24))
  have s24 := Rn.same (H := H) e24
  clear hR24 np24
  obtain ⟨dn24, dp24, dk24⟩ := nest_dp r24 hr24 rt24 nn24
  walk_at "gx"
  rename_i p25 G25 n25 e25 h25 p26 G26 n26 e26 h26 p27 G27 n27 e27 h27 p28 G28 n28 e28 h28 p29 G29 n29 e29 h29
  have r25 := Rn.mk (E20.trans ((e21.trans (e22.trans (e23.trans (e24.trans e25)))))) h25 (.inl (none_of (E20.trans ((e21.trans (e22.trans (e23.trans e24))))) n25))
  have s25 := Rn.same (H := H) e25
  have r26 := Rn.mk (E20.trans ((e21.trans (e22.trans (e23.trans (e24.trans (e25.trans e26))))))) h26 (.inl (none_of (E20.trans ((e21.trans (e22.trans (e23.trans (e24.trans e25)))))) n26))
  have s26 := Rn.same (H := H) e26
  have r27 := Rn.mk (E20.trans ((e21.trans (e22.trans (e23.trans (e24.trans (e25.trans (e26.trans e27)))))))) h27 (.inl (none_of (E20.trans ((e21.trans (e22.trans (e23.trans (e24.trans (e25.trans e26))))))) n27))
  have s27 := Rn.same (H := H) e27
  have r28 := Rn.mk (E20.trans ((e21.trans (e22.trans (e23.trans (e24.trans (e25.trans (e26.trans (e27.trans e28))))))))) h28 (.inl (none_of (E20.trans ((e21.trans (e22.trans (e23.trans (e24.trans (e25.trans (e26.trans e27)))))))) n28))
  have s28 := Rn.same (H := H) e28
  have r29 := Rn.mk (E20.trans ((e21.trans (e22.trans (e23.trans (e24.trans (e25.trans (e26.trans (e27.trans (e28.trans e29)))))))))) h29 (.inl (none_of (E20.trans ((e21.trans (e22.trans (e23.trans (e24.trans (e25.trans (e26.trans (e27.trans e28))))))))) n29))
  have s29 := Rn.same (H := H) e29
  have dq24 := dp_mono (s25.trans (s26.trans (s27.trans (s28.trans s29)))) dp24
  have hq24 : SE K (Rn H G29) p24 [w24] := .inl (SqL.of ((s25.trans (s26.trans (s27.trans (s28.trans s29)))) _ _ r24))
  have hfl : FmAt K (Rn H G29) (.ref pd) f := by walk_at "hp"
  have bn29 : AllI K (Rn H G29) f.pd [.ref p26, .ref p28] := (.cons (itm (s := "if") (xs := [.ref p21, .ref p23, .ref p24]) (x := "NoRow") wr (by walk_at "hp") (.blk (u := .ref p21) (w := .ref p22) (f := .num 1) (pre := []) (post := [(p24, [w24])]) (a := p23) (rp := []) (rq := []) (b := []) (.ite (u := .ref p21) (a := p23) (b := p24) (xs := [.ref p22]) (ys := [w24]) (by walk_at "hp") (.inl (by walk_at "hp")) hq24) (by decide) (.num (by walk_at "hp")) ⟨⟨by decide, by decide⟩, by decide⟩ (fun z hz => nomatch hz) ⟨.nil, trivial, by decide, by decide⟩ (by show 1 ≤ 100000; decide) (.fml (.tell (u := .int 5) (by walk_at "hp")) (by decide) (.odd (.int 5) (by decide)))) (by walk_at "hp") (.tup (by walk_at "hp") (.cons (.str _) (.cons (.tup (by walk_at "hp") (.cons (.str _) (.cons (.int _) .nil))) (.cons (.lst (by walk_at "hp") (.cons (.tup (by walk_at "hp") (.cons (.str _) (.cons (.int _) .nil))) .nil)) (.cons dq24 .nil))))) (Dk.mono (Dk.tup (k := 50) (dk_cons (ks (by decide +kernel)) (dk_cons (Dk.mono (Dk.tup (k := 45) (dk_cons (ks (by decide +kernel)) (dk_cons Dk.int dk_nil))) (by decide)) (dk_cons (Dk.mono (Dk.list (k := 46) (dk_cons (Dk.mono (Dk.tup (k := 45) (dk_cons (ks (by decide +kernel)) (dk_cons Dk.int dk_nil))) (by decide)) dk_nil)) (by decide)) (dk_cons (dk24.mono (by decide)) dk_nil))))) (by decide)) (.inl ⟨_, _, .ite (u := .ref p21) (a := p23) (b := p24) (xs := [.ref p22]) (ys := [w24]) (by walk_at "hp") (.inl (by walk_at "hp")) hq24⟩)) (.one (itm (s := "while") (xs := [.ref pd, .non]) (x := "NoRow") wr (by walk_at "hp") (.form (.whl (u := .ref pd) (w := .non) (by walk_at "hp") .non (by decide))) (by walk_at "hp") (.tup (by walk_at "hp") (.cons (.str _) (.cons hfl.dp (.cons .non .nil)))) (Dk.mono (Dk.tup (k := 50) (dk_cons (ks (by decide +kernel)) (dk_cons (fk.mono (by decide)) (dk_cons Dk.non dk_nil)))) (by decide)) (.inr (.inr (.inr rfl))))))
  clear hfl
  have el30 : Same G20 G29 := (e21.trans (e22.trans (e23.trans (e24.trans (e25.trans (e26.trans (e27.trans (e28.trans e29))))))))
  refine w_addL' (e29 _ _ (e28 _ _ (e27 _ _ (e26 _ _ (e25 _ _ (e24 _ _ (e23 _ _ (e22 _ _ (e21 _ _ h20))))))))) h29 (sz (by rw [lx20]; show _ + 2 ≤ _; decide)) (fun p30 G30 n30 e30 h30 => ?_)
  obtain ⟨xs30, h30, lx30, bx30⟩ : ∃ xs, G30 p30 = some (.lst xs) ∧ xs.length = 8 ∧ AllI K (Rn H G30) f.pd xs := ⟨_, h30, by rw [List.length_append, lx20] <;> rfl, AllI.app (Rn.same (el30.trans e30)) bx20 fun v hv => (bn29 v hv).mono (Rn.same e30)⟩
  have hg30 : FmAt K (Rn H G30) (.ref pd) f := hg20.mono ((s21.trans (s22.trans (s23.trans (s24.trans (s25.trans (s26.trans (s27.trans (s28.trans s29)))))))).trans (Rn.same e30))
  have E30 : Same H G30 := (E20.trans (e21.trans (e22.trans (e23.trans (e24.trans (e25.trans (e26.trans (e27.trans (e28.trans (e29.trans e30))))))))))
  clear bn29 el30 e30 n30 bx20 hg20 e21 n21 h21 r21 s21 e22 n22 h22 r22 s22 e23 n23 h23 r23 s23 e24 hr24 dp24 h24 r24 s24 e25 n25 h25 r25 s25 e26 n26 h26 r26 s26 e27 n27 h27 r27 s27 e28 n28 h28 r28 s28 e29 n29 h29 r29 s29 E20 h20
  walk_at "gx"
  rename_i p31 G31 n31 e31 h31
  have r31 := Rn.mk (E30.trans (e31)) h31 (.inl (none_of E30 n31))
  have s31 := Rn.same (H := H) e31
  refine ⟨12, rfl, by decide, by decide, fun p32 w32 x32 G32 e32 np32 h32 hR32 rt32 nn32 nz32 => ?_⟩
  have hr32 := hR32.monoE (Rn.sub (E30.trans (e31)))
  have r32 := Rn.mk (E30.trans ((e31.trans e32))) h32 (.inl (none_of (E30.trans (e31)) np32))
  have s32 := Rn.same (H := H) e32
  clear hR32 np32
  obtain ⟨dn32, dp32, dk32⟩ := nest_dp r32 hr32 rt32 nn32
  walk_at "gx"
  rename_i p33 G33 n33 e33 h33 p34 G34 n34 e34 h34 p35 G35 n35 e35 h35 p36 G36 n36 e36 h36 p37 G37 n37 e37 h37 p38 G38 n38 e38 h38
  have r33 := Rn.mk (E30.trans ((e31.trans (e32.trans e33)))) h33 (.inl (none_of (E30.trans ((e31.trans e32))) n33))
  have s33 := Rn.same (H := H) e33
  have r34 := Rn.mk (E30.trans ((e31.trans (e32.trans (e33.trans e34))))) h34 (.inl (none_of (E30.trans ((e31.trans (e32.trans e33)))) n34))
  have s34 := Rn.same (H := H) e34
  have r35 := Rn.mk (E30.trans ((e31.trans (e32.trans (e33.trans (e34.trans e35)))))) h35 (.inl (none_of (E30.trans ((e31.trans (e32.trans (e33.trans e34))))) n35))
  have s35 := Rn.same (H := H) e35
  have r36 := Rn.mk (E30.trans ((e31.trans (e32.trans (e33.trans (e34.trans (e35.trans e36))))))) h36 (.inl (none_of (E30.trans ((e31.trans (e32.trans (e33.trans (e34.trans e35)))))) n36))
  have s36 := Rn.same (H := H) e36
  have r37 := Rn.mk (E30.trans ((e31.trans (e32.trans (e33.trans (e34.trans (e35.trans (e36.trans e37)))))))) h37 (.inl (none_of (E30.trans ((e31.trans (e32.trans (e33.trans (e34.trans (e35.trans e36))))))) n37))
  have s37 := Rn.same (H := H) e37
  have r38 := Rn.mk (E30.trans ((e31.trans (e32.trans (e33.trans (e34.trans (e35.trans (e36.trans (e37.trans e38))))))))) h38 (.inl (none_of (E30.trans ((e31.trans (e32.trans (e33.trans (e34.trans (e35.trans (e36.trans e37)))))))) n38))
  have s38 := Rn.same (H := H) e38
  have dq32 := dp_mono (s33.trans (s34.trans (s35.trans (s36.trans (s37.trans s38))))) dp32
  have hq32 : SE K (Rn H G38) p32 [w32] := .inl (SqL.of ((s33.trans (s34.trans (s35.trans (s36.trans (s37.trans s38))))) _ _ r32))
  have hw32 := hr32.monoE (s33.trans (s34.trans (s35.trans (s36.trans (s37.trans s38)))))
  have hfl : FmAt K (Rn H G38) (.ref pd) f := by walk_at "hp"
  have bn38 : AllI K (Rn H G38) f.pd [.ref p35, .ref p37] := (.cons (itm (s := "if") (xs := [.ref p31, .ref p32, .ref p33]) (x := "TooDeep") wd (by walk_at "hp") (.blk (u := .ref p31) (w := w32) (f := .num 1) (pre := []) (post := [(p33, [.int 5])]) (a := p32) (rp := []) (rq := []) (b := []) (.ite (u := .ref p31) (a := p32) (b := p33) (xs := [w32]) (ys := [.int 5]) (by walk_at "hp") hq32 (.inl (by walk_at "hp"))) (by decide) (.num (by walk_at "hp")) ⟨⟨by decide, by decide⟩, by decide⟩ (fun z hz => nomatch hz) ⟨.nil, trivial, by decide, by decide⟩ (by show 1 ≤ 100000; decide) (deepR (n := 7) (by decide) hw32 rt32 (by decide) (by decide) (by omega) (by omega))) (by walk_at "hp") (.tup (by walk_at "hp") (.cons (.str _) (.cons (.tup (by walk_at "hp") (.cons (.str _) (.cons (.int _) .nil))) (.cons dq32 (.cons (.lst (by walk_at "hp") (.cons (.int _) .nil)) .nil))))) (Dk.mono (Dk.tup (k := 50) (dk_cons (ks (by decide +kernel)) (dk_cons (Dk.mono (Dk.tup (k := 45) (dk_cons (ks (by decide +kernel)) (dk_cons Dk.int dk_nil))) (by decide)) (dk_cons (dk32.mono (by decide)) (dk_cons (Dk.mono (Dk.list (k := 45) (dk_cons Dk.int dk_nil)) (by decide)) dk_nil))))) (by decide)) (.inl ⟨_, _, .ite (u := .ref p31) (a := p32) (b := p33) (xs := [w32]) (ys := [.int 5]) (by walk_at "hp") hq32 (.inl (by walk_at "hp"))⟩)) (.one (itm (s := "tell") (xs := [.ref pd, .int 5]) (x := "NoRow") wr (by walk_at "hp") (.form (.len (s := "tell") (xs := [.ref pd, .int 5]) (by walk_at "hp") (by rw [things_tell]; exact (by decide : (2 : Nat) ≠ 3)))) (by walk_at "hp") (.tup (by walk_at "hp") (.cons (.str _) (.cons hfl.dp (.cons (.int _) .nil)))) (Dk.mono (Dk.tup (k := 50) (dk_cons (ks (by decide +kernel)) (dk_cons (fk.mono (by decide)) (dk_cons Dk.int dk_nil)))) (by decide)) (.inr (.inl (.inl ⟨rfl, (by decide : (2 : Nat) ≠ 1)⟩))))))
  clear hfl
  have el39 : Same G30 G38 := (e31.trans (e32.trans (e33.trans (e34.trans (e35.trans (e36.trans (e37.trans e38)))))))
  refine w_addL' (e38 _ _ (e37 _ _ (e36 _ _ (e35 _ _ (e34 _ _ (e33 _ _ (e32 _ _ (e31 _ _ h30)))))))) h38 (sz (by rw [lx30]; show _ + 2 ≤ _; decide)) (fun p39 G39 n39 e39 h39 => ?_)
  obtain ⟨xs39, h39, lx39, bx39⟩ : ∃ xs, G39 p39 = some (.lst xs) ∧ xs.length = 10 ∧ AllI K (Rn H G39) f.pd xs := ⟨_, h39, by rw [List.length_append, lx30] <;> rfl, AllI.app (Rn.same (el39.trans e39)) bx30 fun v hv => (bn38 v hv).mono (Rn.same e39)⟩
  have hg39 : FmAt K (Rn H G39) (.ref pd) f := hg30.mono ((s31.trans (s32.trans (s33.trans (s34.trans (s35.trans (s36.trans (s37.trans s38))))))).trans (Rn.same e39))
  have E39 : Same H G39 := (E30.trans (e31.trans (e32.trans (e33.trans (e34.trans (e35.trans (e36.trans (e37.trans (e38.trans e39)))))))))
  clear bn38 el39 e39 n39 bx30 hg30 e31 n31 h31 r31 s31 e32 hr32 dp32 h32 r32 s32 e33 n33 h33 r33 s33 e34 n34 h34 r34 s34 e35 n35 h35 r35 s35 e36 n36 h36 r36 s36 e37 n37 h37 r37 s37 e38 n38 h38 r38 s38 E30 h30
  walk_at "gx"
  refine ⟨_, rfl, by decide, by decide, for_range (lo := 0) (n := 12) (fun i σ H' => Same G39 H' ∧ ∃ (v : V) (d : PyData) (w : Option V), EndAt K (Rn H H') v i d ∧ σ = [some (.int c), some (.ref pd), some (.ref p39), some v, w, none, none])
    ⟨Same.refl _, .int 5, .int 5, _, ⟨fun l hl => by obtain rfl : l = 0 := by omega
                                                     exact .deep, .int 5, Dk.int⟩, rfl⟩ ?_ ?_⟩
  · rintro i σ G hi ⟨eG, v, d, w, hv, rfl⟩
    walk_at "gx"
    rename_i b1 B1 m1 g1 k1 b2 B2 m2 g2 k2
    have eH := E39.trans eG
    have hv2 := hv.mono (Rn.same (H := H) (g1.trans g2))
    have s2 : SqT K (Rn H B2) b2 [.str "*", .ref b1, v] := SqT.of (Rn.mk (eH.trans (g1.trans g2)) k2 (.inr rfl))
    have nf : FmAt K (Rn H B2) (.ref b1) (.num 1) := .num (SqT.of (Rn.mk (eH.trans (g1.trans g2)) (g2 _ _ k1) (.inr rfl)))
    refine ⟨eG.trans (g1.trans g2), .ref b2, .tuple [.str "*", .tuple [.str "number", .int 1], d], _, ⟨fun l hl => ?_, .tup s2 (.cons (.str _) (.cons nf.dp (.cons hv2.dp .nil))), Dk.tup (k := i + 1) (dk_cons (ks (by decide +kernel)) (dk_cons (Dk.mono (Dk.tup (k := 0) (dk_cons (ks (by decide +kernel)) (dk_cons Dk.int dk_nil))) (by omega)) (dk_cons hv2.dk dk_nil)))⟩, rfl⟩
    match l, hl with
    | 0, _ => exact .deep
    | 1, _ => exact .left s2 (by decide +kernel) .deep
    | l + 2, hl => exact .right s2 (by decide +kernel) nf ⟨by decide, by decide⟩ (by show 1 ≤ l + 1; omega) (hv2.bad (l + 1) (by omega))
  rintro σ G40 ⟨e40, ve, de, w40, hend, rfl⟩
  have s40 := Rn.same (H := H) e40
  walk_at "gx"
  rename_i p41 G41 n41 e41 h41 p42 G42 n42 e42 h42 p43 G43 n43 e43 h43 p44 G44 n44 e44 h44 p45 G45 n45 e45 h45 p46 G46 n46 e46 h46
  have r41 := Rn.mk (E39.trans ((e40.trans e41))) h41 (.inl (none_of (E39.trans (e40)) n41))
  have s41 := Rn.same (H := H) e41
  have r42 := Rn.mk (E39.trans ((e40.trans (e41.trans e42)))) h42 (.inl (none_of (E39.trans ((e40.trans e41))) n42))
  have s42 := Rn.same (H := H) e42
  have r43 := Rn.mk (E39.trans ((e40.trans (e41.trans (e42.trans e43))))) h43 (.inl (none_of (E39.trans ((e40.trans (e41.trans e42)))) n43))
  have s43 := Rn.same (H := H) e43
  have r44 := Rn.mk (E39.trans ((e40.trans (e41.trans (e42.trans (e43.trans e44)))))) h44 (.inl (none_of (E39.trans ((e40.trans (e41.trans (e42.trans e43))))) n44))
  have s44 := Rn.same (H := H) e44
  have r45 := Rn.mk (E39.trans ((e40.trans (e41.trans (e42.trans (e43.trans (e44.trans e45))))))) h45 (.inl (none_of (E39.trans ((e40.trans (e41.trans (e42.trans (e43.trans e44)))))) n45))
  have s45 := Rn.same (H := H) e45
  have r46 := Rn.mk (E39.trans ((e40.trans (e41.trans (e42.trans (e43.trans (e44.trans (e45.trans e46)))))))) h46 (.inl (none_of (E39.trans ((e40.trans (e41.trans (e42.trans (e43.trans (e44.trans e45))))))) n46))
  have s46 := Rn.same (H := H) e46
  have hel : EndAt K (Rn H G46) ve 12 de := hend.mono (s41.trans (s42.trans (s43.trans (s44.trans (s45.trans s46)))))
  have hfl : FmAt K (Rn H G46) (.ref pd) f := by walk_at "hp"
  have bn46 : AllI K (Rn H G46) f.pd [.ref p42, .ref p45] := (.cons (itm (s := "tell") (xs := [ve]) (x := "TooDeep") wd (by walk_at "hp") (.fml (.tell (u := ve) (by walk_at "hp")) (by decide) (hel.bad 12 (by decide))) (by walk_at "hp") (.tup (by walk_at "hp") (.cons (.str _) (.cons hel.dp .nil))) (Dk.mono (Dk.tup (k := 50) (dk_cons (ks (by decide +kernel)) (dk_cons (hel.dk.mono (by decide)) dk_nil))) (by decide)) (.inl ⟨_, _, .tell (u := ve) (by walk_at "hp")⟩)) (.one (itm (s := "tell") (xs := [.ref p43]) (x := "TooDeep") wd (by walk_at "hp") (.fml (.tell (u := .ref p43) (by walk_at "hp")) (by decide) (.left (s := "+") (a := ve) (b := .ref pd) (by walk_at "hp") (by decide +kernel) (hel.bad 11 (by decide)))) (by walk_at "hp") (.tup (by walk_at "hp") (.cons (.str _) (.cons (.tup (by walk_at "hp") (.cons (.str _) (.cons hel.dp (.cons hfl.dp .nil)))) .nil))) (Dk.mono (Dk.tup (k := 50) (dk_cons (ks (by decide +kernel)) (dk_cons (Dk.mono (Dk.tup (k := 45) (dk_cons (ks (by decide +kernel)) (dk_cons (hel.dk.mono (by decide)) (dk_cons (fk.mono (by decide)) dk_nil)))) (by decide)) dk_nil))) (by decide)) (.inl ⟨_, _, .tell (u := .ref p43) (by walk_at "hp")⟩))))
  clear hfl
  have el47 : Same G39 G46 := (e40.trans (e41.trans (e42.trans (e43.trans (e44.trans (e45.trans e46))))))
  refine w_addL' (e46 _ _ (e45 _ _ (e44 _ _ (e43 _ _ (e42 _ _ (e41 _ _ (e40 _ _ h39))))))) h46 (sz (by rw [lx39]; show _ + 2 ≤ _; decide)) (fun p47 G47 n47 e47 h47 => ?_)
  obtain ⟨xs47, h47, lx47, bx47⟩ : ∃ xs, G47 p47 = some (.lst xs) ∧ xs.length = 12 ∧ AllI K (Rn H G47) f.pd xs := ⟨_, h47, by rw [List.length_append, lx39] <;> rfl, AllI.app (Rn.same (el47.trans e47)) bx39 fun v hv => (bn46 v hv).mono (Rn.same e47)⟩
  have hg47 : FmAt K (Rn H G47) (.ref pd) f := hg39.mono ((s40.trans (s41.trans (s42.trans (s43.trans (s44.trans (s45.trans s46)))))).trans (Rn.same e47))
  have E47 : Same H G47 := (E39.trans (e40.trans (e41.trans (e42.trans (e43.trans (e44.trans (e45.trans (e46.trans e47))))))))
  clear bn46 el47 e47 n47 bx39 hg39 e40 s40 e41 n41 h41 r41 s41 e42 n42 h42 r42 s42 e43 n43 h43 r43 s43 e44 n44 h44 r44 s44 e45 n45 h45 r45 s45 e46 n46 h46 r46 s46 E39 h39
  walk_at "gx"
  rename_i p48 G48 n48 e48 h48 p49 G49 n49 e49 h49 p50 G50 n50 e50 h50 p51 G51 n51 e51 h51 p52 G52 n52 e52 h52
  have r48 := Rn.mk (E47.trans (e48)) h48 (.inl (none_of E47 n48))
  have s48 := Rn.same (H := H) e48
  have r49 := Rn.mk (E47.trans ((e48.trans e49))) h49 (.inl (none_of (E47.trans (e48)) n49))
  have s49 := Rn.same (H := H) e49
  have r50 := Rn.mk (E47.trans ((e48.trans (e49.trans e50)))) h50 (.inl (none_of (E47.trans ((e48.trans e49))) n50))
  have s50 := Rn.same (H := H) e50
  have r51 := Rn.mk (E47.trans ((e48.trans (e49.trans (e50.trans e51))))) h51 (.inl (none_of (E47.trans ((e48.trans (e49.trans e50)))) n51))
  have s51 := Rn.same (H := H) e51
  have r52 := Rn.mk (E47.trans ((e48.trans (e49.trans (e50.trans (e51.trans e52)))))) h52 (.inl (none_of (E47.trans ((e48.trans (e49.trans (e50.trans e51))))) n52))
  have s52 := Rn.same (H := H) e52
  have hfl : FmAt K (Rn H G52) (.ref pd) f := by walk_at "hp"
  have bn52 : AllI K (Rn H G52) f.pd [.ref p51] := (.one (itm (s := "tell") (xs := [.ref p49]) (x := "NoRow") wr (by walk_at "hp") (.fml (.tell (u := .ref p49) (by walk_at "hp")) (by decide) (.left (s := "-") (a := .ref p48) (b := .int 5) (by walk_at "hp") (by decide +kernel) (.sign (s := "!") (a := .ref pd) (b := .int 1) (by walk_at "hp") (by decide +kernel)))) (by walk_at "hp") (.tup (by walk_at "hp") (.cons (.str _) (.cons (.tup (by walk_at "hp") (.cons (.str _) (.cons (.tup (by walk_at "hp") (.cons (.str _) (.cons hfl.dp (.cons (.int _) .nil)))) (.cons (.int _) .nil)))) .nil))) (Dk.mono (Dk.tup (k := 50) (dk_cons (ks (by decide +kernel)) (dk_cons (Dk.mono (Dk.tup (k := 46) (dk_cons (ks (by decide +kernel)) (dk_cons (Dk.mono (Dk.tup (k := 45) (dk_cons (ks (by decide +kernel)) (dk_cons (fk.mono (by decide)) (dk_cons Dk.int dk_nil)))) (by decide)) (dk_cons Dk.int dk_nil)))) (by decide)) dk_nil))) (by decide)) (.inl ⟨_, _, .tell (u := .ref p49) (by walk_at "hp")⟩)))
  clear hfl
  have el53 : Same G47 G52 := (e48.trans (e49.trans (e50.trans (e51.trans e52))))
  refine w_addL' (e52 _ _ (e51 _ _ (e50 _ _ (e49 _ _ (e48 _ _ h47))))) h52 (sz (by rw [lx47]; show _ + 1 ≤ _; decide)) (fun p53 G53 n53 e53 h53 => ?_)
  obtain ⟨xs53, h53, lx53, bx53⟩ : ∃ xs, G53 p53 = some (.lst xs) ∧ xs.length = 13 ∧ AllI K (Rn H G53) f.pd xs := ⟨_, h53, by rw [List.length_append, lx47] <;> rfl, AllI.app (Rn.same (el53.trans e53)) bx47 fun v hv => (bn52 v hv).mono (Rn.same e53)⟩
  have hg53 : FmAt K (Rn H G53) (.ref pd) f := hg47.mono ((s48.trans (s49.trans (s50.trans (s51.trans s52)))).trans (Rn.same e53))
  have E53 : Same H G53 := (E47.trans (e48.trans (e49.trans (e50.trans (e51.trans (e52.trans e53))))))
  clear bn52 el53 e53 n53 bx47 hg47 e48 n48 h48 r48 s48 e49 n49 h49 r49 s49 e50 n50 h50 r50 s50 e51 n51 h51 r51 s51 e52 n52 h52 r52 s52 E47 h47
  walk_at "gx"
  have m := mod_in c (show (0 : Int) < 13 by decide)
  obtain ⟨j, hj⟩ := Int.eq_ofNat_of_zero_le m.1
  have jl : j < xs53.length := by omega
  rw [show c % 13 = ((j : Nat) : Int) from hj]
  refine w_ixL (SqL.of h53) (atI_nat (List.getElem?_eq_getElem jl)) ?_
  have it := bx53 _ (List.getElem_mem jl)
  generalize xs53[j] = v at it
  clear hel bx53
  obtain ⟨pi, ar, s, x, xs, d, rfl, i1, i2, i3, i4, i5, i6⟩ := it
  replace i1 := same_t Rn.le i1
  replace i3 := same_t Rn.le i3
  replace i4 := dp_mono Rn.le i4
  have hf53 := hg53.mono Rn.le
  have stop : ∀ {H' : Hp} {w6 : Option V}, Same G53 H' → t_law_twoT_j1 K { nx := fun _ H' => Q .non H', rt := Q } [some (.int c), some (.ref pd), some (.ref p53), some ve, w40, some (.ref pi), w6] H' := fun e => by
    unfold t_law_twoT_j1
    walk_at "gx"
    exact q pi (.ref ar) x _ (E53.trans e) (same_t e i1) (i2.mono (Rn.same e))
  /- eight rows around it -/
  have wrap : ∀ {H2 : Hp} {w6 : Option V} {o : Option V} {ps : List (Addr × List V)}, Same G53 H2 → RowF K (Rn H G53) (.ref ar) o ps →
      tSeq (tFor (iRng1 (tCons (tC (.int 8)) tNil)) (gName 4) (tAsg (tTup (tCons (tC (.str "while")) (tCons (tTup (tCons (tC (.str "number")) (tCons (tC (.int 0)) tNil))) (tCons (tLst (tCons (tVar 6) tNil)) tNil)))) (gName 6))) (tRet (tTup (tCons (tVar 6) (tCons (tC (.str "deep")) tNil))))
        { nx := t_law_twoT_j1 K { nx := fun _ H' => Q .non H', rt := Q }, rt := Q } [some (.int c), some (.ref pd), some (.ref p53), some ve, w40, some (.ref pi), some (.ref ar)] H2 := fun {H2 w6 o ps} e2 rf => by
    walk_at "gx"
    refine ⟨_, rfl, by decide, by decide, for_range (lo := 0) (n := 8) (fun i σ H' => Same H2 H' ∧ ∃ (rk : Addr) (o : Option V) (ps : List (Addr × List V)) (w4 : Option V), RowF K (Rn H H') (.ref rk) o ps ∧ i ≤ 8 ∧ BadRow K (Rn H H') (.ref rk) (9 - i) "TooDeep" ∧ σ = [some (.int c), some (.ref pd), some (.ref p53), some ve, w4, some (.ref pi), some (.ref rk)])
      ⟨Same.refl _, ar, o, ps, _, rf.mono (Rn.same e2), Nat.zero_le _, .deep (rf.mono (Rn.same e2)) (by decide), rfl⟩ ?_ ?_⟩
    · rintro i σ G hi ⟨eG, rk, o, ps, w4, rf, i8, bad, rfl⟩
      walk_at "gx"
      rename_i b1 B1 m1 g1 k1 b2 B2 m2 g2 k2 b3 B3 m3 g3 k3
      have eg := g1.trans (g2.trans g3)
      have eH0 := E53.trans (e2.trans eG)
      have eH := eH0.trans eg
      have rw3 : RowF K (Rn H B3) (.ref b3) (some (.ref b1)) ([] ++ (b2, [] ++ (V.ref rk) :: []) :: []) := .whl (SqT.of (Rn.mk eH k3 (.inr rfl))) (.inl (SqL.of (Rn.mk eH (g3 _ _ k2) (.inl (none_of eH0 (none_of g1 m2))))))
      have bd : BadRow K (Rn H B3) (.ref rk) (9 - (i + 1) + 1) "TooDeep" := by
        rw [show 9 - (i + 1) + 1 = 9 - i by omega]
        exact bad.mono (Rn.same eg)
      exact ⟨eG.trans eg, b3, _, _, _, rw3, by omega, .blk (f := .num 0) (b := []) rw3 (by omega) (.num (SqT.of (Rn.mk eH (g3 _ _ (g2 _ _ k1)) (.inr rfl)))) ⟨⟨by decide, by decide⟩, by decide⟩ (fun z hz => nomatch hz) ⟨.nil, trivial, (by show 9 - (i + 1) + 1 + 0 ≤ 9; omega), by decide⟩ (by show 1 ≤ 100000; decide) bd, rfl⟩
    · rintro σ G ⟨eG, rk, o, ps, w4, rf, i8, bad, rfl⟩
      walk_at "gx"
      rename_i b1 B1 m1 g1 k1
      exact q b1 (.ref rk) "TooDeep" _ (E53.trans (e2.trans (eG.trans g1))) (by rw [wd]; exact SqT.of k1) (bad.mono (Rn.same g1))
  walk_at "gx"
  refine w_two (fun _ => ?yes) (fun _ => ?no)
  case no =>
    walk_at "gx"
    exact stop (Same.refl _)
  have kA : Dk (dA f.pd) 60 := Dk.mono (Dk.tup (k := 50) (dk_cons (ks (by decide +kernel)) (dk_cons (fk.mono (by decide)) (dk_cons (Dk.mono (Dk.list (k := 0) dk_nil) (by decide)) (dk_cons (ks (by decide +kernel)) dk_nil))))) (by decide)
  have kB : Dk (dB f.pd) 60 := Dk.mono (Dk.tup (k := 50) (dk_cons (ks (by decide +kernel)) (dk_cons (fk.mono (by decide)) (dk_cons Dk.non dk_nil)))) (by decide)
  walk_at "gx"
  rename_i qa QA ma ga ka qb QB mb gb kb
  have eB := ga.trans gb
  have hfB := hf53.mono eB
  have dpA : Dp K QB (.ref qb) (dA f.pd) := .tup (SqT.of kb) (.cons (.str _) (.cons hfB.dp (.cons (.lst (SqL.of (gb _ _ ka)) .nil) (.cons (.str _) .nil))))
  refine w_neD (dp_mono eB i4) dpA (i5.shaped (by decide)) (kA.shaped (by decide)) ?_
  cases cA : PyData.eqv d (dA f.pd) with
  | true =>
    walk_at "gx"
    exact stop eB
  | false =>
    have i1B := same_t eB i1
    walk_at "gx"
    rename_i qc QC mc gc kc
    have eC := eB.trans gc
    have dpB : Dp K QC (.ref qc) (dB f.pd) := .tup (SqT.of kc) (.cons (.str _) (.cons (hfB.mono gc).dp (.cons .non .nil)))
    refine w_neD (dp_mono eC i4) dpB (i5.shaped (by decide)) (kB.shaped (by decide)) ?_
    cases cB : PyData.eqv d (dB f.pd) with
    | true =>
      walk_at "gx"
      exact stop eC
    | false =>
      have i3C := same_t eC i3
      have i1C := same_t eC i1
      walk_at "gx"
      rcases i6 with ⟨o, ps, rf⟩ | (⟨rfl, nl⟩ | rfl) | rfl | rfl
      · clear i3 i3C
        have rfC := rf.mono (Rn.le.trans eC)
        cases rfC with
        | skip h => walk_at "gx"; exact stop eC
        | tell h => walk_at "gx"; exact wrap (w6 := none) eC rf
        | set h n => walk_at "gx"; exact stop eC
        | whl h s => walk_at "gx"; exact wrap (w6 := none) eC rf
        | ite h s t => walk_at "gx"; exact wrap (w6 := none) eC rf
      · have tw : ∀ {b : Bool}, decide ((((V.str "tell" :: xs).length : Nat) : Int) = 2) = false := by
          rw [List.length_cons]
          exact decide_eq_false (by omega)
        refine w_ixT i3C at0 ?_
        walk_at "gx"
        rw [tw (b := true)]
        walk_at "gx"
        refine w_ixT i3C at0 ?_
        walk_at "gx"
        refine w_ixT i3C at0 ?_
        walk_at "gx"
        exact stop eC
      · refine w_ixT i3C at0 ?_
        walk_at "gx"
        refine w_ixT i3C at0 ?_
        walk_at "gx"
        refine w_ixT i3C at0 ?_
        walk_at "gx"
        exact stop eC
      · rw [eqv_self _ (SeqAt.canLay_of_shaped (kA.shaped (by decide)))] at cA
        cases cA
      · rw [eqv_self _ (SeqAt.canLay_of_shaped (kB.shaped (by decide)))] at cB
        cases cB
def sp_law_blocksT (K : PySem.W.Frag) : Sp := fun vs H Q _ => ∃ (v : V) (r : Rw), vs = [v] ∧ RwAt K (SqT K) H v r ∧ ∀ (p : Addr) (ws : List V) (H' : Hp), Same H H' → H p = none → H' p = some (.lst ws) → BlksAt K (SqT K) H ws r.parts → Q (.ref p) H'
def sp_law_manyT (K : PySem.W.Frag) (n : Nat) : Sp := fun vs H Q _ => ∃ (a : Addr) (xs : List V) (b : List Rw), vs = [.ref a] ∧ SqT K H a xs ∧ BkAt K (SqT K) H xs b ∧ nests b < n ∧ szs b ≤ 100000 ∧ ∀ H', Same H H' → Q (.int (szs b : Nat)) H'
theorem no_law_manyT {K : PySem.W.Frag} : ∀ vs H Q E, ¬ sp_law_manyT K 0 vs H Q E := by
  rintro vs H Q E ⟨_, _, _, _, _, _, h, _⟩
  omega
abbrev N_law_blocksT : List Str := ["_law_row"]
noncomputable def t_law_blocksT (K : PySem.W.Frag) : TS :=
  (tSeq (tIfS (tTest (tOp (rEq2 K) (tOp (rIx K) (tVar 0) (tC (.int 0))) (tC (.str "set")))) (tRet (tLst tNil)) tNext) (tRet (tCB (rList K) (tCons (tSl (rSl K) (tVar 0) (tPart (tC (.int 2))) tNoPart) tNil))))
abbrev N_law_manyT : List Str := ["_law_block", "_law_row", "_law_inner"]
noncomputable def t_law_manyT (K : PySem.W.Frag) (n : Nat) : TS :=
  (tRet (tCB (rSum K) (tCons (tLc (iSeq K (tVar 0)) (gName 1) tYes (tOp (rAdd K) (tC (.int 1)) (tCB (rSum K) (tCons (tLc (iSeq K (tF (sp_law_blocksT K) (tCons (tVar 1) tNil))) (gName 2) tYes (tF (sp_law_manyT K n) (tCons (tVar 2) tNil)) [2]) tNil))) [1]) tNil)))
theorem pure_law_blocksT (K : PySem.W.Frag) (vs : List V) (H : Hp) (Q : VK) (E : XK) (h : sp_law_blocksT K vs H Q E) :
    t_law_blocksT K { nx := fun _ H' => Q .non H', rt := Q } (start N_law_blocksT vs) H := by
  obtain ⟨v, r, rfl, hr, q⟩ := h
  unfold t_law_blocksT
  /- what stands behind the first two things, as a list -/
  have fin : ∀ {ws : List V}, BlksAt K (SqT K) H ws r.parts → ∀ p, H p = none → rList K [.ref p] (upd H p (.tup ws)) Q := fun {ws} hb p hp => by
    have e1 := same_new (o := .tup ws) hp
    refine w_listT' (SqT.of upd_same) (fun l H2 n2 e2 h2 => ?_)
    exact q l _ H2 (e1.trans e2) (none_of e1 n2) h2 hb
  cases hr with
  | set h hf =>
    walk_at "gx"
    rename_i p H1 n1 e1 h1
    exact q p _ H1 e1 n1 h1 .nil
  | tell h hf =>
    walk_at "gx"
    refine w_slT2 h (fun p hp => ?_)
    walk_at "gx"
    exact fin .nil p hp
  | skip h =>
    walk_at "gx"
    refine w_slT1 h (fun p hp => ?_)
    walk_at "gx"
    exact fin .nil p hp
  | ite h hf hp hb hq hc =>
    walk_at "gx"
    refine w_slT2 h (fun p hp0 => ?_)
    walk_at "gx"
    exact fin (.cons hp hb (.cons hq hc .nil)) p hp0
  | whl h hf hp hb =>
    walk_at "gx"
    refine w_slT2 h (fun p hp0 => ?_)
    walk_at "gx"
    exact fin (.cons hp hb .nil) p hp0
theorem pure_law_manyT (K : PySem.W.Frag) (n : Nat) (vs : List V) (H : Hp) (Q : VK) (E : XK) (h : sp_law_manyT K (n + 1) vs H Q E) :
    t_law_manyT K n { nx := fun _ H' => Q .non H', rt := Q } (start N_law_manyT vs) H := by
  obtain ⟨a, xs, b, rfl, hs, hb, hn, hz, q⟩ := h
  unfold t_law_manyT
  have bl := szs_len b
  have xl := hb.len
  walk_at "gx"
  refine w_lc ?_
  walk_at "gx"
  refine lc_se (xs := xs) (fun i y H' => ∃ r, b[i]? = some r ∧ y = .int (r.size : Nat)) (.inr hs) (by omega) (fun i y H1 H2 h _ => h) ?_ ?_
  · rintro D i x H3 Nx hx e3 ⟨zs, hzs⟩ k
    obtain ⟨r, hr1, hr2⟩ := hb.get hx
    have rm : r ∈ b := List.mem_of_getElem? hr1
    have rn := nest_mem rm
    have rz := sz_mem rm
    refine ⟨rfl, ?_⟩
    walk_at "gx"
    refine w_lc ?_
    walk_at "gx"
    refine ⟨x, r, rfl, hr2.monoS e3, fun p ws H4 e4 np hp hw => ?_⟩
    have wl : ws.length ≤ 2 := by rw [hw.len]; exact parts_len
    refine lc_se (xs := ws) (fun i y H' => ∃ b, r.parts[i]? = some b ∧ y = .int (szs b : Nat)) (.inl (SqL.of hp)) (by omega) (fun i y H1 H2 h _ => h) ?_ ?_
    · rintro D2 i2 y H5 Nx2 hy e5 ⟨zs2, hzs2⟩ k2
      obtain ⟨b2, t, ys, hb1, rfl, hs1, hk1⟩ := hw.get hy
      have bm : b2 ∈ r.parts := List.mem_of_getElem? hb1
      have pn := parts_nest b2 bm
      have ps := part_size bm
      have e45 := e4.trans e5
      refine ⟨rfl, ?_⟩
      walk_at "gx"
      refine ⟨t, ys, b2, rfl, same_t e45 hs1, hk1.monoS e45, by omega, by omega, fun H6 e6 => ?_⟩
      exact k2 _ H6 e6 ⟨b2, hb1, rfl⟩
    · intro D2 H5 ys e5 hD hD3 hyl hR
      rw [hw.len] at hyl
      have hy := eq_map (f := fun b => V.int (szs b : Nat)) hyl hR
      walk_at "gx"
      refine w_sum (ns := r.parts.map fun b => ((szs b : Nat) : Int)) (SqL.of (by rw [hD3, hy, List.map_map] <;> rfl)) ?_
      walk_at "gx"
      have e : 1 + (r.parts.map fun b => ((szs b : Nat) : Int)).sum = ((r.size : Nat) : Int) := by
        rw [sum_cast (f := szs), parts_size]
        omega
      rw [e]
      exact k _ H5 (e4.trans e5) ⟨r, hr1, rfl⟩
  · intro D H3 ys e3 hD hD3 hyl hR
    rw [xl] at hyl
    have hy := eq_map (f := fun r => V.int (r.size : Nat)) hyl hR
    walk_at "gx"
    refine w_sum (ns := b.map fun r => ((r.size : Nat) : Int)) (SqL.of (by rw [hD3, hy, List.map_map] <;> rfl)) ?_
    have e : (b.map fun r => ((r.size : Nat) : Int)).sum = ((szs b : Nat) : Int) := by
      rw [sum_cast (f := Rw.size), szs_sum]
    rw [e]
    exact q _ e3
theorem bnms_cat : ∀ l m : List Rw, bnms (l ++ m) = bnms l ++ bnms m
  | [], m => rfl
  | r :: l, m => by
    show r.nms ++ bnms (l ++ m) = (r.nms ++ bnms l) ++ bnms m
    rw [bnms_cat l m, List.append_assoc]
def Rw.ownN : Rw → List Str
  | .set x f => x :: f.names
  | .tell f => f.names
  | .skip => []
  | .ite f _ _ => f.names
  | .whl f _ => f.names
theorem nms_parts (r : Rw) : r.nms = r.ownN ++ (r.parts.map bnms).flatten := by
  cases r <;> simp [Rw.nms, Rw.ownN, Rw.parts]
theorem fine_names {ns : List Str} {f : Fm} (h : f.fine ns) : f.names.length ≤ 4096 := by
  have h1 := f.names_len
  have h2 : 2 ^ f.depth ≤ 2 ^ 12 := Nat.pow_le_pow_right (by decide) h.2
  omega
mutual
theorem nms_le {ns : List Str} : ∀ {r : Rw}, r.ok ns → r.nms.length ≤ 4097 * r.size
  | .set x f, h => by
    have := fine_names h.2
    show f.names.length + 1 ≤ 4097 * 1
    omega
  | .tell f, h => by
    have := fine_names h
    show f.names.length ≤ 4097 * 1
    omega
  | .skip, h => Nat.zero_le _
  | .ite f a b, h => by
    have h0 := fine_names h.1
    have h1 := bnms_le h.2.1
    have h2 := bnms_le h.2.2
    show (f.names ++ (bnms a ++ bnms b)).length ≤ 4097 * (1 + (szs a + szs b))
    rw [List.length_append, List.length_append]
    omega
  | .whl f a, h => by
    have h0 := fine_names h.1
    have h1 := bnms_le h.2
    show (f.names ++ bnms a).length ≤ 4097 * (1 + szs a)
    rw [List.length_append]
    omega
theorem bnms_le {ns : List Str} : ∀ {l : List Rw}, oks ns l → (bnms l).length ≤ 4097 * szs l
  | [], _ => Nat.zero_le _
  | r :: l, h => by
    have h1 := nms_le h.1
    have h2 := bnms_le h.2
    show (r.nms ++ bnms l).length ≤ 4097 * (r.size + szs l)
    rw [List.length_append]
    omega
end
def sp_law_block_namesT (K : PySem.W.Frag) (n : Nat) : Sp := fun vs H Q _ => ∃ (a : Addr) (xs : List V) (b : List Rw) (ns : List Str), vs = [.ref a] ∧ SqT K H a xs ∧ BkAt K (SqT K) H xs b ∧ oks ns b ∧ nests b < n ∧ szs b ≤ 1000 ∧
  ∀ (p : Addr) (H' : Hp), Same H H' → H' p = some (.lst ((bnms b).map V.str)) → Q (.ref p) H'
theorem no_law_block_namesT {K : PySem.W.Frag} : ∀ vs H Q E, ¬ sp_law_block_namesT K 0 vs H Q E := by
  rintro vs H Q E ⟨_, _, _, _, _, _, _, _, h, _⟩
  omega
abbrev N_law_block_namesT : List Str := ["_law_block", "_law_found", "_law_row", "_law_inner"]
noncomputable def t_law_block_namesT_j1 (K : PySem.W.Frag) (n : Nat) : TS :=
  (tFor (iSeq K (tF (sp_law_blocksT K) (tCons (tVar 2) tNil))) (gName 3) (tAsg (tOp (rAdd K) (tVar 1) (tF (sp_law_block_namesT K n) (tCons (tVar 3) tNil))) (gName 1)))
noncomputable def t_law_block_namesT (K : PySem.W.Frag) (n : Nat) : TS :=
  (tSeq (tAsg (tLst tNil) (gName 1)) (tSeq (tFor (iSeq K (tVar 0)) (gName 2) (tSeq (tIfS (tTest (tOp (rEq2 K) (tOp (rIx K) (tVar 2) (tC (.int 0))) (tC (.str "set")))) (tAsg (tOp (rAdd K) (tOp (rAdd K) (tVar 1) (tLst (tCons (tOp (rIx K) (tVar 2) (tC (.int 1))) tNil))) (tF (sp_law_all_names K 18) (tCons (tOp (rIx K) (tVar 2) (tC (.int 2))) tNil))) (gName 1)) (tIfS (tTest (tOp (rNe2 K) (tOp (rIx K) (tVar 2) (tC (.int 0))) (tC (.str "skip")))) (tAsg (tOp (rAdd K) (tVar 1) (tF (sp_law_all_names K 18) (tCons (tOp (rIx K) (tVar 2) (tC (.int 1))) tNil))) (gName 1)) tNext)) (t_law_block_namesT_j1 K n))) (tRet (tVar 1))))
theorem names_j1 (K : PySem.W.Frag) (n : Nat) {D : Ends} {a p : Addr} {v : V} {w3 : Option V} {r : Rw} {ns : List Str} {L : List Str} {H : Hp} (hp : H p = some (.lst (L.map V.str))) (hr : RwAt K (SqT K) H v r) (ho : r.ok ns) (hn : r.nest ≤ n) (hz : r.size ≤ 1000) (hl : L.length + r.nms.length ≤ 10000000)
    (q : ∀ (p' : Addr) (H' : Hp) w, Same H H' → H' p' = some (.lst ((L ++ (r.parts.map bnms).flatten).map V.str)) → D.nx [some (.ref a), some (.ref p'), some v, w] H') :
    t_law_block_namesT_j1 K n D [some (.ref a), some (.ref p), some v, w3] H := by
  have npz := congrArg List.length (nms_parts r)
  rw [List.length_append] at npz
  unfold t_law_block_namesT_j1
  walk_at "gx"
  refine ⟨v, r, rfl, hr, fun pb ws H1 e1 nb hb hw => ?_⟩
  refine w_isL (SqL.of hb) ?_
  refine for_list (xs := ws) (fun i σ H' => Same H1 H' ∧ ∃ (p' : Addr) (w : Option V), H' p' = some (.lst ((L ++ ((r.parts.take i).map bnms).flatten).map V.str)) ∧ σ = [some (.ref a), some (.ref p'), some v, w])
    ⟨Same.refl _, p, _, by rw [List.take_zero]; show H1 p = some (.lst ((L ++ []).map V.str)); rw [List.append_nil]; exact e1 _ _ hp, rfl⟩ (fun i σ H' _ h => SqL.of (h.1 pb _ hb)) ?_ ?_
  · rintro i y σ H2 hy ⟨e2, p', w, hp', rfl⟩
    obtain ⟨b2, t, ys, hb1, rfl, hs1, hk1⟩ := hw.get hy
    have bm : b2 ∈ r.parts := List.mem_of_getElem? hb1
    have pn := parts_nest b2 bm
    have ps := part_size bm
    have e12 := e1.trans e2
    have tk : r.parts.take (i + 1) = r.parts.take i ++ [b2] := by rw [List.take_succ, hb1] <;> rfl
    have tl : (((r.parts.take (i + 1)).map bnms).flatten).length ≤ ((r.parts.map bnms).flatten).length := by
      have : r.parts.map bnms = (r.parts.take (i + 1)).map bnms ++ (r.parts.drop (i + 1)).map bnms := by rw [← List.map_append, List.take_append_drop]
      rw [this, List.flatten_append, List.length_append]
      omega
    rw [tk, List.map_append, List.flatten_append, List.length_append] at tl
    have f1 : ([b2].map bnms).flatten = bnms b2 := by simp
    rw [f1] at tl
    walk_at "gx"
    refine ⟨t, ys, b2, ns, rfl, same_t e12 hs1, hk1.monoS e12, parts_ok ho b2 bm, by omega, by omega, fun p3 H3 e3 hp3 => ?_⟩
    refine w_addL' (e3 _ _ hp') hp3 (sz (by rw [List.length_map, List.length_map, List.length_append]; omega)) (fun p4 H4 n4 e4 hp4 => ?_)
    rw [← List.map_append, List.append_assoc] at hp4
    walk_at "gx"
    exact ⟨e2.trans (e3.trans e4), p4, _, by rw [hp4, show L ++ ((r.parts.take (i + 1)).map bnms).flatten = L ++ (((r.parts.take i).map bnms).flatten ++ bnms b2) by rw [tk, List.map_append, List.flatten_append, f1]], rfl⟩
  · rintro σ H2 ⟨e2, p', w, hp', rfl⟩
    rw [hw.len, List.take_length] at hp'
    exact q p' H2 w (e1.trans e2) hp'
theorem pure_law_block_namesT (K : PySem.W.Frag) (n : Nat) (vs : List V) (H : Hp) (Q : VK) (E : XK) (h : sp_law_block_namesT K (n + 1) vs H Q E) :
    t_law_block_namesT K n { nx := fun _ H' => Q .non H', rt := Q } (start N_law_block_namesT vs) H := by
  obtain ⟨a, xs, b, ns, rfl, hs, hb, ho, hn, hz, q⟩ := h
  have all := bnms_le ho
  unfold t_law_block_namesT
  walk_at "gx"
  rename_i p0 H0 n0 e0 h0
  refine for_se (Hb := H) (xs := xs) (fun i σ H' => Same H H' ∧ ∃ (p : Addr) (w2 w3 : Option V), H' p = some (.lst ((bnms (b.take i)).map V.str)) ∧ σ = [some (.ref a), some (.ref p), w2, w3]) (.inr hs) ⟨e0, p0, _, _, h0, rfl⟩ (fun i σ H' h => h.1) ?_ ?_
  · rintro i x σ H1 hx ⟨e1, p, w2, w3, hp, rfl⟩
    obtain ⟨r, hr1, hr2⟩ := hb.get hx
    have rm : r ∈ b := List.mem_of_getElem? hr1
    have rn := nest_mem rm
    have rz := sz_mem rm
    have ro := oks_mem ho r rm
    have rl := nms_le ro
    have tk : b.take (i + 1) = b.take i ++ [r] := by rw [List.take_succ, hr1] <;> rfl
    have tz : bnms (b.take (i + 1)) = bnms (b.take i) ++ r.nms := by
      rw [tk, bnms_cat]
      show _ ++ (r.nms ++ []) = _
      rw [List.append_nil]
    have bl : (bnms (b.take (i + 1))).length ≤ (bnms b).length := by
      have : bnms b = bnms (b.take (i + 1)) ++ bnms (b.drop (i + 1)) := by rw [← bnms_cat, List.take_append_drop]
      rw [this, List.length_append]
      omega
    rw [tz, List.length_append] at bl
    have np := nms_parts r
    have npl := congrArg List.length np
    rw [List.length_append] at npl
    /- the row's own names are there -/
    have go : ∀ {p' : Addr} {H2 : Hp} {D : Ends}, Same H1 H2 → H2 p' = some (.lst ((bnms (b.take i) ++ r.ownN).map V.str)) →
        (∀ (p2 : Addr) (H3 : Hp) w, Same H H3 → H3 p2 = some (.lst ((bnms (b.take (i + 1))).map V.str)) → D.nx [some (.ref a), some (.ref p2), some x, w] H3) →
        t_law_block_namesT_j1 K n D [some (.ref a), some (.ref p'), some x, w3] H2 := fun {p' H2 D} e2 hp' k => by
      refine names_j1 K n hp' (hr2.monoS (e1.trans e2)) ro (by omega) (by omega) (by rw [List.length_append]; omega) fun p2 H3 w e3 h3 => ?_
      refine k p2 H3 w (e1.trans (e2.trans e3)) ?_
      rw [h3, tz, np, List.append_assoc]
    have done : ∀ {D : L2.St → Hp → Prop}, (∀ σ H', (Same H H' ∧ ∃ (p : Addr) (w2 w3 : Option V), H' p = some (.lst ((bnms (b.take (i + 1))).map V.str)) ∧ σ = [some (.ref a), some (.ref p), w2, w3]) → D σ H') → ∀ (p2 : Addr) (H3 : Hp) w, Same H H3 → H3 p2 = some (.lst ((bnms (b.take (i + 1))).map V.str)) → D [some (.ref a), some (.ref p2), some x, w] H3 :=
      fun h p2 H3 w e3 h3 => h _ _ ⟨e3, p2, _, _, h3, rfl⟩
    have hr3 := hr2.monoS e1
    cases r with
    | skip =>
      cases hr3 with
      | skip h =>
        walk_at "gx"
        exact go (Same.refl _) (by show H1 p = some (.lst ((bnms (b.take i) ++ []).map V.str)); rw [List.append_nil]; exact hp) (done fun _ _ h => h)
    | tell f =>
      cases hr3 with
      | tell h hf =>
        walk_at "gx"
        have nl := congrArg List.length (show (Rw.tell f).ownN = f.names from rfl)
        refine ⟨_, f, rfl, hf, (by have := ro.2; omega), (by have := ro.2; omega), fun p5 H5 e5 n5 h5 => ?_⟩
        refine w_addL' (e5 _ _ hp) h5 (sz (by rw [List.length_map, List.length_map]; omega)) (fun p6 H6 n6 e6 h6 => ?_)
        rw [← List.map_append] at h6
        walk_at "gx"
        exact go (e5.trans e6) h6 (done fun _ _ h => h)
    | set x' f =>
      cases hr3 with
      | set h hf =>
        walk_at "gx"
        rename_i p4 H4 n4 e4 h4
        have nl := congrArg List.length (show (Rw.set x' f).ownN = x' :: f.names from rfl)
        rw [List.length_cons] at nl
        refine w_addL' (e4 _ _ hp) h4 (sz (by rw [List.length_map]; show _ + 1 ≤ _; omega)) (fun p5 H5 n5 e5 h5 => ?_)
        have h5 : H5 p5 = some (.lst ((bnms (b.take i) ++ [x']).map V.str)) := by rw [h5, List.map_append] <;> rfl
        have hf5 := hf.mono (e4.trans e5)
        have h' := same_t (e4.trans e5) h
        walk_at "gx"
        refine ⟨_, f, rfl, hf5, (by have := ro.2.2; omega), (by have := ro.2.2; omega), fun p6 H6 e6 n6 h6 => ?_⟩
        refine w_addL' (e6 _ _ h5) h6 (sz (by rw [List.length_map, List.length_map, List.length_append]; show _ + 1 + _ ≤ _; omega)) (fun p7 H7 n7 e7 h7 => ?_)
        rw [← List.map_append, List.append_assoc] at h7
        walk_at "gx"
        exact go (e4.trans (e5.trans (e6.trans e7))) h7 (done fun _ _ h => h)
    | ite f b1 b2 =>
      cases hr3 with
      | ite h hf _ _ _ _ =>
        walk_at "gx"
        have nl := congrArg List.length (show (Rw.ite f b1 b2).ownN = f.names from rfl)
        refine ⟨_, f, rfl, hf, (by have := ro.1.2; omega), (by have := ro.1.2; omega), fun p5 H5 e5 n5 h5 => ?_⟩
        refine w_addL' (e5 _ _ hp) h5 (sz (by rw [List.length_map, List.length_map]; omega)) (fun p6 H6 n6 e6 h6 => ?_)
        rw [← List.map_append] at h6
        walk_at "gx"
        exact go (e5.trans e6) h6 (done fun _ _ h => h)
    | whl f b1 =>
      cases hr3 with
      | whl h hf _ _ =>
        walk_at "gx"
        have nl := congrArg List.length (show (Rw.whl f b1).ownN = f.names from rfl)
        refine ⟨_, f, rfl, hf, (by have := ro.1.2; omega), (by have := ro.1.2; omega), fun p5 H5 e5 n5 h5 => ?_⟩
        refine w_addL' (e5 _ _ hp) h5 (sz (by rw [List.length_map, List.length_map]; omega)) (fun p6 H6 n6 e6 h6 => ?_)
        rw [← List.map_append] at h6
        walk_at "gx"
        exact go (e5.trans e6) h6 (done fun _ _ h => h)
  · rintro σ H1 ⟨e1, p, w2, w3, hp, rfl⟩
    rw [hb.len, List.take_length] at hp
    walk_at "gx"
    exact q p H1 e1 hp
abbrev rInsert : V → List V → Hp → VK → Prop := fun x vs H Q => ∃ (l : Addr) (xs : List V) (i : Int) (y : V), x = .ref l ∧ vs = [.int i, y] ∧ H l = some (.lst xs) ∧ xs.length < sizeLine ∧ 0 ≤ i ∧ i < 2 ^ 63 ∧ Q .non (upd H l (.lst (xs.take i.toNat ++ [y] ++ xs.drop i.toNat)))
/-- what stands when the cases are looked at -/
structure WrC (K : PySem.W.Frag) (H : Hp) (a pr : Addr) (ns : List Str) (n0 n1 n2 n3 : Str) (xs : List V) (b : List Rw) (c : Int) (k : Nat) : Prop where
  hS : SqL K H a (ns.map V.str)
  hT : Ten ns
  at4 : ∃ rest, ns = n0 :: n1 :: n2 :: n3 :: rest
  hr : H pr = some (.lst xs)
  base : ∃ B, Same B H ∧ B pr = none ∧ SqL K B a (ns.map V.str) ∧ BkAt K (SqT K) B xs b
  rt : rts b
  nest : nests b ≤ 8
  size : szs b ≤ 130
  hk : k ≤ xs.length
theorem WrC.mono {K : PySem.W.Frag} {H H' : Hp} {a pr : Addr} {ns : List Str} {n0 n1 n2 n3 : Str} {xs : List V} {b : List Rw} {c : Int} {k : Nat} (e : Same H H') (h : WrC K H a pr ns n0 n1 n2 n3 xs b c k) : WrC K H' a pr ns n0 n1 n2 n3 xs b c k :=
  ⟨same_l e h.hS, h.hT, h.at4, e _ _ h.hr, (let ⟨B, h1, h2⟩ := h.base; ⟨B, h1.trans e, h2⟩), h.rt, h.nest, h.size, h.hk⟩
theorem goodN1 {n0 : Str} {ts : List Str} (h : Nm n0) (hn : n0 ∉ ts) : GoodN [n0] ts := ⟨fun x hx => by rw [List.mem_singleton.mp hx]; exact h, List.nodup_cons.mpr ⟨(fun h => nomatch h), List.nodup_nil⟩, fun x hx => by rw [List.mem_singleton.mp hx]; exact hn, by show 1 ≤ 1000; decide⟩
theorem goodN0 {ts : List Str} : GoodN [] ts := ⟨(fun _ h => nomatch h), List.nodup_nil, (fun _ h => nomatch h), by show 0 ≤ 1000; decide⟩
theorem word_name : decide (wordX "NoName" = "name") = true := by decide +kernel
theorem word_twice : decide (wordX "Twice" = "twice") = true := by decide +kernel
theorem word_row : decide (wordX "NoRow" = "row") = true := by decide +kernel
theorem word_deep : decide (wordX "TooDeep" = "deep") = true := by decide +kernel
theorem eight {j : Nat} (h : j < 8) : ∃ v T, ([.str "", .str "A", .str "if", .str "9", .non, .int 5, .str "abcdefghi", .str "a b"] : List V)[j]? = some v ∧ (∀ (K : PySem.W.Frag) (H : Hp), Thg K H v T) ∧ ShortV v ∧ nameV v = false := by
  have st : ∀ {s : Str}, s.length ≤ 1000000 → ShortV (.str s) := fun h x e => by cases e; exact h
  have c : j = 0 ∨ j = 1 ∨ j = 2 ∨ j = 3 ∨ j = 4 ∨ j = 5 ∨ j = 6 ∨ j = 7 := by omega
  rcases c with rfl | rfl | rfl | rfl | rfl | rfl | rfl | rfl
  · exact ⟨_, _, rfl, fun _ _ => .str _, st (by decide +kernel), by decide +kernel⟩
  · exact ⟨_, _, rfl, fun _ _ => .str _, st (by decide +kernel), by decide +kernel⟩
  · exact ⟨_, _, rfl, fun _ _ => .str _, st (by decide +kernel), by decide +kernel⟩
  · exact ⟨_, _, rfl, fun _ _ => .str _, st (by decide +kernel), by decide +kernel⟩
  · exact ⟨_, _, rfl, fun _ _ => .non, (fun x e => nomatch e), rfl⟩
  · exact ⟨_, _, rfl, fun _ _ => .int _, (fun x e => nomatch e), rfl⟩
  · exact ⟨_, _, rfl, fun _ _ => .str _, st (by decide +kernel), by decide +kernel⟩
  · exact ⟨_, _, rfl, fun _ _ => .str _, st (by decide +kernel), by decide +kernel⟩
theorem rts_take {l : List Rw} (k : Nat) (h : rts l) : rts (l.take k) := by
  have := List.take_append_drop k l
  rw [← this] at h
  exact (rts_app.mp h).1
theorem szs_tk (l : List Rw) (k : Nat) : szs (l.take k) ≤ szs l := by
  have := congrArg szs (List.take_append_drop k l)
  rw [szs_app] at this
  omega
theorem GoodR.take {K : PySem.W.Frag} {H : Hp} {xs : List V} {d : Nat} {b : List Rw} (k : Nat) (h : GoodR K H xs d b) : GoodR K H (xs.take k) d (b.take k) :=
  ⟨h.at_.take k, rts_take k h.rt, (by have := h.nest; have := nests_take b k; omega), (by have := h.size; have := szs_tk b k; omega)⟩
/-- the four names told -/
theorem told4 {ns : List Str} {n0 n1 n2 n3 : Str} {rest : List Str} (hT : Ten ns) (e : ns = n0 :: n1 :: n2 :: n3 :: rest) : GoodN [n0, n1] [] ∧ GoodN [n2, n3] [n0, n1] := by
  have nd := hT.nd
  have nm : ∀ x ∈ [n0, n1, n2, n3], Nm x := fun x hx => hT.nm x (by rw [e]; simp only [List.mem_cons, List.not_mem_nil, or_false] at hx ⊢; rcases hx with h | h | h | h <;> simp [h])
  rw [e] at nd
  simp only [List.nodup_cons, List.mem_cons, not_or] at nd
  obtain ⟨⟨a1, a2, a3, _⟩, ⟨b1, b2, _⟩, ⟨c1, _⟩, _⟩ := nd
  refine ⟨⟨fun x hx => nm x ?_, ?_, (fun x _ h => nomatch h), by show 2 ≤ 1000; decide⟩, ⟨fun x hx => nm x ?_, ?_, fun x hx hm => ?_, by show 2 ≤ 1000; decide⟩⟩
  · simp only [List.mem_cons, List.not_mem_nil, or_false] at hx ⊢
    rcases hx with h | h <;> simp [h]
  · simp [a1]
  · simp only [List.mem_cons, List.not_mem_nil, or_false] at hx ⊢
    rcases hx with h | h <;> simp [h]
  · simp [c1]
  · simp only [List.mem_cons, List.not_mem_nil, or_false] at hx hm
    rcases hx with rfl | rfl <;> rcases hm with rfl | rfl
    · exact a2 rfl
    · exact b1 rfl
    · exact a3 rfl
    · exact b2 rfl
/-- the first thing that is wrong decides -/
theorem bad_at {K : PySem.W.Frag} {H : Hp} {x y : V} {ax ay pr : Addr} {os ss : List Str} {rp rq : List V} {w : V} {b : List Rw} {c : Str} (hx : x = .ref ax) (hy : y = .ref ay) (sx : SE K H ax (os.map V.str)) (sy : SE K H ay (ss.map V.str)) (g : GoodN os []) (g2 : GoodN ss os)
    (hr : SE K H pr (rp ++ w :: rq)) (gr : GoodR K H rp 1 b) (l : (rp ++ w :: rq).length ≤ 100000) (bad : BadRow K H w 1 c) : Bad3 K H x y (.ref pr) c := .block hx sx g hy sy g2 (.inl ⟨pr, rp, w, rq, b, rfl, hr, gr, l, bad⟩)
def sp_law_wrongT (K : PySem.W.Frag) : Sp := fun vs H Q _ => ∃ (a pb : Addr) (ns : List Str) (xs : List V) (b : List Rw) (c : Int), vs = [.ref a, .ref pb, .int c] ∧ SqL K H a (ns.map V.str) ∧ Ten ns ∧ SqT K H pb xs ∧ BkAt K (SqT K) H xs b ∧ oks ns b ∧ nests b ≤ 8 ∧ szs b ≤ 130 ∧ ∀ H', Q (.bl true) H'
abbrev N_law_wrongT : List Str := ["_law_names_here", "_law_block", "_law_cell", "_law_rows", "_law_at", "_law_more", "_law_wrong_here", "_law_pairs", "_law_found"]
noncomputable def t_law_wrongT_j1 (K : PySem.W.Frag) : TS :=
  (tSeq (tIfS (tTest (tOp (rEq2 K) (tOp rMod (tVar 2) (tC (.int 8))) (tC (.int 6)))) (tRet (tOp (rEq2 K) (tF (sp_law_refusedT K) (tCons (tLst tNil) (tCons (tLst tNil) (tCons (tOp (rAdd K) (tOp (rAdd K) (tVar 3) (tF (sp_law_nestedT K) (tCons (tOp (rAdd K) (tC (.int 9)) (tOp rMod (tOp rDiv (tVar 5) (tC (.int 3))) (tC (.int 3)))) tNil))) (tLst (tCons (tC (.int 5)) tNil))) tNil)))) (tC (.str "deep")))) tNext) (tSeq (tIfS (tTest (tOp (rNe2 K) (tF (sp_law_refusedT K) (tCons (tLst tNil) (tCons (tLst tNil) (tCons (tOp (rAdd K) (tF (sp_law_nestedT K) (tCons (tC (.int 8)) tNil)) (tLst (tCons (tTup (tCons (tC (.str "tell")) (tCons (tF (sp_law_chainT K) (tCons (tC (.str "a")) (tCons (tC (.int 12)) tNil))) tNil))) tNil))) tNil)))) (tC (.str "made")))) (tRet (tC (.bl false))) tNext) (tRet (tOp (rEq2 K) (tF (sp_law_refusedT K) (tCons (tLst tNil) (tCons (tLst tNil) (tCons (tOp (rIx K) (tLst (tCons (tC .non) (tCons (tC (.str "x")) (tCons (tC (.int 5)) (tCons tDNewK tNil))))) (tOp rMod (tVar 5) (tC (.int 4)))) tNil)))) (tC (.str "row"))))))
noncomputable def t_law_wrongT_j2 (K : PySem.W.Frag) : TS :=
  (tSeq (tIfS (tAnd (tTest (tOp (rEq2 K) (tOp rMod (tVar 2) (tC (.int 8))) (tC (.int 6)))) (tTest (tOp rGt (tOp rMod (tVar 5) (tC (.int 3))) (tC (.int 0))))) (tSeq (tAsg (tF (sp_law_twoT K) (tCons (tOp rDiv (tVar 5) (tC (.int 3))) tNil)) (gName 8)) (tSeq (tDrop (tBM K "list" rInsert (tVar 3) (tCons (tVar 4) (tCons (tOp (rIx K) (tVar 8) (tC (.int 0))) tNil)))) (tRet (tOp (rEq2 K) (tF (sp_law_refusedT K) (tCons (tSl (rSl K) (tVar 0) tNoPart (tPart (tC (.int 2)))) (tCons (tSl (rSl K) (tVar 0) (tPart (tC (.int 2))) (tPart (tC (.int 4)))) (tCons (tOp (rAdd K) (tVar 3) (tLst (tCons (tC (.int 5)) tNil))) tNil)))) (tOp (rIx K) (tVar 8) (tC (.int 1))))))) tNext) (t_law_wrongT_j1 K))
noncomputable def t_law_wrongT_j3 (K : PySem.W.Frag) : TS :=
  (tSeq (tIfS (tTest (tOp (rEq2 K) (tOp rMod (tVar 2) (tC (.int 8))) (tC (.int 5)))) (tSeq (tDrop (tBM K "list" rInsert (tVar 3) (tCons (tVar 4) (tCons (tOp (rIx K) (tLst (tCons (tTup (tCons (tC (.str "tell")) (tCons (tF (sp_law_chainT K) (tCons (tC (.str "a")) (tCons (tC (.int 13)) tNil))) tNil))) (tCons (tTup (tCons (tC (.str "set")) (tCons (tC (.str "a")) (tCons (tF (sp_law_chainT K) (tCons (tC (.str "a")) (tCons (tC (.int 20)) tNil))) tNil)))) tNil))) (tOp rMod (tVar 5) (tC (.int 2)))) tNil)))) (tRet (tOp (rEq2 K) (tF (sp_law_refusedT K) (tCons (tSl (rSl K) (tVar 0) tNoPart (tPart (tC (.int 2)))) (tCons (tSl (rSl K) (tVar 0) (tPart (tC (.int 2))) (tPart (tC (.int 4)))) (tCons (tOp (rAdd K) (tVar 3) (tLst (tCons (tC (.int 5)) tNil))) tNil)))) (tC (.str "deep"))))) tNext) (t_law_wrongT_j2 K))
noncomputable def t_law_wrongT_j4 (K : PySem.W.Frag) : TS :=
  (tSeq (tIfS (tTest (tOp rLt (tOp rMod (tVar 2) (tC (.int 8))) (tC (.int 5)))) (tSeq (tDrop (tBM K "list" rInsert (tVar 3) (tCons (tVar 4) (tCons (tF (sp_law_wrong_rowT K) (tCons (tVar 0) (tCons (tF (sp_law_mixed K) (tCons (tVar 2) tNil)) tNil))) tNil)))) (tSeq (tDrop (tBM K "list" rAppend (tVar 3) (tCons (tTup (tCons (tC (.str "tell")) (tCons (tF (sp_law_chainT K) (tCons (tC (.str "a")) (tCons (tC (.int 13)) tNil))) tNil))) tNil))) (tSeq (tIfS (tTest (tOp (rNe2 K) (tF (sp_law_refusedT K) (tCons (tSl (rSl K) (tVar 0) tNoPart (tPart (tC (.int 2)))) (tCons (tSl (rSl K) (tVar 0) (tPart (tC (.int 2))) (tPart (tC (.int 4)))) (tCons (tVar 3) tNil)))) (tC (.str "row")))) (tRet (tC (.bl false))) tNext) (tSeq (tDrop (tBM K "list" rPopAt (tVar 3) (tCons (tVar 4) tNil))) (tSeq (tIfS (tTest (tOp (rNe2 K) (tF (sp_law_refusedT K) (tCons (tSl (rSl K) (tVar 0) tNoPart (tPart (tC (.int 2)))) (tCons (tSl (rSl K) (tVar 0) (tPart (tC (.int 2))) (tPart (tC (.int 4)))) (tCons (tVar 3) tNil)))) (tC (.str "deep")))) (tRet (tC (.bl false))) tNext) (tSeq (tDrop (tBM0 K "list" rPop (tVar 3))) (tRet (tOp (rEq2 K) (tF (sp_law_refusedT K) (tCons (tSl (rSl K) (tVar 0) tNoPart (tPart (tC (.int 2)))) (tCons (tSl (rSl K) (tVar 0) (tPart (tC (.int 2))) (tPart (tC (.int 4)))) (tCons (tVar 3) tNil)))) (tC (.str "made")))))))))) tNext) (t_law_wrongT_j3 K))
noncomputable def t_law_wrongT_j5 (K : PySem.W.Frag) : TS :=
  (tSeq (tIfS (tTest (tOp (rEq2 K) (tOp rMod (tVar 2) (tC (.int 8))) (tC (.int 2)))) (tSeq (tAsg (tOp (rIx K) (tLst (tCons (tLst (tCons (tC .non) (tCons (tLst tNil) tNil))) (tCons (tLst (tCons (tOp (rIx K) (tVar 0) (tC (.int 0))) (tCons (tLst tNil) tNil))) (tCons (tLst (tCons (tLst tNil) (tCons (tOp (rIx K) (tVar 0) (tC (.int 0))) tNil))) (tCons (tLst (tCons (tLst tNil) (tCons (tC (.int 5)) tNil))) tNil))))) (tOp rMod (tVar 5) (tC (.int 4)))) (gName 7)) (tRet (tOp (rEq2 K) (tF (sp_law_refusedT K) (tCons (tOp (rIx K) (tVar 7) (tC (.int 0))) (tCons (tOp (rIx K) (tVar 7) (tC (.int 1))) (tCons (tLst (tCons (tC (.int 5)) tNil)) tNil)))) (tC (.str "name"))))) tNext) (t_law_wrongT_j4 K))
noncomputable def t_law_wrongT_j6 (K : PySem.W.Frag) : TS :=
  (tSeq (tIfS (tTest (tOp (rEq2 K) (tOp rMod (tVar 2) (tC (.int 8))) (tC (.int 1)))) (tSeq (tAsg (tLst (tCons (tLst (tCons (tLst (tCons (tOp (rIx K) (tVar 0) (tC (.int 0))) (tCons (tOp (rIx K) (tVar 0) (tC (.int 0))) tNil))) (tCons (tLst tNil) tNil))) (tCons (tLst (tCons (tLst (tCons (tOp (rIx K) (tVar 0) (tC (.int 0))) tNil)) (tCons (tLst (tCons (tOp (rIx K) (tVar 0) (tC (.int 1))) (tCons (tOp (rIx K) (tVar 0) (tC (.int 0))) tNil))) tNil))) tNil))) (gName 7)) (tSeq (tAsg (tOp (rIx K) (tOp (rAdd K) (tVar 7) (tLst (tCons (tLst (tCons (tLst tNil) (tCons (tLst (tCons (tOp (rIx K) (tVar 0) (tC (.int 0))) (tCons (tOp (rIx K) (tVar 0) (tC (.int 0))) (tCons (tC (.int 5)) tNil)))) tNil))) (tCons (tLst (tCons (tLst (tCons (tOp (rIx K) (tVar 0) (tC (.int 0))) (tCons (tOp (rIx K) (tVar 0) (tC (.int 0))) tNil))) (tCons (tC .non) tNil))) tNil)))) (tOp rMod (tVar 5) (tC (.int 4)))) (gName 7)) (tRet (tOp (rEq2 K) (tF (sp_law_refusedT K) (tCons (tOp (rIx K) (tVar 7) (tC (.int 0))) (tCons (tOp (rIx K) (tVar 7) (tC (.int 1))) (tCons (tLst (tCons (tC (.int 5)) tNil)) tNil)))) (tC (.str "twice")))))) tNext) (t_law_wrongT_j5 K))
noncomputable def t_law_wrongT_j7 (K : PySem.W.Frag) : TS :=
  (tSeq (tIfS (tTest (tOp (rEq2 K) (tOp rMod (tVar 2) (tC (.int 8))) (tC (.int 0)))) (tSeq (tAsg (tOp (rIx K) (tLst (tCons (tC (.str "")) (tCons (tC (.str "A")) (tCons (tC (.str "if")) (tCons (tC (.str "9")) (tCons (tC .non) (tCons (tC (.int 5)) (tCons (tC (.str "abcdefghi")) (tCons (tC (.str "a b")) tNil))))))))) (tOp rMod (tVar 5) (tC (.int 8)))) (gName 6)) (tRet (tOp (rEq2 K) (tF (sp_law_refusedT K) (tCons (tLst (tCons (tOp (rIx K) (tVar 0) (tC (.int 0))) (tCons (tVar 6) tNil))) (tCons (tLst (tCons (tVar 6) (tCons (tOp (rIx K) (tVar 0) (tC (.int 0))) tNil))) (tCons (tVar 3) tNil)))) (tC (.str "name"))))) tNext) (t_law_wrongT_j6 K))
noncomputable def t_law_wrongT (K : PySem.W.Frag) : TS :=
  (tSeq (tAsg (tCB (rList K) (tCons (tVar 1) tNil)) (gName 3)) (tSeq (tAsg (tOp rMod (tOp rDiv (tVar 2) (tC (.int 8))) (tOp (rAdd K) (tCB (rLenA K) (tCons (tVar 3) tNil)) (tC (.int 1)))) (gName 4)) (tSeq (tAsg (tOp rDiv (tVar 2) (tC (.int 8))) (gName 5)) (t_law_wrongT_j7 K))))
theorem wrong_j7 (K : PySem.W.Frag) (Q : VK) {H : Hp} {a pb pr : Addr} {ns : List Str} {n0 n1 n2 n3 : Str} {xs : List V} {b : List Rw} {c : Int} {k : Nat} (w : WrC K H a pr ns n0 n1 n2 n3 xs b c k) (q : ∀ H', Q (.bl true) H')
    (k6 : t_law_wrongT_j6 K { nx := fun _ H' => Q .non H', rt := Q } [some (.ref a), some (.ref pb), some (.int c), some (.ref pr), some (.int (k : Nat)), some (.int (c / 8)), none, none, none] H) :
    t_law_wrongT_j7 K { nx := fun _ H' => Q .non H', rt := Q } [some (.ref a), some (.ref pb), some (.int c), some (.ref pr), some (.int (k : Nat)), some (.int (c / 8)), none, none, none] H := by
  obtain ⟨rest, nse⟩ := w.at4
  have n0m : Nm n0 := w.hT.nm n0 (by rw [nse]; exact List.mem_cons_self)
  have n0i : atI (ns.map V.str) 0 = some (.str n0) := atI_nat (j := 0) (by rw [nse] <;> rfl)
  have hS := w.hS
  unfold t_law_wrongT_j7
  walk_at "gx"
  refine w_two (fun _ => ?yes) (fun _ => ?no)
  case no => walk_at "gx"; exact k6
  walk_at "gx"
  rename_i p1 H1 m1 e1 h1
  have m := mod_in (c / 8) (show (0 : Int) < 8 by decide)
  obtain ⟨j, hj⟩ := Int.eq_ofNat_of_zero_le m.1
  obtain ⟨v, T, at_, t, l, nv⟩ := eight (j := j) (by omega)
  rw [show c / 8 % 8 = ((j : Nat) : Int) from hj]
  refine w_ixL (SqL.of h1) (atI_nat at_) ?_
  walk_at "gx"
  refine w_ixL (v := .str n0) (same_l e1 hS) n0i ?_
  walk_at "gx"
  rename_i p2 H2 m2 e2 h2
  refine w_ixL (v := .str n0) (same_l (e1.trans e2) hS) n0i ?_
  walk_at "gx"
  rename_i p3 H3 m3 e3 h3
  refine ⟨_, _, _, rfl, .inr ⟨"NoName", .opens (.name (ns := [n0]) (us := []) (.inl (SqL.of (e3 _ _ h2))) (goodN1 n0m (fun h => nomatch h)) (t K H3) l nv), fun H4 e4 => ?_⟩⟩
  walk_at "gx"
  rw [word_name]
  exact q H4
theorem wrong_j6 (K : PySem.W.Frag) (Q : VK) {H : Hp} {a pb pr : Addr} {ns : List Str} {n0 n1 n2 n3 : Str} {xs : List V} {b : List Rw} {c : Int} {k : Nat} (w : WrC K H a pr ns n0 n1 n2 n3 xs b c k) (q : ∀ H', Q (.bl true) H')
    (k5 : t_law_wrongT_j5 K { nx := fun _ H' => Q .non H', rt := Q } [some (.ref a), some (.ref pb), some (.int c), some (.ref pr), some (.int (k : Nat)), some (.int (c / 8)), none, none, none] H) :
    t_law_wrongT_j6 K { nx := fun _ H' => Q .non H', rt := Q } [some (.ref a), some (.ref pb), some (.int c), some (.ref pr), some (.int (k : Nat)), some (.int (c / 8)), none, none, none] H := by
  obtain ⟨rest, nse⟩ := w.at4
  have nd := w.hT.nd
  rw [nse] at nd
  have n0m : Nm n0 := w.hT.nm n0 (by rw [nse]; exact List.mem_cons_self)
  have n1m : Nm n1 := w.hT.nm n1 (by rw [nse]; exact List.mem_cons_of_mem _ List.mem_cons_self)
  have n10 : n1 ∉ [n0] := fun h => (List.nodup_cons.mp nd).1 (by rw [← List.mem_singleton.mp h]; exact List.mem_cons_self)
  have hS : SqL K H a (.str n0 :: .str n1 :: .str n2 :: .str n3 :: rest.map V.str) := by have := w.hS; rw [nse] at this; exact this
  have i0 : atI (V.str n0 :: V.str n1 :: V.str n2 :: V.str n3 :: rest.map V.str) 0 = some (.str n0) := at0
  have i1 : atI (V.str n0 :: V.str n1 :: V.str n2 :: V.str n3 :: rest.map V.str) 1 = some (.str n1) := atI_nat (j := 1) rfl
  unfold t_law_wrongT_j6
  walk_at "gx"
  refine w_two (fun _ => ?yes) (fun _ => ?no)
  case no => walk_at "gx"; exact k5
  walk_at "gx"
  refine w_ixL (same_l (by walk_at "ss") hS) i0 ?_
  walk_at "gx"
  refine w_ixL (same_l (by walk_at "ss") hS) i0 ?_
  walk_at "gx"
  refine w_ixL (same_l (by walk_at "ss") hS) i0 ?_
  walk_at "gx"
  refine w_ixL (same_l (by walk_at "ss") hS) i1 ?_
  walk_at "gx"
  refine w_ixL (same_l (by walk_at "ss") hS) i0 ?_
  walk_at "gx"
  refine w_ixL (same_l (by walk_at "ss") hS) i0 ?_
  walk_at "gx"
  refine w_ixL (same_l (by walk_at "ss") hS) i0 ?_
  walk_at "gx"
  refine w_ixL (same_l (by walk_at "ss") hS) i0 ?_
  walk_at "gx"
  refine w_ixL (same_l (by walk_at "ss") hS) i0 ?_
  walk_at "gx"
  rename_i p1 G1 m1 e1 h1 p2 G2 m2 e2 h2 p3 G3 m3 e3 h3 p4 G4 m4 e4 h4 p5 G5 m5 e5 h5 p6 G6 m6 e6 h6 p7 G7 m7 e7 h7 p8 G8 m8 e8 h8 p9 G9 m9 e9 h9 p10 G10 m10 e10 h10 p11 G11 m11 e11 h11 p12 G12 m12 e12 h12 p13 G13 m13 e13 h13
  refine w_addL' ((e8.trans (e9.trans (e10.trans (e11.trans (e12.trans e13))))) _ _ h7) h13 (sz (by show 2 + 2 ≤ _; decide)) (fun p14 G14 n14 e14 h14 => ?_)
  have h14 : G14 p14 = some (.lst [.ref p3, .ref p6, .ref p10, .ref p12]) := h14
  have fin : ∀ {j : Nat} {pp : Addr} {x y : V}, ([.ref p3, .ref p6, .ref p10, .ref p12] : List V)[j]? = some (.ref pp) → G14 pp = some (.lst [x, y]) → (∀ z, Bad3 K G14 x y z "Twice") → c / 8 % 4 = ((j : Nat) : Int) →
      rIx K (.ref p14) (.int (c / 8 % 4)) G14 fun v H1 => tRet (tOp (rEq2 K) (tF (sp_law_refusedT K) (tCons (tOp (rIx K) (tVar 7) (tC (.int 0))) (tCons (tOp (rIx K) (tVar 7) (tC (.int 1))) (tCons (tLst (tCons (tC (.int 5)) tNil)) tNil)))) (tC (.str "twice"))) { nx := fun _ H' => Q .non H', rt := Q } [some (.ref a), some (.ref pb), some (.int c), some (.ref pr), some (.int (k : Nat)), some (.int (c / 8)), none, some v, none] H1 := fun {j pp x y} at_ hpp bad hj => by
    rw [hj]
    refine w_ixL (SqL.of h14) (atI_nat at_) ?_
    walk_at "gx"
    rename_i p15 G15 n15 e15 h15
    refine ⟨x, y, _, rfl, .inr ⟨"Twice", (bad _).mono e15, fun H4 e4 => ?_⟩⟩
    walk_at "gx"
    rw [word_twice]
    exact q H4
  walk_at "gx"
  have m := mod_in (c / 8) (show (0 : Int) < 4 by decide)
  have cc : c / 8 % 4 = 0 ∨ c / 8 % 4 = 1 ∨ c / 8 % 4 = 2 ∨ c / 8 % 4 = 3 := by omega
  have l1 : G14 p1 = some (.lst [.str n0, .str n0]) := (e2.trans (e3.trans (e4.trans (e5.trans (e6.trans (e7.trans (e8.trans (e9.trans (e10.trans (e11.trans (e12.trans (e13.trans e14)))))))))))) _ _ h1
  have l3 : G14 p3 = some (.lst [.ref p1, .ref p2]) := (e4.trans (e5.trans (e6.trans (e7.trans (e8.trans (e9.trans (e10.trans (e11.trans (e12.trans (e13.trans e14)))))))))) _ _ h3
  have l4 : G14 p4 = some (.lst [.str n0]) := (e5.trans (e6.trans (e7.trans (e8.trans (e9.trans (e10.trans (e11.trans (e12.trans (e13.trans e14))))))))) _ _ h4
  have l5 : G14 p5 = some (.lst [.str n1, .str n0]) := (e6.trans (e7.trans (e8.trans (e9.trans (e10.trans (e11.trans (e12.trans (e13.trans e14)))))))) _ _ h5
  have l6 : G14 p6 = some (.lst [.ref p4, .ref p5]) := (e7.trans (e8.trans (e9.trans (e10.trans (e11.trans (e12.trans (e13.trans e14))))))) _ _ h6
  have l8 : G14 p8 = some (.lst []) := (e9.trans (e10.trans (e11.trans (e12.trans (e13.trans e14))))) _ _ h8
  have l9 : G14 p9 = some (.lst [.str n0, .str n0, .int 5]) := (e10.trans (e11.trans (e12.trans (e13.trans e14)))) _ _ h9
  have l10 : G14 p10 = some (.lst [.ref p8, .ref p9]) := (e11.trans (e12.trans (e13.trans e14))) _ _ h10
  have l11 : G14 p11 = some (.lst [.str n0, .str n0]) := (e12.trans (e13.trans e14)) _ _ h11
  have l12 : G14 p12 = some (.lst [.ref p11, .non]) := (e13.trans e14) _ _ h12
  have no : n0 ∉ ([] : List Str) := fun h => nomatch h
  rcases cc with j | j | j | j
  · exact fin (j := 0) rfl l3 (fun z => .opens (.twice (ns := [n0]) (us := []) (.inl (SqL.of l1)) (goodN1 n0m no) n0m (.inr List.mem_cons_self))) j
  · exact fin (j := 1) rfl l6 (fun z => .secrets (os := [n0]) rfl (.inl (SqL.of l4)) (goodN1 n0m no) (.twice (ns := [n1]) (us := []) (.inl (SqL.of l5)) (goodN1 n1m n10) n0m (.inl List.mem_cons_self))) j
  · exact fin (j := 2) rfl l10 (fun z => .secrets (os := []) rfl (.inl (SqL.of l8)) goodN0 (.twice (ns := [n0]) (us := [.int 5]) (.inl (SqL.of l9)) (goodN1 n0m no) n0m (.inr List.mem_cons_self))) j
  · exact fin (j := 3) rfl l12 (fun z => .opens (.twice (ns := [n0]) (us := []) (.inl (SqL.of l11)) (goodN1 n0m no) n0m (.inr List.mem_cons_self))) j
theorem wrong_j5 (K : PySem.W.Frag) (Q : VK) {H : Hp} {a pb pr : Addr} {ns : List Str} {n0 n1 n2 n3 : Str} {xs : List V} {b : List Rw} {c : Int} {k : Nat} (w : WrC K H a pr ns n0 n1 n2 n3 xs b c k) (q : ∀ H', Q (.bl true) H')
    (k4 : t_law_wrongT_j4 K { nx := fun _ H' => Q .non H', rt := Q } [some (.ref a), some (.ref pb), some (.int c), some (.ref pr), some (.int (k : Nat)), some (.int (c / 8)), none, none, none] H) :
    t_law_wrongT_j5 K { nx := fun _ H' => Q .non H', rt := Q } [some (.ref a), some (.ref pb), some (.int c), some (.ref pr), some (.int (k : Nat)), some (.int (c / 8)), none, none, none] H := by
  obtain ⟨rest, nse⟩ := w.at4
  have hS : SqL K H a (.str n0 :: .str n1 :: .str n2 :: .str n3 :: rest.map V.str) := by have := w.hS; rw [nse] at this; exact this
  have i0 : atI (V.str n0 :: V.str n1 :: V.str n2 :: V.str n3 :: rest.map V.str) 0 = some (.str n0) := at0
  unfold t_law_wrongT_j5
  walk_at "gx"
  refine w_two (fun _ => ?yes) (fun _ => ?no)
  case no => walk_at "gx"; exact k4
  walk_at "gx"
  refine w_ixL (same_l (by walk_at "ss") hS) i0 ?_
  walk_at "gx"
  refine w_ixL (same_l (by walk_at "ss") hS) i0 ?_
  walk_at "gx"
  rename_i p1 G1 m1 e1 h1 p2 G2 m2 e2 h2 p3 G3 m3 e3 h3 p4 G4 m4 e4 h4 p5 G5 m5 e5 h5 p6 G6 m6 e6 h6 p7 G7 m7 e7 h7 p8 G8 m8 e8 h8 p9 G9 m9 e9 h9
  have fin : ∀ {j : Nat} {pp : Addr} {x y : V}, ([.ref p2, .ref p4, .ref p6, .ref p8] : List V)[j]? = some (.ref pp) → G9 pp = some (.lst [x, y]) → (∀ z, Bad3 K G9 x y z "NoName") → c / 8 % 4 = ((j : Nat) : Int) →
      rIx K (.ref p9) (.int (c / 8 % 4)) G9 fun v H1 => tRet (tOp (rEq2 K) (tF (sp_law_refusedT K) (tCons (tOp (rIx K) (tVar 7) (tC (.int 0))) (tCons (tOp (rIx K) (tVar 7) (tC (.int 1))) (tCons (tLst (tCons (tC (.int 5)) tNil)) tNil)))) (tC (.str "name"))) { nx := fun _ H' => Q .non H', rt := Q } [some (.ref a), some (.ref pb), some (.int c), some (.ref pr), some (.int (k : Nat)), some (.int (c / 8)), none, some v, none] H1 := fun {j pp x y} at_ hpp bad hj => by
    rw [hj]
    refine w_ixL (SqL.of h9) (atI_nat at_) ?_
    walk_at "gx"
    rename_i p15 G15 n15 e15 h15
    refine ⟨x, y, _, rfl, .inr ⟨"NoName", (bad _).mono e15, fun H4 e4 => ?_⟩⟩
    walk_at "gx"
    rw [word_name]
    exact q H4
  have m := mod_in (c / 8) (show (0 : Int) < 4 by decide)
  have cc : c / 8 % 4 = 0 ∨ c / 8 % 4 = 1 ∨ c / 8 % 4 = 2 ∨ c / 8 % 4 = 3 := by omega
  have l2 : G9 p2 = some (.lst [.non, .ref p1]) := (e3.trans (e4.trans (e5.trans (e6.trans (e7.trans (e8.trans e9)))))) _ _ h2
  have l4 : G9 p4 = some (.lst [.str n0, .ref p3]) := (e5.trans (e6.trans (e7.trans (e8.trans e9)))) _ _ h4
  have l5 : G9 p5 = some (.lst []) := (e6.trans (e7.trans (e8.trans e9))) _ _ h5
  have l6 : G9 p6 = some (.lst [.ref p5, .str n0]) := (e7.trans (e8.trans e9)) _ _ h6
  have l7 : G9 p7 = some (.lst []) := (e8.trans e9) _ _ h7
  have l8 : G9 p8 = some (.lst [.ref p7, .int 5]) := e9 _ _ h8
  rcases cc with j | j | j | j
  · exact fin (j := 0) rfl l2 (fun z => .opens (.odd .non (by decide))) j
  · exact fin (j := 1) rfl l4 (fun z => .opens (.odd (.str _) (by decide))) j
  · exact fin (j := 2) rfl l6 (fun z => .secrets (os := []) rfl (.inl (SqL.of l5)) goodN0 (.odd (.str _) (by decide))) j
  · exact fin (j := 3) rfl l8 (fun z => .secrets (os := []) rfl (.inl (SqL.of l7)) goodN0 (.odd (.int _) (by decide))) j
theorem cut_mid {xs : List V} {i j : Nat} (h : i ≤ j) (l : j ≤ xs.length) : cutV xs (some (i : Int)) (some (j : Int)) = (xs.drop i).take (j - i) := by
  unfold cutV
  rw [show HT.sIx xs.length 0 (some (i : Int)) = min i xs.length from HT.sIx_nat _ _ i, show HT.sIx xs.length xs.length (some (j : Int)) = min j xs.length from HT.sIx_nat _ _ j, Nat.min_eq_left l, Nat.min_eq_left (Nat.le_trans h l)]
section
variable {K : PySem.W.Frag} {H : Hp} {Q : VK}
theorem w_sl02 {a : Addr} {ns : List Str} {n0 n1 n2 n3 : Str} (hS : SqL K H a (ns.map V.str)) (h4 : ∃ rest, ns = n0 :: n1 :: n2 :: n3 :: rest) (q : ∀ p H', H p = none → Same H H' → H' p = some (.lst ([n0, n1].map V.str)) → Q (.ref p) H') : rSl K (.ref a) none (some 2) H Q := by
  obtain ⟨rest, e⟩ := h4
  refine w_slL' hS fun p H' n1 e1 h1 => q p H' n1 e1 ?_
  rw [show cutV (ns.map V.str) none (some 2) = (ns.take 2).map V.str from cut_lo (k := 2), e] at h1
  exact h1
theorem w_sl24 {a : Addr} {ns : List Str} {n0 n1 n2 n3 : Str} (hS : SqL K H a (ns.map V.str)) (h4 : ∃ rest, ns = n0 :: n1 :: n2 :: n3 :: rest) (q : ∀ p H', H p = none → Same H H' → H' p = some (.lst ([n2, n3].map V.str)) → Q (.ref p) H') : rSl K (.ref a) (some 2) (some 4) H Q := by
  obtain ⟨rest, e⟩ := h4
  refine w_slL' hS fun p H' n1 e1 h1 => q p H' n1 e1 ?_
  rw [show cutV (ns.map V.str) (some 2) (some 4) = ((ns.map V.str).drop 2).take (4 - 2) from cut_mid (i := 2) (j := 4) (by decide) (by rw [List.length_map, e]; simp only [List.length_cons]; omega), e] at h1
  exact h1
theorem w_ins {l : Addr} {xs : List V} {k : Nat} {y : V} (h : H l = some (.lst xs)) (z : xs.length ≤ 1000000) (hk : k ≤ xs.length) (q : ∀ H', SameX l H H' → H' l = some (.lst (xs.take k ++ y :: xs.drop k)) → Q .non H') : rInsert (.ref l) [.int (k : Nat), y] H Q := by
  refine ⟨l, xs, (k : Nat), y, rfl, rfl, h, lt_line (by omega), by omega, by omega, ?_⟩
  rw [Int.toNat_natCast, List.append_assoc]
  exact q _ SameX.upd upd_same
theorem w_popAt {l : Addr} {xs ys : List V} {k : Nat} {y : V} (h : H l = some (.lst (xs ++ y :: ys))) (hk : xs.length = k) (z : k ≤ 1000000) (q : ∀ H', SameX l H H' → H' l = some (.lst (xs ++ ys)) → Q y H') : rPopAt (.ref l) [.int (k : Nat)] H Q := by
  subst hk
  have er : (xs ++ y :: ys).eraseIdx xs.length = xs ++ ys := by
    rw [List.eraseIdx_append_of_length_le (Nat.le_refl _), Nat.sub_self, List.eraseIdx_cons_zero]
  have lt : ((xs.length : Nat) : Int) < (((xs ++ y :: ys).length : Nat) : Int) := by rw [List.length_append, List.length_cons]; omega
  refine ⟨l, _, ((xs.length : Nat) : Int), xs.length, y, rfl, rfl, h, Int.le_trans (by decide : (-(2 ^ 63) : Int) ≤ 0) (Int.natCast_nonneg _), by omega, ?_, ?_, ?_⟩
  · have neg : ¬ (((xs.length : Nat) : Int) < 0) := by omega
    have pos : (0 : Int) ≤ ((xs.length : Nat) : Int) := by omega
    show (if (decide ((0 : Int) ≤ (if ((xs.length : Nat) : Int) < 0 then _ else _)) && decide ((if ((xs.length : Nat) : Int) < 0 then _ else _) < (((xs ++ y :: ys).length : Nat) : Int))) = true then some (Int.toNat (if ((xs.length : Nat) : Int) < 0 then _ else _)) else none) = some xs.length
    rw [if_neg neg, decide_eq_true pos, decide_eq_true lt, Bool.and_self, if_pos rfl, Int.toNat_natCast]
  · rw [List.getElem?_append_right (Nat.le_refl _), Nat.sub_self] <;> rfl
  · rw [er]
    exact q _ SameX.upd upd_same
theorem w_popL {l : Addr} {xs : List V} {y : V} (h : H l = some (.lst (xs ++ [y]))) (q : ∀ H', SameX l H H' → H' l = some (.lst xs) → Q y H') : rPop (.ref l) [] H Q := by
  refine w_pop h (y := y) ?_ ?_
  · rw [List.length_append, List.length_singleton, Nat.add_sub_cancel, List.getElem?_append_right (Nat.le_refl _), Nat.sub_self] <;> rfl
  · rw [List.dropLast_concat]
    exact q _ SameX.upd upd_same
/-- the four names and a wrong row -/
theorem ref_bad {x y pr : Addr} {ns : List Str} {n0 n1 n2 n3 : Str} {rp rq : List V} {w : V} {b : List Rw} {c : Str} (hT : Ten ns) (h4 : ∃ rest, ns = n0 :: n1 :: n2 :: n3 :: rest) (hx : H x = some (.lst ([n0, n1].map V.str))) (hy : H y = some (.lst ([n2, n3].map V.str)))
    (hr : H pr = some (.lst (rp ++ w :: rq))) (gr : GoodR K H rp 1 b) (l : (rp ++ w :: rq).length ≤ 100000) (bad : BadRow K H w 1 c) (q : ∀ H', Same H H' → Q (.str (wordX c)) H') : sp_law_refusedT K [.ref x, .ref y, .ref pr] H Q E0 := by
  obtain ⟨rest, e⟩ := h4
  obtain ⟨g, g2⟩ := told4 hT e
  exact ⟨_, _, _, rfl, .inr ⟨c, bad_at rfl rfl (.inl (SqL.of hx)) (.inl (SqL.of hy)) g g2 (.inl (SqL.of hr)) gr l bad, q⟩⟩
theorem ref_good {x y pr : Addr} {ns : List Str} {n0 n1 n2 n3 : Str} {xs : List V} {b : List Rw} (hT : Ten ns) (h4 : ∃ rest, ns = n0 :: n1 :: n2 :: n3 :: rest) (hx : H x = some (.lst ([n0, n1].map V.str))) (hy : H y = some (.lst ([n2, n3].map V.str)))
    (hr : H pr = some (.lst xs)) (gr : GoodR K H xs 1 b) (q : ∀ H', Same H H' → Q (.str "made") H') : sp_law_refusedT K [.ref x, .ref y, .ref pr] H Q E0 := by
  obtain ⟨rest, e⟩ := h4
  obtain ⟨g, g2⟩ := told4 hT e
  exact ⟨_, _, _, rfl, .inl ⟨_, _, b, ⟨x, y, pr, xs, rfl, rfl, rfl, .inl (SqL.of hx), .inl (SqL.of hy), g, g2, .inl (SqL.of hr), gr⟩, q⟩⟩
end
/-- the rows that stood there are right, in whatever has come since -/
theorem WrC.good {K : PySem.W.Frag} {B H : Hp} {xs : List V} {b : List Rw} (h : BkAt K (SqT K) B xs b) (e : Same B H) (rt : rts b) (n : nests b ≤ 8) (z : szs b ≤ 130) : GoodR K H xs 1 b := ⟨(h.monoS e).toE, rt, by omega, by omega⟩
theorem tell_deep {K : PySem.W.Frag} {H : Hp} {p : Addr} {u : V} {f : Fm} (h : SqT K H p [.str "tell", u]) (hf : FmAt K H u f) (rt : f.rt) (d : 12 < f.depth) : BadRow K H (.ref p) 1 "TooDeep" := .fml (.tell h) (by decide) (deepF hf rt d)
theorem set_deep {K : PySem.W.Frag} {H : Hp} {p : Addr} {u : V} {x : Str} {f : Fm} (h : SqT K H p [.str "set", .str x, u]) (n : Nm x) (hf : FmAt K H u f) (rt : f.rt) (d : 12 < f.depth) : BadRow K H (.ref p) 1 "TooDeep" := .fml (.set h n) (by decide) (deepF hf rt d)
theorem pick2' {x y : V} {i : Int} (h0 : 0 ≤ i) (h : i < 2) : (i = 0 ∧ atI [x, y] i = some x) ∨ (i = 1 ∧ atI [x, y] i = some y) := by
  rcases (show i = 0 ∨ i = 1 by omega) with rfl | rfl
  · exact .inl ⟨rfl, atI_nat (j := 0) rfl⟩
  · exact .inr ⟨rfl, atI_nat (j := 1) rfl⟩
theorem wrong_j4 (K : PySem.W.Frag) (Q : VK) {H : Hp} {a pb pr : Addr} {ns : List Str} {n0 n1 n2 n3 : Str} {xs : List V} {b : List Rw} {c : Int} {k : Nat} (w : WrC K H a pr ns n0 n1 n2 n3 xs b c k) (q : ∀ H', Q (.bl true) H')
    (k3 : t_law_wrongT_j3 K { nx := fun _ H' => Q .non H', rt := Q } [some (.ref a), some (.ref pb), some (.int c), some (.ref pr), some (.int (k : Nat)), some (.int (c / 8)), none, none, none] H) :
    t_law_wrongT_j4 K { nx := fun _ H' => Q .non H', rt := Q } [some (.ref a), some (.ref pb), some (.int c), some (.ref pr), some (.int (k : Nat)), some (.int (c / 8)), none, none, none] H := by
  have hS := w.hS
  have hT := w.hT
  have h4 := w.at4
  have hr := w.hr
  have hk := w.hk
  obtain ⟨B, eB, nB, aB, bB⟩ := w.base
  have xl : xs.length ≤ 130 := by rw [bB.len]; exact Nat.le_trans (szs_len b) w.size
  have tl := List.take_append_drop k xs
  unfold t_law_wrongT_j4
  walk_at "gx"
  refine w_two (fun _ => ?yes) (fun _ => ?no)
  case no => walk_at "gx"; exact k3
  walk_at "gx"
  refine ⟨c, rfl, fun r _ _ => ?_⟩
  walk_at "gx"
  refine ⟨a, ns, r, rfl, hS, hT, fun v H1 e1 bad => ?_⟩
  walk_at "gx"
  refine w_ins (e1 _ _ hr) (by omega) hk (fun H2 x2 h2 => ?_)
  have eB2 := SameX.same (eB.trans e1) nB x2
  have bad_any : ∀ {H' : Hp}, SameX pr H1 H' → BadRow K H' v 1 "NoRow" := fun x => bad.mono (Rn.keep hr rfl x)
  clear bad
  walk_at "gx"
  refine ⟨"a", 13, rfl, nm_iff.mp (by decide +kernel), by decide, by decide, fun vf f H3 e3 hf rt hd ev => ?_⟩
  walk_at "gx"
  rename_i p4 H4 n4 e4 h4'
  have r4 : H4 pr = some (.lst (xs.take k ++ v :: xs.drop k)) := e4 _ _ (e3 _ _ h2)
  have deep_any : ∀ {H' : Hp}, SameX pr H4 H' → BadRow K H' (.ref p4) 1 "TooDeep" := fun x => tell_deep (sameT_t (x.T r4) (SqT.of h4')) ((hf.mono e4).monoT (x.T r4)) rt (by omega)
  clear hf ev
  have ll : (xs.take k ++ v :: xs.drop k).length = xs.length + 1 := by
    have := congrArg List.length tl
    rw [List.length_append] at this
    rw [List.length_append, List.length_cons]
    omega
  refine w_app' r4 (lt_line (by omega)) (fun H5 x5 t5 h5 => ?_)
  have x14 : SameX pr H1 H4 := x2.trans (SameX.of (e3.trans e4))
  have eB5 : Same B H5 := SameX.same (eB2.trans (e3.trans e4)) nB x5
  rw [List.append_assoc, List.cons_append] at h5
  walk_at "gx"
  refine w_sl02 (same_l eB5 aB) h4 (fun p6 H6 n6 e6 h6 => ?_)
  walk_at "gx"
  refine w_sl24 (same_l (eB5.trans e6) aB) h4 (fun p7 H7 n7 e7 h7 => ?_)
  walk_at "gx"
  have e57 := e6.trans e7
  refine ref_bad hT h4 (e7 _ _ h6) h7 (e57 _ _ h5) ((WrC.good bB (eB5.trans e57) w.rt w.nest w.size).take k) (by rw [List.length_append, List.length_cons, List.length_append, List.length_singleton]; rw [List.length_append, List.length_cons] at ll; omega) (bad_any (x14.trans (x5.trans (SameX.of e57)))) (fun H8 e8 => ?_)
  walk_at "gx"
  have e58 := e57.trans e8
  refine w_popAt (e58 _ _ h5) (by rw [List.length_take]; omega) (by omega) (fun H9 x9 h9 => ?_)
  rw [← List.append_assoc, tl] at h9
  have eB9 : Same B H9 := SameX.same (eB5.trans e58) nB x9
  have x49 : SameX pr H4 H9 := (x5.trans (SameX.of e58)).trans x9
  walk_at "gx"
  refine w_sl02 (same_l eB9 aB) h4 (fun p10 H10 n10 e10 h10 => ?_)
  walk_at "gx"
  refine w_sl24 (same_l (eB9.trans e10) aB) h4 (fun p11 H11 n11 e11 h11 => ?_)
  walk_at "gx"
  have e911 := e10.trans e11
  refine ref_bad (rq := []) hT h4 (e11 _ _ h10) h11 (e911 _ _ h9) (WrC.good bB (eB9.trans e911) w.rt w.nest w.size) (by rw [List.length_append, List.length_singleton]; omega) (deep_any (x49.trans (SameX.of e911))) (fun H12 e12 => ?_)
  walk_at "gx"
  refine w_popL (e12 _ _ (e911 _ _ h9)) (fun H13 x13 h13 => ?_)
  have eB13 : Same B H13 := SameX.same (eB9.trans (e911.trans e12)) nB x13
  walk_at "gx"
  refine w_sl02 (same_l eB13 aB) h4 (fun p14 H14 n14 e14 h14 => ?_)
  walk_at "gx"
  refine w_sl24 (same_l (eB13.trans e14) aB) h4 (fun p15 H15 n15 e15 h15 => ?_)
  walk_at "gx"
  have e1315 := e14.trans e15
  refine ref_good hT h4 (e15 _ _ h14) h15 (e1315 _ _ h13) (WrC.good bB (eB13.trans e1315) w.rt w.nest w.size) (fun H16 e16 => ?_)
  walk_at "gx"
  rw [show decide (("made" : Str) = "made") = true by decide +kernel]
  exact q H16
theorem wrong_j3 (K : PySem.W.Frag) (Q : VK) {H : Hp} {a pb pr : Addr} {ns : List Str} {n0 n1 n2 n3 : Str} {xs : List V} {b : List Rw} {c : Int} {k : Nat} (w : WrC K H a pr ns n0 n1 n2 n3 xs b c k) (q : ∀ H', Q (.bl true) H')
    (k2 : t_law_wrongT_j2 K { nx := fun _ H' => Q .non H', rt := Q } [some (.ref a), some (.ref pb), some (.int c), some (.ref pr), some (.int (k : Nat)), some (.int (c / 8)), none, none, none] H) :
    t_law_wrongT_j3 K { nx := fun _ H' => Q .non H', rt := Q } [some (.ref a), some (.ref pb), some (.int c), some (.ref pr), some (.int (k : Nat)), some (.int (c / 8)), none, none, none] H := by
  have hS := w.hS
  have hT := w.hT
  have h4 := w.at4
  have hr := w.hr
  have hk := w.hk
  obtain ⟨B, eB, nB, aB, bB⟩ := w.base
  have xl : xs.length ≤ 130 := by rw [bB.len]; exact Nat.le_trans (szs_len b) w.size
  have tl := List.take_append_drop k xs
  have lt := congrArg List.length tl
  rw [List.length_append] at lt
  unfold t_law_wrongT_j3
  walk_at "gx"
  refine w_two (fun _ => ?yes) (fun _ => ?no)
  case no => walk_at "gx"; exact k2
  walk_at "gx"
  refine ⟨"a", 13, rfl, nm_iff.mp (by decide +kernel), by decide, by decide, fun vf f H1 e1 hf rt hd ev => ?_⟩
  walk_at "gx"
  rename_i p2 H2 n2' e2 h2
  refine ⟨"a", 20, rfl, nm_iff.mp (by decide +kernel), by decide, by decide, fun vg g H3 e3 hg rt2 hd2 ev2 => ?_⟩
  walk_at "gx"
  rename_i p4 H4 n4 e4 h4' p5 H5 n5 e5 h5
  /- one of the two, put in -/
  have fin : ∀ {v : V}, (∀ {H' : Hp}, SameX pr H5 H' → BadRow K H' v 1 "TooDeep") → rInsert (.ref pr) [.int (k : Nat), v] H5 fun _ H1 => tRet (tOp (rEq2 K) (tF (sp_law_refusedT K) (tCons (tSl (rSl K) (tVar 0) tNoPart (tPart (tC (.int 2)))) (tCons (tSl (rSl K) (tVar 0) (tPart (tC (.int 2))) (tPart (tC (.int 4)))) (tCons (tOp (rAdd K) (tVar 3) (tLst (tCons (tC (.int 5)) tNil))) tNil)))) (tC (.str "deep"))) { nx := fun _ H' => Q .non H', rt := Q } [some (.ref a), some (.ref pb), some (.int c), some (.ref pr), some (.int (k : Nat)), some (.int (c / 8)), none, none, none] H1 := fun {v} bad => by
    have e15 := e1.trans (e2.trans (e3.trans (e4.trans e5)))
    refine w_ins (e15 _ _ hr) (by omega) hk (fun H6 x6 h6 => ?_)
    have eB6 : Same B H6 := SameX.same (eB.trans e15) nB x6
    walk_at "gx"
    refine w_sl02 (same_l eB6 aB) h4 (fun p7 H7 n7 e7 h7 => ?_)
    walk_at "gx"
    refine w_sl24 (same_l (eB6.trans e7) aB) h4 (fun p8 H8 n8 e8 h8 => ?_)
    walk_at "gx"
    rename_i p9 H9 n9 e9 h9
    refine w_addL' (e9 _ _ (e8 _ _ (e7 _ _ h6))) h9 (sz (by rw [List.length_append, List.length_cons]; show _ + 1 ≤ _; omega)) (fun p10 H10 n10 e10 h10 => ?_)
    rw [List.append_assoc, List.cons_append] at h10
    have e610 := e7.trans (e8.trans (e9.trans e10))
    walk_at "gx"
    refine ref_bad hT h4 (e10 _ _ (e9 _ _ (e8 _ _ h7))) (e10 _ _ (e9 _ _ h8)) h10 ((WrC.good bB (eB6.trans e610) w.rt w.nest w.size).take k) (by rw [List.length_append, List.length_cons, List.length_append, List.length_singleton]; omega) (bad (x6.trans (SameX.of e610))) (fun H11 e11 => ?_)
    walk_at "gx"
    rw [word_deep]
    exact q H11
  have r5 : H5 pr = some (.lst xs) := e5 _ _ (e4 _ _ (e3 _ _ (e2 _ _ (e1 _ _ hr))))
  have m := mod_in (c / 8) (show (0 : Int) < 2 by decide)
  rcases pick2' (x := .ref p2) (y := .ref p4) m.1 m.2 with ⟨_, at_⟩ | ⟨_, at_⟩
  · refine w_ixL (SqL.of h5) at_ ?_
    walk_at "gx"
    exact fin fun x => tell_deep (sameT_t (x.T r5) (SqT.of (e5 _ _ (e4 _ _ (e3 _ _ h2))))) ((hf.mono (e2.trans (e3.trans (e4.trans e5)))).monoT (x.T r5)) rt (by omega)
  · refine w_ixL (SqL.of h5) at_ ?_
    walk_at "gx"
    exact fin fun x => set_deep (sameT_t (x.T r5) (SqT.of (e5 _ _ h4'))) (nm_iff.mp (by decide +kernel)) ((hg.mono (e4.trans e5)).monoT (x.T r5)) rt2 (by omega)
theorem wrong_j2 (K : PySem.W.Frag) (Q : VK) {H : Hp} {a pb pr : Addr} {ns : List Str} {n0 n1 n2 n3 : Str} {xs : List V} {b : List Rw} {c : Int} {k : Nat} (w : WrC K H a pr ns n0 n1 n2 n3 xs b c k) (q : ∀ H', Q (.bl true) H')
    (k1 : t_law_wrongT_j1 K { nx := fun _ H' => Q .non H', rt := Q } [some (.ref a), some (.ref pb), some (.int c), some (.ref pr), some (.int (k : Nat)), some (.int (c / 8)), none, none, none] H) :
    t_law_wrongT_j2 K { nx := fun _ H' => Q .non H', rt := Q } [some (.ref a), some (.ref pb), some (.int c), some (.ref pr), some (.int (k : Nat)), some (.int (c / 8)), none, none, none] H := by
  have hS := w.hS
  have hT := w.hT
  have h4 := w.at4
  have hr := w.hr
  have hk := w.hk
  obtain ⟨B, eB, nB, aB, bB⟩ := w.base
  have xl : xs.length ≤ 130 := by rw [bB.len]; exact Nat.le_trans (szs_len b) w.size
  have tl := List.take_append_drop k xs
  have lt := congrArg List.length tl
  rw [List.length_append] at lt
  unfold t_law_wrongT_j2
  walk_at "gx"
  refine w_two (fun _ => ?yes1) (fun _ => ?no1)
  case no1 => walk_at "gx"; exact k1
  walk_at "gx"
  refine w_two (fun _ => ?yes2) (fun _ => ?no2)
  case no2 => walk_at "gx"; exact k1
  walk_at "gx"
  refine ⟨_, rfl, fun p v x H1 e1 hp bad => ?_⟩
  walk_at "gx"
  refine w_ins (e1 _ _ hr) (by omega) hk (fun H6 x6 h6 => ?_)
  have r1 := e1 _ _ hr
  have eB6 : Same B H6 := SameX.same (eB.trans e1) nB x6
  have bad_any : ∀ {H' : Hp}, SameX pr H1 H' → BadRow K H' v 1 x := fun z => bad.mono (Rn.keep hr rfl z)
  clear bad
  have hp6 := sameT_t (x6.T r1) hp
  walk_at "gx"
  refine w_sl02 (same_l eB6 aB) h4 (fun p7 H7 n7 e7 h7 => ?_)
  walk_at "gx"
  refine w_sl24 (same_l (eB6.trans e7) aB) h4 (fun p8 H8 n8 e8 h8 => ?_)
  walk_at "gx"
  rename_i p9 H9 n9 e9 h9
  refine w_addL' (e9 _ _ (e8 _ _ (e7 _ _ h6))) h9 (sz (by rw [List.length_append, List.length_cons]; show _ + 1 ≤ _; omega)) (fun p10 H10 n10 e10 h10 => ?_)
  rw [List.append_assoc, List.cons_append] at h10
  have e610 := e7.trans (e8.trans (e9.trans e10))
  walk_at "gx"
  refine ref_bad hT h4 (e10 _ _ (e9 _ _ (e8 _ _ h7))) (e10 _ _ (e9 _ _ h8)) h10 ((WrC.good bB (eB6.trans e610) w.rt w.nest w.size).take k) (by rw [List.length_append, List.length_cons, List.length_append, List.length_singleton]; omega) (bad_any (x6.trans (SameX.of e610))) (fun H11 e11 => ?_)
  walk_at "gx"
  rw [decide_eq_true rfl]
  exact q H11
theorem ref_deep0 {K : PySem.W.Frag} {H : Hp} {Q : VK} {x y pr : Addr} {rp rq : List V} {w : V} {b : List Rw} {c : Str} (hx : H x = some (.lst [])) (hy : H y = some (.lst []))
    (hr : H pr = some (.lst (rp ++ w :: rq))) (gr : GoodR K H rp 1 b) (l : (rp ++ w :: rq).length ≤ 100000) (bad : BadRow K H w 1 c) (q : ∀ H', Same H H' → Q (.str (wordX c)) H') : sp_law_refusedT K [.ref x, .ref y, .ref pr] H Q E0 :=
  ⟨_, _, _, rfl, .inr ⟨c, bad_at (os := []) (ss := []) rfl rfl (.inl (SqL.of hx)) (.inl (SqL.of hy)) goodN0 goodN0 (.inl (SqL.of hr)) gr l bad, q⟩⟩
theorem wrong_j1 (K : PySem.W.Frag) (Q : VK) {H : Hp} {a pb pr : Addr} {ns : List Str} {n0 n1 n2 n3 : Str} {xs : List V} {b : List Rw} {c : Int} {k : Nat} (w : WrC K H a pr ns n0 n1 n2 n3 xs b c k) (q : ∀ H', Q (.bl true) H') :
    t_law_wrongT_j1 K { nx := fun _ H' => Q .non H', rt := Q } [some (.ref a), some (.ref pb), some (.int c), some (.ref pr), some (.int (k : Nat)), some (.int (c / 8)), none, none, none] H := by
  have hr := w.hr
  obtain ⟨B, eB, nB, aB, bB⟩ := w.base
  have xl : xs.length ≤ 130 := by rw [bB.len]; exact Nat.le_trans (szs_len b) w.size
  unfold t_law_wrongT_j1
  walk_at "gx"
  refine w_two (fun _ => ?yes) (fun _ => ?no)
  case yes =>
    walk_at "gx"
    rename_i p1 H1 n1' e1 h1 p2 H2 n2' e2 h2
    have m := mod_in (c / 8 / 3) (show (0 : Int) < 3 by decide)
    obtain ⟨j, hj⟩ := Int.eq_ofNat_of_zero_le m.1
    refine ⟨9 + j, by rw [hj, show (9 : Int) + ((j : Nat) : Int) = ((9 + j : Nat) : Int) by omega], by omega, by omega, fun p3 v r H3 e3 n3' h3 hr3 rt3 nn3 nz3 => ?_⟩
    walk_at "gx"
    have e03 := e1.trans (e2.trans e3)
    refine w_addL' (e03 _ _ hr) h3 (sz (by show _ + 1 ≤ _; omega)) (fun p4 H4 n4 e4 h4 => ?_)
    walk_at "gx"
    rename_i p5 H5 n5 e5 h5
    refine w_addL' (e5 _ _ h4) h5 (sz (by rw [List.length_append]; show _ + 1 + 1 ≤ _; omega)) (fun p6 H6 n6 e6 h6 => ?_)
    rw [List.append_assoc] at h6
    have e36 := e4.trans (e5.trans e6)
    walk_at "gx"
    refine ref_deep0 (rq := [.int 5]) (e36 _ _ (e3 _ _ (e2 _ _ h1))) (e36 _ _ (e3 _ _ h2)) h6 (WrC.good bB (eB.trans (e03.trans e36)) w.rt w.nest w.size) (by rw [List.length_append]; show _ + 2 ≤ _; omega)
      (deepR (n := 9) (by decide) ((hr3.monoE Rn.le).monoE e36) rt3 (by decide) (by decide) (by omega) (by omega)) (fun H7 e7 => ?_)
    walk_at "gx"
    rw [word_deep]
    exact q H7
  case no =>
    walk_at "gx"
    rename_i p1 H1 n1' e1 h1 p2 H2 n2' e2 h2
    refine ⟨8, rfl, by decide, by decide, fun p3 v r H3 e3 n3' h3 hr3 rt3 nn3 nz3 => ?_⟩
    walk_at "gx"
    refine ⟨"a", 12, rfl, nm_iff.mp (by decide +kernel), by decide, by decide, fun vf f H4 e4 hf rt hd ev => ?_⟩
    walk_at "gx"
    rename_i p5 H5 n5 e5 h5 p6 H6 n6 e6 h6
    have e36 := e4.trans (e5.trans e6)
    refine w_addL' (e36 _ _ h3) h6 (sz (by show 1 + 1 ≤ _; decide)) (fun p7 H7 n7 e7 h7 => ?_)
    have e37 := e36.trans e7
    have h7 : H7 p7 = some (.lst [v, .ref p5]) := h7
    walk_at "gx"
    refine ⟨_, _, _, rfl, .inl ⟨[], [], [r, .tell f], ⟨p1, p2, p7, _, rfl, rfl, rfl, .inl (SqL.of (e37 _ _ (e3 _ _ (e2 _ _ h1)))), .inl (SqL.of (e37 _ _ (e3 _ _ h2))), goodN0, goodN0, .inl (SqL.of h7),
      ⟨.cons ((hr3.monoE Rn.le).monoE e37) (.cons (.tell (SqT.of (e7 _ _ (e6 _ _ h5))) (hf.mono (e5.trans (e6.trans e7)))) .nil), ⟨rt3, ⟨rt, by omega⟩, trivial⟩, (by show 1 + max r.nest (max 1 0) ≤ 9; omega), (by show r.size + (1 + 0) ≤ 100000; omega)⟩⟩, fun H8 e8 => ?_⟩⟩
    walk_at "gx"
    rename_i q1 G1 m1 g1 k1 q2 G2 m2 g2 k2
    intro q3 m3
    have g3 := same_new (o := .dK []) m3
    have k3 : upd G2 q3 (.dK []) q3 = _ := upd_same
    generalize upd G2 q3 (.dK []) = G3 at g3 k3
    walk_at "gx"
    rename_i q4 G4 m4 g4 k4
    have m := mod_in (c / 8) (show (0 : Int) < 4 by decide)
    have cc : c / 8 % 4 = 0 ∨ c / 8 % 4 = 1 ∨ c / 8 % 4 = 2 ∨ c / 8 % 4 = 3 := by omega
    obtain ⟨v, T, at_, tt, tl⟩ : ∃ v T, atI [.non, .str "x", .int 5, .ref q3] (c / 8 % 4) = some v ∧ Thg K G4 v T ∧ isL T = false := by
      rcases cc with e | e | e | e <;> rw [e]
      · exact ⟨_, _, atI_nat (j := 0) rfl, .non, by decide⟩
      · exact ⟨_, _, atI_nat (j := 1) rfl, .str _, by decide⟩
      · exact ⟨_, _, atI_nat (j := 2) rfl, .int _, by decide⟩
      · exact ⟨_, _, atI_nat (j := 3) rfl, .dct (g4 _ _ k3), by decide⟩
    refine w_ixL (SqL.of k4) at_ ?_
    walk_at "gx"
    refine ⟨_, _, _, rfl, .inr ⟨"NoRow", .block (os := []) (ss := []) rfl (.inl (SqL.of (g4 _ _ (g3 _ _ (g2 _ _ k1))))) goodN0 rfl (.inl (SqL.of (g4 _ _ (g3 _ _ k2)))) goodN0 (.inr ⟨rfl, T, tt, tl⟩), fun H9 e9 => ?_⟩⟩
    walk_at "gx"
    rw [word_row]
    exact q H9
theorem pure_law_wrongT (K : PySem.W.Frag) (vs : List V) (H : Hp) (Q : VK) (E : XK) (h : sp_law_wrongT K vs H Q E) :
    t_law_wrongT K { nx := fun _ H' => Q .non H', rt := Q } (start N_law_wrongT vs) H := by
  obtain ⟨a, pb, ns, xs, b, c, rfl, hS, hT, hb, bB, ok, nest, size, q⟩ := h
  have tl := hT.len
  obtain ⟨n0, n1, n2, n3, rest, nse⟩ : ∃ n0 n1 n2 n3 rest, ns = n0 :: n1 :: n2 :: n3 :: rest := by
    match ns, tl with
    | n0 :: n1 :: n2 :: n3 :: rest, _ => exact ⟨n0, n1, n2, n3, rest, rfl⟩
  have xl : xs.length ≤ 130 := by rw [bB.len]; exact Nat.le_trans (szs_len b) size
  unfold t_law_wrongT
  walk_at "gx"
  refine w_listT' hb (fun pr H1 n1' e1 h1 => ?_)
  walk_at "gx"
  have m := mod_in (c / 8) (show (0 : Int) < ((xs.length : Nat) : Int) + 1 by omega)
  obtain ⟨k, hk⟩ := Int.eq_ofNat_of_zero_le m.1
  rw [hk]
  walk_at "gx"
  have w : WrC K H1 a pr ns n0 n1 n2 n3 xs b c k := ⟨same_l e1 hS, hT, ⟨rest, nse⟩, h1, ⟨H, e1, n1', hS, bB⟩, rts_of hT.nm ok, nest, size, by omega⟩
  exact wrong_j7 K Q w q (wrong_j6 K Q w q (wrong_j5 K Q w q (wrong_j4 K Q w q (wrong_j3 K Q w q (wrong_j2 K Q w q (wrong_j1 K Q w q))))))
/-- how a block stands: tuples (m), or lists -/
def LT (m : Bool) (H : Hp) (p : Addr) (xs : List V) : Prop := if m = true then H p = some (.tup xs) else H p = some (.lst xs)
def ow (m : Bool) (p : Addr) : List Addr := if m = true then [] else [p]
mutual
/-- rows whose blocks are lists (or tuples), with all these lists -/
inductive HdR (K : PySem.W.Frag) (m : Bool) (H : Hp) : V → Rw → List Addr → Prop where
  | set {a : Addr} {x : Str} {u : V} {f : Fm} (h : SqT K H a [.str "set", .str x, u]) (hf : FmAt K H u f) : HdR K m H (.ref a) (.set x f) []
  | tell {a : Addr} {u : V} {f : Fm} (h : SqT K H a [.str "tell", u]) (hf : FmAt K H u f) : HdR K m H (.ref a) (.tell f) []
  | skip {a : Addr} (h : SqT K H a [.str "skip"]) : HdR K m H (.ref a) .skip []
  | ite {a p q : Addr} {u : V} {f : Fm} {xs ys : List V} {b c : List Rw} {S T : List Addr} (h : SqT K H a [.str "if", u, .ref p, .ref q]) (hf : FmAt K H u f) (hp : LT m H p xs) (hb : HdB K m H xs b S) (hq : LT m H q ys) (hc : HdB K m H ys c T) : HdR K m H (.ref a) (.ite f b c) ((ow m p ++ S) ++ (ow m q ++ T))
  | whl {a p : Addr} {u : V} {f : Fm} {xs : List V} {b : List Rw} {S : List Addr} (h : SqT K H a [.str "while", u, .ref p]) (hf : FmAt K H u f) (hp : LT m H p xs) (hb : HdB K m H xs b S) : HdR K m H (.ref a) (.whl f b) (ow m p ++ S)
inductive HdB (K : PySem.W.Frag) (m : Bool) (H : Hp) : List V → List Rw → List Addr → Prop where
  | nil : HdB K m H [] [] []
  | cons {v : V} {vs : List V} {r : Rw} {l : List Rw} {S T : List Addr} (h : HdR K m H v r S) (t : HdB K m H vs l T) : HdB K m H (v :: vs) (r :: l) (S ++ T)
end
theorem LT.off {m : Bool} {H H' : Hp} {p : Addr} {xs : List V} {D : List Addr} (t : SameT H H') (o : ∀ a u, a ∉ D → H a = some u → H' a = some u) (h : LT m H p xs) (n : ∀ a ∈ ow m p, a ∉ D) : LT m H' p xs := by
  cases m with
  | true => exact t _ _ h rfl
  | false => exact o _ _ (n p List.mem_cons_self) h
mutual
theorem HdR.off {K : PySem.W.Frag} {m : Bool} {H H' : Hp} {D : List Addr} (t : SameT H H') (o : ∀ a u, a ∉ D → H a = some u → H' a = some u) : ∀ {v : V} {r : Rw} {S : List Addr}, HdR K m H v r S → (∀ a ∈ S, a ∉ D) → HdR K m H' v r S
  | _, _, _, .set h hf, _ => .set (sameT_t t h) (hf.monoT t)
  | _, _, _, .tell h hf, _ => .tell (sameT_t t h) (hf.monoT t)
  | _, _, _, .skip h, _ => .skip (sameT_t t h)
  | _, _, _, .ite h hf hp hb hq hc, n => .ite (sameT_t t h) (hf.monoT t) (hp.off t o fun a ha => n a (List.mem_append_left _ (List.mem_append_left _ ha))) (HdB.off t o hb fun a ha => n a (List.mem_append_left _ (List.mem_append_right _ ha)))
      (hq.off t o fun a ha => n a (List.mem_append_right _ (List.mem_append_left _ ha))) (HdB.off t o hc fun a ha => n a (List.mem_append_right _ (List.mem_append_right _ ha)))
  | _, _, _, .whl h hf hp hb, n => .whl (sameT_t t h) (hf.monoT t) (hp.off t o fun a ha => n a (List.mem_append_left _ ha)) (HdB.off t o hb fun a ha => n a (List.mem_append_right _ ha))
theorem HdB.off {K : PySem.W.Frag} {m : Bool} {H H' : Hp} {D : List Addr} (t : SameT H H') (o : ∀ a u, a ∉ D → H a = some u → H' a = some u) : ∀ {vs : List V} {l : List Rw} {S : List Addr}, HdB K m H vs l S → (∀ a ∈ S, a ∉ D) → HdB K m H' vs l S
  | _, _, _, .nil, _ => .nil
  | _, _, _, .cons h s, n => .cons (HdR.off t o h fun a ha => n a (List.mem_append_left _ ha)) (HdB.off t o s fun a ha => n a (List.mem_append_right _ ha))
end
theorem HdR.mono {K : PySem.W.Frag} {m : Bool} {H H' : Hp} (e : Same H H') {v : V} {r : Rw} {S : List Addr} (h : HdR K m H v r S) : HdR K m H' v r S := h.off (D := []) (.of e) (fun a u _ => e a u) fun _ _ h => nomatch h
theorem HdB.mono {K : PySem.W.Frag} {m : Bool} {H H' : Hp} (e : Same H H') {v : List V} {r : List Rw} {S : List Addr} (h : HdB K m H v r S) : HdB K m H' v r S := h.off (D := []) (.of e) (fun a u _ => e a u) fun _ _ h => nomatch h
theorem LT.se {K : PySem.W.Frag} {m : Bool} {H : Hp} {p : Addr} {xs : List V} (h : LT m H p xs) : SE K H p xs := by
  cases m with
  | true => exact .inr (SqT.of h)
  | false => exact .inl (SqL.of h)
mutual
theorem HdR.rw {K : PySem.W.Frag} {m : Bool} {H : Hp} : ∀ {v : V} {r : Rw} {S : List Addr}, HdR K m H v r S → RwAt K (SE K) H v r
  | _, _, _, .set h hf => .set h hf
  | _, _, _, .tell h hf => .tell h hf
  | _, _, _, .skip h => .skip h
  | _, _, _, .ite h hf hp hb hq hc => .ite h hf hp.se (HdB.bk hb) hq.se (HdB.bk hc)
  | _, _, _, .whl h hf hp hb => .whl h hf hp.se (HdB.bk hb)
theorem HdB.bk {K : PySem.W.Frag} {m : Bool} {H : Hp} : ∀ {vs : List V} {l : List Rw} {S : List Addr}, HdB K m H vs l S → BkAt K (SE K) H vs l
  | _, _, _, .nil => .nil
  | _, _, _, .cons h s => .cons (HdR.rw h) (HdB.bk s)
end
theorem HdB.snoc {K : PySem.W.Frag} {m : Bool} {H : Hp} {v : V} {r : Rw} {T : List Addr} (g : HdR K m H v r T) : ∀ {vs : List V} {l : List Rw} {S : List Addr}, HdB K m H vs l S → HdB K m H (vs ++ [v]) (l ++ [r]) (S ++ T)
  | _, _, _, .nil => by
    have := HdB.cons g .nil
    rw [List.append_nil] at this
    exact this
  | _, _, _, .cons h s => by
    rw [List.append_assoc]
    exact .cons h (s.snoc g)
/-- lists of the tree hold rows: no texts -/
theorem HdB.refs {K : PySem.W.Frag} {m : Bool} {H : Hp} {vs : List V} {l : List Rw} {S : List Addr} (h : HdB K m H vs l S) : ∀ v ∈ vs, ∃ a, v = .ref a := by
  have := h.bk
  clear h
  intro v hv
  induction vs generalizing l with
  | nil => exact nomatch hv
  | cons w vs ih =>
    cases this with
    | cons h t =>
      rcases List.mem_cons.mp hv with rfl | hv
      · exact BkAt.ref h
      · exact ih t hv
/-- what stands in a list of the tree -/
def RowsL (H : Hp) (a : Addr) : Prop := ∃ xs, H a = some (.lst xs) ∧ ∀ v ∈ xs, ∃ p, v = V.ref p
theorem LT.own {K : PySem.W.Frag} {m : Bool} {H : Hp} {p : Addr} {xs : List V} {b : List Rw} {S : List Addr} (h : LT m H p xs) (hb : HdB K m H xs b S) : ∀ a ∈ ow m p, RowsL H a := by
  cases m with
  | true => exact fun a ha => nomatch ha
  | false => exact fun a ha => by rw [List.mem_singleton.mp ha]; exact ⟨xs, h, hb.refs⟩
mutual
theorem HdR.lists {K : PySem.W.Frag} {m : Bool} {H : Hp} : ∀ {v : V} {r : Rw} {S : List Addr}, HdR K m H v r S → ∀ a ∈ S, RowsL H a
  | _, _, _, .set _ _, _, ha => nomatch ha
  | _, _, _, .tell _ _, _, ha => nomatch ha
  | _, _, _, .skip _, _, ha => nomatch ha
  | _, _, _, .ite h hf hp hb hq hc, a, ha => (List.mem_append.mp ha).elim (fun ha => (List.mem_append.mp ha).elim (hp.own hb a) (HdB.lists hb a)) fun ha => (List.mem_append.mp ha).elim (hq.own hc a) (HdB.lists hc a)
  | _, _, _, .whl h hf hp hb, a, ha => (List.mem_append.mp ha).elim (hp.own hb a) (HdB.lists hb a)
theorem HdB.lists {K : PySem.W.Frag} {m : Bool} {H : Hp} : ∀ {vs : List V} {l : List Rw} {S : List Addr}, HdB K m H vs l S → ∀ a ∈ S, RowsL H a
  | _, _, _, .nil, _, ha => nomatch ha
  | _, _, _, .cons h s, a, ha => (List.mem_append.mp ha).elim (HdR.lists h a) (HdB.lists s a)
end
def sp_law_handedT (K : PySem.W.Frag) (n : Nat) : Sp := fun vs H Q _ => ∃ (a : Addr) (xs : List V) (b : List Rw) (m : Bool), vs = [.ref a, .int (if m = true then 1 else 0)] ∧ SqT K H a xs ∧ BkAt K (SqT K) H xs b ∧ nests b < n ∧ szs b ≤ 1000 ∧
  ∀ (p : Addr) (ys : List V) (S : List Addr) (H' : Hp), Same H H' → H p = none → LT m H' p ys → HdB K m H' ys b S → (ow m p ++ S).Nodup → (∀ s ∈ S, H s = none) → Q (.ref p) H'
theorem no_law_handedT {K : PySem.W.Frag} : ∀ vs H Q E, ¬ sp_law_handedT K 0 vs H Q E := by
  rintro vs H Q E ⟨_, _, _, _, _, _, _, h, _⟩
  omega
def sp_law_changedT (K : PySem.W.Frag) (n : Nat) : Sp := fun vs H Q _ => ∃ (p : Addr) (xs : List V) (b : List Rw) (S : List Addr), vs = [.ref p] ∧ H p = some (.lst xs) ∧ HdB K false H xs b S ∧ (p :: S).Nodup ∧ nests b < n ∧ szs b ≤ 1000 ∧
  ∀ (H' : Hp), SameT H H' → (∀ a u, a ∉ p :: S → H a = some u → H' a = some u) → Q .non H'
theorem no_law_changedT {K : PySem.W.Frag} : ∀ vs H Q E, ¬ sp_law_changedT K 0 vs H Q E := by
  rintro vs H Q E ⟨_, _, _, _, _, _, _, _, h, _⟩
  omega
abbrev N_law_handedT : List Str := ["_law_block", "_law_way", "_law_rows", "_law_row"]
noncomputable def t_law_handedT_j1 (K : PySem.W.Frag) (n : Nat) : TS :=
  (tDrop (tBM K "list" rAppend (tVar 2) (tCons (tVar 3) tNil)))
noncomputable def t_law_handedT (K : PySem.W.Frag) (n : Nat) : TS :=
  (tSeq (tAsg (tLst tNil) (gName 2)) (tSeq (tFor (iSeq K (tVar 0)) (gName 3) (tSeq (tIfS (tTest (tOp (rEq2 K) (tOp (rIx K) (tVar 3) (tC (.int 0))) (tC (.str "if")))) (tAsg (tTup (tCons (tC (.str "if")) (tCons (tOp (rIx K) (tVar 3) (tC (.int 1))) (tCons (tF (sp_law_handedT K n) (tCons (tOp (rIx K) (tVar 3) (tC (.int 2))) (tCons (tVar 1) tNil))) (tCons (tF (sp_law_handedT K n) (tCons (tOp (rIx K) (tVar 3) (tC (.int 3))) (tCons (tVar 1) tNil))) tNil))))) (gName 3)) (tIfS (tTest (tOp (rEq2 K) (tOp (rIx K) (tVar 3) (tC (.int 0))) (tC (.str "while")))) (tAsg (tTup (tCons (tC (.str "while")) (tCons (tOp (rIx K) (tVar 3) (tC (.int 1))) (tCons (tF (sp_law_handedT K n) (tCons (tOp (rIx K) (tVar 3) (tC (.int 2))) (tCons (tVar 1) tNil))) tNil)))) (gName 3)) tNext)) (t_law_handedT_j1 K n))) (tRet (tOp (rIx K) (tLst (tCons (tVar 2) (tCons (tCB (rTupO K) (tCons (tVar 2) tNil)) tNil))) (tVar 1)))))
abbrev N_law_changedT : List Str := ["_law_block", "_law_row", "_law_inner"]
noncomputable def t_law_changedT (K : PySem.W.Frag) (n : Nat) : TS :=
  (tSeq (tFor (iSeq K (tVar 0)) (gName 1) (tFor (iSeq K (tSl (rSl K) (tVar 1) (tPart (tC (.int 2))) tNoPart)) (gName 2) (tIfS (tB (tCB (rIsi2 K) (tCons (tVar 2) (tCons (tC (.ty "list")) tNil)))) (tDrop (tF (sp_law_changedT K n) (tCons (tVar 2) tNil))) tNext))) (tDrop (tBM K "list" rAppend (tVar 0) (tCons (tTup (tCons (tC (.str "skip")) tNil)) tNil))))
theorem ow_none {m : Bool} {H : Hp} {p : Addr} (h : H p = none) : ∀ s ∈ ow m p, H s = none := by
  cases m with
  | true => exact fun _ h => nomatch h
  | false => exact fun s hs => by rw [List.mem_singleton.mp hs]; exact h
/-- lists that are there and lists that are new -/
theorem nodup_new {H : Hp} {S T : List Addr} (nS : S.Nodup) (nT : T.Nodup) (hS : ∀ s ∈ S, RowsL H s) (hT : ∀ s ∈ T, H s = none) : (S ++ T).Nodup := List.nodup_append.mpr ⟨nS, nT, fun a ha b hb e => by
  obtain ⟨xs, h, _⟩ := hS a ha
  have := hT b hb
  rw [← e, h] at this
  cases this⟩
theorem handed_j1 (K : PySem.W.Frag) (n : Nat) {m : Bool} {D : Ends} {a l : Addr} {wv : V} {H H1 H2 : Hp} {x' : V} {r : Rw} {ys : List V} {b' : List Rw} {S S' : List Addr} (e1 : Same H H1) (e2 : Same H1 H2) (nl : H l = none) (hl : H1 l = some (.lst ys)) (hb : HdB K m H1 ys b' S) (nd : (l :: S).Nodup) (nS : ∀ s ∈ S, H s = none)
    (hx : HdR K m H2 x' r S') (nd' : S'.Nodup) (nS' : ∀ s ∈ S', H1 s = none) (len : ys.length ≤ 1000)
    (q : ∀ (H3 : Hp), Same H H3 → H3 l = some (.lst (ys ++ [x'])) → HdB K m H3 (ys ++ [x']) (b' ++ [r]) (S ++ S') → (l :: (S ++ S')).Nodup → (∀ s ∈ S ++ S', H s = none) → D.nx [some (.ref a), some wv, some (.ref l), some x'] H3) :
    t_law_handedT_j1 K n D [some (.ref a), some wv, some (.ref l), some x'] H2 := by
  have nd0 := List.nodup_cons.mp nd
  unfold t_law_handedT_j1
  walk_at "gx"
  refine w_app' (e2 _ _ hl) (lt_line (by omega)) (fun H3 x3 t3 h3 => ?_)
  walk_at "gx"
  have nl' : l ∉ S' := fun h => by have := nS' l h; rw [hl] at this; cases this
  refine q H3 (SameX.same (e1.trans e2) nl x3) h3 ((HdB.snoc hx (hb.mono e2)).off (D := [l]) t3 (fun a u na ha => x3 a u (fun e => na (List.mem_singleton.mpr e)) ha) fun s hs hm => ?_) ?_ fun s hs => ?_
  · rw [List.mem_singleton.mp hm] at hs
    exact (List.mem_append.mp hs).elim nd0.1 nl'
  · exact List.nodup_cons.mpr ⟨fun h => (List.mem_append.mp h).elim nd0.1 nl', nodup_new nd0.2 nd' hb.lists nS'⟩
  · exact (List.mem_append.mp hs).elim (nS s) fun h => none_of e1 (nS' s h)
theorem pure_law_handedT (K : PySem.W.Frag) (n : Nat) (vs : List V) (H : Hp) (Q : VK) (E : XK) (h : sp_law_handedT K (n + 1) vs H Q E) :
    t_law_handedT K n { nx := fun _ H' => Q .non H', rt := Q } (start N_law_handedT vs) H := by
  obtain ⟨a, xs, b, m, rfl, hs, hb, hn, hz, q⟩ := h
  have bz := szs_len b
  have bl := hb.len
  unfold t_law_handedT
  walk_at "gx"
  rename_i l H0 nl e0 hl
  refine for_se (Hb := H) (xs := xs) (fun i σ H' => Same H H' ∧ ∃ (ys : List V) (S : List Addr) (w3 : Option V), H' l = some (.lst ys) ∧ HdB K m H' ys (b.take i) S ∧ (l :: S).Nodup ∧ (∀ s ∈ S, H s = none) ∧ σ = [some (.ref a), some (.int (if m = true then 1 else 0)), some (.ref l), w3]) (.inr hs)
    ⟨e0, [], [], _, hl, .nil, List.nodup_cons.mpr ⟨(fun h => nomatch h), List.nodup_nil⟩, (fun _ h => nomatch h), rfl⟩ (fun i σ H' h => h.1) ?_ ?_
  · rintro i x σ H1 hx ⟨e1, ys, S, w3, hl1, hd, nd, nS, rfl⟩
    obtain ⟨r, hr1, hr2⟩ := hb.get hx
    have rm : r ∈ b := List.mem_of_getElem? hr1
    have rn := nest_mem rm
    have rz := sz_mem rm
    have hr3 := hr2.monoS e1
    have yl : ys.length ≤ 1000 := by rw [hd.bk.len, List.length_take]; omega
    have tk : b.take (i + 1) = b.take i ++ [r] := by rw [List.take_succ, hr1] <;> rfl
    /- the row as it is to be put in is there -/
    have go : ∀ {x' : V} {S' : List Addr} {H2 : Hp} {D : Ends}, Same H1 H2 → HdR K m H2 x' r S' → S'.Nodup → (∀ s ∈ S', H1 s = none) →
        (∀ σ H', (Same H H' ∧ ∃ (ys : List V) (S : List Addr) (w3 : Option V), H' l = some (.lst ys) ∧ HdB K m H' ys (b.take (i + 1)) S ∧ (l :: S).Nodup ∧ (∀ s ∈ S, H s = none) ∧ σ = [some (.ref a), some (.int (if m = true then 1 else 0)), some (.ref l), w3]) → D.nx σ H') →
        t_law_handedT_j1 K n D [some (.ref a), some (.int (if m = true then 1 else 0)), some (.ref l), some x'] H2 := fun {x' S' H2 D} e2 hx nd' nS' k =>
      handed_j1 K n e1 e2 nl hl1 hd nd nS hx nd' nS' yl fun H3 e3 h3 hb3 nd3 nS3 => k _ _ ⟨e3, _, _, _, h3, by rw [tk]; exact hb3, nd3, nS3, rfl⟩
    cases hr3 with
    | set h hf => walk_at "gx"; exact go (Same.refl _) (.set h hf) List.nodup_nil (fun _ h => nomatch h) fun _ _ h => h
    | tell h hf => walk_at "gx"; exact go (Same.refl _) (.tell h hf) List.nodup_nil (fun _ h => nomatch h) fun _ _ h => h
    | skip h => walk_at "gx"; exact go (Same.refl _) (.skip h) List.nodup_nil (fun _ h => nomatch h) fun _ _ h => h
    | @ite t p1 p2 u f xs1 xs2 b1 b2 h hf hp hb1 hq hb2 =>
      have nn : 1 + max (nests b1) (nests b2) ≤ nests b := rn
      have zz : 1 + (szs b1 + szs b2) ≤ szs b := rz
      walk_at "gx"
      refine ⟨p1, xs1, b1, m, rfl, hp, hb1, by omega, by omega, fun q1 ys1 S1 H2 e2 nq1 l1 hd1 nd1 nS1 => ?_⟩
      walk_at "gx"
      refine ⟨p2, xs2, b2, m, rfl, same_t e2 hq, hb2.monoS e2, by omega, by omega, fun q2 ys2 S2 H3 e3 nq2 l2 hd2 nd2 nS2 => ?_⟩
      walk_at "gx"
      rename_i p4 H4 n4 e4 h4
      have e34 := e3.trans e4
      have own1 : ∀ s ∈ ow m q1 ++ S1, RowsL H2 s := fun s hs => (List.mem_append.mp hs).elim (l1.own hd1 s) (hd1.lists s)
      have new2 : ∀ s ∈ ow m q2 ++ S2, H2 s = none := fun s hs => (List.mem_append.mp hs).elim (ow_none nq2 s) (nS2 s)
      have new1 : ∀ s ∈ ow m q1 ++ S1, H1 s = none := fun s hs => (List.mem_append.mp hs).elim (ow_none nq1 s) (nS1 s)
      refine go (e2.trans e34) (.ite (SqT.of h4) (hf.mono (e2.trans e34)) (l1.off (D := []) (.of e34) (fun a u _ => e34 a u) fun _ _ h => nomatch h) (hd1.mono e34) (l2.off (D := []) (.of e4) (fun a u _ => e4 a u) fun _ _ h => nomatch h) (hd2.mono e4)) (nodup_new nd1 nd2 own1 new2) (fun s hs => ?_) fun _ _ h => h
      exact (List.mem_append.mp hs).elim (new1 s) fun h => none_of e2 (new2 s h)
    | @whl t p1 u f xs1 b1 h hf hp hb1 =>
      have nn : 1 + nests b1 ≤ nests b := rn
      have zz : 1 + szs b1 ≤ szs b := rz
      walk_at "gx"
      refine ⟨p1, xs1, b1, m, rfl, hp, hb1, by omega, by omega, fun q1 ys1 S1 H2 e2 nq1 l1 hd1 nd1 nS1 => ?_⟩
      walk_at "gx"
      rename_i p4 H4 n4 e4 h4
      exact go (e2.trans e4) (.whl (SqT.of h4) (hf.mono (e2.trans e4)) (l1.off (D := []) (.of e4) (fun a u _ => e4 a u) fun _ _ h => nomatch h) (hd1.mono e4)) nd1 (fun s hs => (List.mem_append.mp hs).elim (ow_none nq1 s) (nS1 s)) fun _ _ h => h
  · rintro σ H1 ⟨e1, ys, S, w3, hl1, hd, nd, nS, rfl⟩
    rw [bl, List.take_length] at hd
    walk_at "gx"
    refine w_tupL' (SqL.of hl1) (fun p5 H5 n5 e5 h5 => ?_)
    walk_at "gx"
    rename_i p6 H6 n6 e6 h6
    have e16 := e5.trans e6
    cases m with
    | false =>
      refine w_ixL (v := .ref l) (SqL.of h6) (atI_nat (j := 0) rfl) ?_
      exact q l ys S H6 (e1.trans e16) nl (e16 _ _ hl1) (hd.mono e16) nd nS
    | true =>
      refine w_ixL (v := .ref p5) (SqL.of h6) (atI_nat (j := 1) rfl) ?_
      exact q p5 ys S H6 (e1.trans e16) (none_of e1 n5) (e6 _ _ h5) (hd.mono e16) (List.nodup_cons.mp nd).2 nS
/-- what stands behind the first two things of a row -/
inductive Pts (K : PySem.W.Frag) (H : Hp) : List V → List (List Rw) → List Addr → Prop where
  | nil : Pts K H [] [] []
  | fm {u : V} {f : Fm} {ws : List V} {bs : List (List Rw)} {T : List Addr} (hf : FmAt K H u f) (t : Pts K H ws bs T) : Pts K H (u :: ws) bs T
  | blk {p : Addr} {xs ws : List V} {b : List Rw} {bs : List (List Rw)} {S T : List Addr} (hp : H p = some (.lst xs)) (hb : HdB K false H xs b S) (t : Pts K H ws bs T) : Pts K H (.ref p :: ws) (b :: bs) ((p :: S) ++ T)
theorem FmAt.thg {K : PySem.W.Frag} {H : Hp} {u : V} {f : Fm} (h : FmAt K H u f) : Thg K H u "tuple" := by
  cases h with
  | num h => exact .tup h
  | nam h => exact .tup h
  | op h _ _ => exact .tup h
theorem HdB.uncons {K : PySem.W.Frag} {m : Bool} {H : Hp} {v : V} {vs : List V} {bs : List Rw} {T : List Addr} (h : HdB K m H (v :: vs) bs T) : ∃ r l S1 T2, bs = r :: l ∧ T = S1 ++ T2 ∧ HdR K m H v r S1 ∧ HdB K m H vs l T2 := by
  cases h with
  | cons h t => exact ⟨_, _, _, _, rfl, rfl, h, t⟩
/-- the loop over the parts of a row -/
theorem changed_parts (K : PySem.W.Frag) (n : Nat) {D : Ends} {p t : Addr} {x : V} {H : Hp} {ws : List V} {bs : List (List Rw)} {S : List Addr} {w2 : Option V} (ht : SqT K H t ws) (hp : Pts K H ws bs S) (nd : S.Nodup) (bn : ∀ b ∈ bs, nests b < n ∧ szs b ≤ 1000)
    (q : ∀ (H' : Hp) (w2 : Option V), SameT H H' → (∀ a u, a ∉ S → H a = some u → H' a = some u) → D.nx [some (.ref p), some x, w2] H') :
    ∃ b, V.ref t = .ref b ∧ (((∃ xs, SqL K H b xs) ∧ ∃ W : Nat → Nat → L2.St → Hp → Prop, (∃ m, W 0 m [some (.ref p), some x, w2] H) ∧ ∀ i m σ H, W i m σ H →
      ((Itl K b).stop i H ∧ D.nx σ H) ∨ ((Itl K b).go i H ∧ ∃ N : L2.St → Hp → Prop, (∀ σ' H', N σ' H' → ∃ m', m' < m ∧ W (i + 1) m' σ' H') ∧ ∀ x H', (Itl K b).yld i H x H' → (gName 2) x σ H' fun σ2 H2 => (tIfS (tB (tCB (rIsi2 K) (tCons (tVar 2) (tCons (tC (.ty "list")) tNil)))) (tDrop (tF (sp_law_changedT K n) (tCons (tVar 2) tNil))) tNext) { D with nx := N, ct := N, bk := D.nx } σ2 H2)) ∨
      ((∃ xs, SqT K H b xs) ∧ ∃ W : Nat → Nat → L2.St → Hp → Prop, (∃ m, W 0 m [some (.ref p), some x, w2] H) ∧ ∀ i m σ H, W i m σ H →
      ((Itt K b).stop i H ∧ D.nx σ H) ∨ ((Itt K b).go i H ∧ ∃ N : L2.St → Hp → Prop, (∀ σ' H', N σ' H' → ∃ m', m' < m ∧ W (i + 1) m' σ' H') ∧ ∀ x H', (Itt K b).yld i H x H' → (gName 2) x σ H' fun σ2 H2 => (tIfS (tB (tCB (rIsi2 K) (tCons (tVar 2) (tCons (tC (.ty "list")) tNil)))) (tDrop (tF (sp_law_changedT K n) (tCons (tVar 2) tNil))) tNext) { D with nx := N, ct := N, bk := D.nx } σ2 H2))) := by
  refine w_isT ht ?_
  refine for_tup (xs := ws) (fun i σ H' => ∃ (S1 T : List Addr) (bs' : List (List Rw)) (w : Option V), S = S1 ++ T ∧ SameT H H' ∧ (∀ a u, a ∉ S1 → H a = some u → H' a = some u) ∧ Pts K H (ws.drop i) bs' T ∧ (∀ b ∈ bs', nests b < n ∧ szs b ≤ 1000) ∧ σ = [some (.ref p), some x, w])
    ⟨[], S, bs, _, rfl, .refl _, (fun _ _ _ h => h), hp, bn, rfl⟩ (fun i σ H' _ h => let ⟨_, _, _, _, _, t1, _⟩ := h; sameT_t t1 ht) ?_ ?_
  · rintro i y σ H' hy ⟨S1, T, bs', w, rfl, t1, o1, pt, bn', rfl⟩
    obtain ⟨hi, rfl⟩ := List.getElem?_eq_some_iff.mp hy
    rw [List.drop_eq_getElem_cons hi] at pt
    generalize ws[i] = y at pt
    clear hy
    generalize hgen : ws.drop (i + 1) = ws2 at pt
    cases pt with
    | @fm _ f _ _ _ hf pt =>
      walk_at "gx"
      refine w_isLst (hf.monoT t1).thg ?_
      walk_at "gx"
      exact ⟨S1, T, bs', _, rfl, t1, o1, hgen ▸ pt, bn', rfl⟩
    | @blk p' xs' _ b' bs2 S' T2 hp' hb' pt =>
      obtain ⟨nd1, nd2, nd3⟩ := List.nodup_append.mp nd
      obtain ⟨nd4, nd5, nd6⟩ := List.nodup_append.mp nd2
      have out : ∀ a ∈ p' :: S', a ∉ S1 := fun a ha hs => nd3 a hs a (List.mem_append_left _ ha) rfl
      have hp2 := o1 _ _ (out p' List.mem_cons_self) hp'
      have bb := bn' b' List.mem_cons_self
      walk_at "gx"
      refine w_isLst (.lst (SqL.of hp2)) ?_
      walk_at "gx"
      refine ⟨p', xs', b', S', rfl, hp2, hb'.off t1 o1 (fun a ha => out a (List.mem_cons_of_mem _ ha)), nd4, bb.1, bb.2, fun H3 t3 o3 => ?_⟩
      refine ⟨S1 ++ (p' :: S'), T2, bs2, _, by rw [List.append_assoc], t1.trans t3, fun a u na ha => ?_, hgen ▸ pt, fun b hb => bn' b (List.mem_cons_of_mem _ hb), rfl⟩
      exact o3 a u (fun h => na (List.mem_append_right _ h)) (o1 a u (fun h => na (List.mem_append_left _ h)) ha)
  · rintro σ H' ⟨S1, T, bs', w, rfl, t1, o1, pt, bn', rfl⟩
    exact q H' w t1 fun a u na => o1 a u fun h => na (List.mem_append_left _ h)
theorem HdR.pts {K : PySem.W.Frag} {n : Nat} {H : Hp} {v : V} {r : Rw} {S : List Addr} (h : HdR K false H v r S) (hn : r.nest ≤ n) (hz : r.size ≤ 1000) : ∃ (a : Addr) (ws : List V) (bs : List (List Rw)), v = .ref a ∧ Pts K H ws bs S ∧ (∀ b ∈ bs, nests b < n ∧ szs b ≤ 1000) ∧
    ∀ {H' : Hp} {Q : VK}, SameT H H' → (∀ p, H' p = none → Q (.ref p) (upd H' p (.tup ws))) → rSl K (.ref a) (some 2) none H' Q := by
  cases h with
  | set h hf => exact ⟨_, _, [], rfl, .fm hf .nil, (fun _ h => nomatch h), fun t q => w_slT2 (sameT_t t h) q⟩
  | tell h hf => exact ⟨_, _, [], rfl, .nil, (fun _ h => nomatch h), fun t q => w_slT2 (sameT_t t h) q⟩
  | skip h => exact ⟨_, _, [], rfl, .nil, (fun _ h => nomatch h), fun t q => w_slT1 (sameT_t t h) q⟩
  | @ite a p q u f xs ys b c S T h hf hp hb hq hc =>
    have nn : 1 + max (nests b) (nests c) ≤ n := hn
    have zz : 1 + (szs b + szs c) ≤ 1000 := hz
    have := Pts.blk hp hb (.blk hq hc .nil)
    rw [List.append_nil] at this
    refine ⟨_, _, _, rfl, this, fun z hz => ?_, fun t q => w_slT2 (sameT_t t h) q⟩
    rcases List.mem_cons.mp hz with rfl | hz
    · exact ⟨by omega, by omega⟩
    · rw [List.mem_singleton.mp hz]; exact ⟨by omega, by omega⟩
  | @whl a p u f xs b S h hf hp hb =>
    have nn : 1 + nests b ≤ n := hn
    have zz : 1 + szs b ≤ 1000 := hz
    have := Pts.blk hp hb .nil
    rw [List.append_nil] at this
    refine ⟨_, _, _, rfl, this, fun z hz => ?_, fun t q => w_slT2 (sameT_t t h) q⟩
    rw [List.mem_singleton.mp hz]; exact ⟨by omega, by omega⟩
theorem Pts.mono {K : PySem.W.Frag} {H H' : Hp} (e : Same H H') {ws : List V} {bs : List (List Rw)} {S : List Addr} (h : Pts K H ws bs S) : Pts K H' ws bs S := by
  induction h with
  | nil => exact .nil
  | fm hf _ ih => exact .fm (hf.mono e) ih
  | blk hp hb _ ih => exact .blk (e _ _ hp) (hb.mono e) ih
theorem pure_law_changedT (K : PySem.W.Frag) (n : Nat) (vs : List V) (H : Hp) (Q : VK) (E : XK) (h : sp_law_changedT K (n + 1) vs H Q E) :
    t_law_changedT K n { nx := fun _ H' => Q .non H', rt := Q } (start N_law_changedT vs) H := by
  obtain ⟨p, xs, b, S, rfl, hp, hd, nd, hn, hz, q⟩ := h
  obtain ⟨nd0, nd1⟩ := List.nodup_cons.mp nd
  have bz := szs_len b
  have bl := hd.bk.len
  unfold t_law_changedT
  walk_at "gx"
  refine w_isL (SqL.of hp) ?_
  refine for_list (xs := xs) (fun i σ H' => ∃ (S1 T : List Addr) (w1 w2 : Option V), S = S1 ++ T ∧ SameT H H' ∧ (∀ a u, a ∉ S1 → H a = some u → H' a = some u) ∧ HdB K false H (xs.drop i) (b.drop i) T ∧ σ = [some (.ref p), w1, w2])
    ⟨[], S, _, _, rfl, .refl _, (fun _ _ _ h => h), hd, rfl⟩ (fun i σ H' _ h => ?_) ?_ ?_
  · obtain ⟨S1, T, w1, w2, rfl, t1, o1, _⟩ := h
    exact SqL.of (o1 _ _ (fun h => nd0 (List.mem_append_left _ h)) hp)
  · rintro i x σ H1 hx ⟨S1, T, w1, w2, rfl, t1, o1, hd1, rfl⟩
    obtain ⟨hi, rfl⟩ := List.getElem?_eq_some_iff.mp hx
    rw [List.drop_eq_getElem_cons hi] at hd1
    obtain ⟨r, l, S2, T2, be, rfl, hr, hl⟩ := hd1.uncons
    have le : b.drop (i + 1) = l := by rw [← List.tail_drop, be] <;> rfl
    have rm : r ∈ b := List.mem_of_mem_drop (i := i) (by rw [be]; exact List.mem_cons_self)
    have rn := nest_mem rm
    have rz := sz_mem rm
    obtain ⟨nd2, nd3, nd4⟩ := List.nodup_append.mp nd1
    obtain ⟨nd5, nd6, nd7⟩ := List.nodup_append.mp nd3
    have out : ∀ a ∈ S2, a ∉ S1 := fun a ha hs => nd4 a hs a (List.mem_append_left _ ha) rfl
    have hr1 := hr.off t1 o1 out
    obtain ⟨ra, ws, bs, rv, pt, bn, cut⟩ := hr1.pts (n := n) (by omega) (by omega)
    rw [rv]
    walk_at "gx"
    refine cut (.refl _) (fun t ht => ?_)
    have e2 := same_new (o := .tup ws) ht
    have h2 : upd H1 t (.tup ws) t = some (.tup ws) := upd_same
    generalize upd H1 t (.tup ws) = H2 at e2 h2
    refine changed_parts K n (SqT.of h2) (pt.mono e2) nd5 bn fun H3 w2' t3 o3 => ?_
    refine ⟨S1 ++ S2, T2, _, _, by rw [List.append_assoc], t1.trans ((SameT.of e2).trans t3), fun a u na ha => ?_, by rw [le]; exact hl, rfl⟩
    exact o3 a u (fun h => na (List.mem_append_right _ h)) (e2 a u (o1 a u (fun h => na (List.mem_append_left _ h)) ha))
  · rintro σ H1 ⟨S1, T, w1, w2, rfl, t1, o1, hd1, rfl⟩
    have hp1 := o1 _ _ (fun h => nd0 (List.mem_append_left _ h)) hp
    walk_at "gx"
    rename_i p5 H5 n5 e5 h5
    have hp5 := e5 _ _ hp1
    refine w_app' hp5 (lt_line (by omega)) (fun H6 x6 t6 h6 => ?_)
    walk_at "gx"
    refine q H6 (t1.trans ((SameT.of e5).trans t6)) fun a u na ha => x6 a u (fun e => na (e ▸ List.mem_cons_self)) (e5 a u (o1 a u (fun h => na (List.mem_cons_of_mem _ (List.mem_append_left _ h))) ha))
theorem RwAt.formS {K : PySem.W.Frag} {S : SQ} {H : Hp} {v : V} {r : Rw} (h : RwAt K S H v r) : ∃ o ps, FormAt K H v o ps ∧ FoAt K H (o.getD .non) r.fm ∧ BlksAt K S H ps r.parts := by
  cases h with
  | set h hf => exact ⟨_, _, .set h, hf, .nil⟩
  | tell h hf => exact ⟨_, _, .tell h, hf, .nil⟩
  | skip h => exact ⟨_, _, .skip h, rfl, .nil⟩
  | ite h hf hp hb hq hc => exact ⟨_, _, .ite h, hf, .cons hp hb (.cons hq hc .nil)⟩
  | whl h hf hp hb => exact ⟨_, _, .whl h, hf, .cons hp hb .nil⟩
theorem imp_formula_of (K : PySem.W.Frag) : ∀ vs H Q E, sp_formula_of K vs H Q E → sp_formula_ofT K vs H Q E := by
  rintro vs H Q E ⟨v, r, rfl, h, q⟩
  obtain ⟨o, ps, h1, h2, _⟩ := h.formS
  exact ⟨v, o, ps, rfl, h1, q _ h2⟩
theorem imp_blocks_of (K : PySem.W.Frag) : ∀ vs H Q E, sp_blocks_of K vs H Q E → sp_blocks_ofT K vs H Q E := by
  rintro vs H Q E ⟨v, r, S, rfl, h, q⟩
  obtain ⟨o, ps, h1, _, h3⟩ := h.formS
  exact ⟨v, o, ps, rfl, h1, fun p H' e n hp => q p H' ps e n hp h3⟩
structure Tl (os ss : List Str) : Prop where
  nm : ∀ x ∈ os ++ ss, Nm x
  nd : (os ++ ss).Nodup
  l1 : os.length ≤ 40
  l2 : ss.length ≤ 40
  p1 : os ≠ []
  p2 : ss ≠ []
noncomputable abbrev dueL (os ss : List Str) (b : List Rw) : List Str := sortU ((os ++ ss) ++ bnms b)
def knL (os ss fs : List Str) : List Str := (List.replicate os.length ("open" : Str) ++ List.replicate ss.length ("secret" : Str)) ++ List.replicate fs.length ("free" : Str)
theorem map_rep {α β : Type} {f : α → β} {c : β} : ∀ {l : List α}, (∀ x ∈ l, f x = c) → l.map f = List.replicate l.length c
  | [], _ => rfl
  | x :: l, h => by rw [List.map_cons, h x List.mem_cons_self, map_rep fun y hy => h y (List.mem_cons_of_mem _ hy), List.length_cons, List.replicate_succ]
theorem kn_map {os ss fs : List Str} (nd : (os ++ ss).Nodup) (out : ∀ x ∈ fs, x ∉ os ∧ x ∉ ss) : ((os ++ ss) ++ fs).map (kindT os ss) = knL os ss fs := by
  obtain ⟨_, _, d⟩ := List.nodup_append.mp nd
  rw [List.map_append, List.map_append]
  unfold knL
  rw [map_rep (f := kindT os ss) (c := "open") (l := os) fun x hx => by unfold kindT; rw [if_pos hx], map_rep (f := kindT os ss) (c := "secret") (l := ss) fun x hx => by unfold kindT; rw [if_neg (fun h => d x h x hx rfl), if_pos hx],
    map_rep (f := kindT os ss) (c := "free") (l := fs) fun x hx => by unfold kindT; rw [if_neg (out x hx).1, if_neg (out x hx).2]]
theorem kn_ok {os ss fs : List Str} : ∀ x ∈ knL os ss fs, PyData.strOk x = true := by
  intro x hx
  unfold knL at hx
  rcases List.mem_append.mp hx with hx | hx
  · rcases List.mem_append.mp hx with hx | hx
    · rw [List.eq_of_mem_replicate hx]; decide +kernel
    · rw [List.eq_of_mem_replicate hx]; decide +kernel
  · rw [List.eq_of_mem_replicate hx]; decide +kernel
def sp_law_askedT (K : PySem.W.Frag) : Sp := fun vs H Q _ => ∃ (P a pl l1 l2 pb : Addr) (ns os ss : List Str) (xs : List V) (b : List Rw) (c : Int), vs = [.ref P, .ref a, .ref pl, .ref pb, .int c] ∧ PrAt K H P os ss b ∧ SqL K H a (ns.map V.str) ∧ Ten ns ∧ H pl = some (.lst [.ref l1, .ref l2]) ∧
  H l1 = some (.lst (os.map V.str)) ∧ H l2 = some (.lst (ss.map V.str)) ∧ SqT K H pb xs ∧ BkAt K (SqT K) H xs b ∧ oks ns b ∧ nests b ≤ 8 ∧ szs b ≤ 130 ∧ Tl os ss ∧ (∀ x ∈ ns.drop 4, x ∉ os ∧ x ∉ ss) ∧ ∀ H', Same H H' → Q (.bl true) H'
theorem w_setL5 {σ : L2.St} {H : Hp} {D : Ends} {te ta tb : TE} (q : te σ H fun v H1 => ta σ H1 fun o H2 => tb σ H2 fun i H3 => L2.rSetL o i v H3 fun H4 => D.nx σ H4) : tAsg te (gSub ta tb L2.rSetL) D σ H := q
theorem w_setAt5 {H : Hp} {Q : Hp → Prop} {l : Addr} {xs : List V} {j : Nat} {v : V} (h : H l = some (.lst xs)) (hj : j < xs.length) (q : ∀ H', SameX l H H' → H' l = some (.lst (xs.set j v)) → Q H') : L2.rSetL (.ref l) (.int (j : Nat)) v H Q :=
  ⟨l, xs, (j : Nat), j, rfl, rfl, h, by unfold ixN; rw [if_pos (by omega), if_pos (by omega)]; simp, q _ SameX.upd upd_same⟩
/-- what is told, by its place -/
def Tld (K : PySem.W.Frag) (B H : Hp) (os ss due kn : List Str) (b : List Rw) : Nat → V → Prop
  | 0 => fun v => ∃ p, v = .ref p ∧ B p = none ∧ H p = some (.lst (due.map V.str))
  | 1 => fun v => ∃ p x y, v = .ref p ∧ SqT K H p [.ref x, .ref y] ∧ B x = none ∧ B y = none ∧ x ≠ y ∧ H x = some (.lst (os.map V.str)) ∧ H y = some (.lst (ss.map V.str))
  | 2 => fun v => ∃ q ys, v = .ref q ∧ SqT K H q ys ∧ BkAt K (SqT K) H ys b
  | 3 => fun v => v = .int (szs b : Nat)
  | _ => fun v => ∃ p, v = .ref p ∧ B p = none ∧ H p = some (.lst (kn.map V.str))
theorem Tld.mono {K : PySem.W.Frag} {B H H' : Hp} {pt : Addr} {u : HO} {os ss due kn : List Str} {b : List Rw} (hB : B pt = some u) (x : SameX pt H H') (t : SameT H H') : ∀ {j : Nat} {v : V}, Tld K B H os ss due kn b j v → Tld K B H' os ss due kn b j v
  | 0, v, ⟨p, h1, h2, h3⟩ => ⟨p, h1, h2, x _ _ (fun e => by rw [e, hB] at h2; cases h2) h3⟩
  | 1, v, ⟨p, x', y, h1, h2, h3, h4, h5, h6, h7⟩ => ⟨p, x', y, h1, sameT_t t h2, h3, h4, h5, x _ _ (fun e => by rw [e, hB] at h3; cases h3) h6, x _ _ (fun e => by rw [e, hB] at h4; cases h4) h7⟩
  | 2, v, ⟨q, ys, h1, h2, h3⟩ => ⟨q, ys, h1, sameT_t t h2, h3.monoT t⟩
  | 3, v, h => h
  | j + 4, v, ⟨p, h1, h2, h3⟩ => ⟨p, h1, h2, x _ _ (fun e => by rw [e, hB] at h2; cases h2) h3⟩
theorem at_all (c : Int) (m : Nat) (hm : m < 5) : ∃ j, j < 5 ∧ ((c + ((0 : Int) + ((j : Nat) : Int)) * (1 + c / 5 % 4)) % 5).toNat = m := by
  have h1 : c / 5 % 4 = 0 ∨ c / 5 % 4 = 1 ∨ c / 5 % 4 = 2 ∨ c / 5 % 4 = 3 := by omega
  have h2 : c % 5 = 0 ∨ c % 5 = 1 ∨ c % 5 = 2 ∨ c % 5 = 3 ∨ c % 5 = 4 := by omega
  have h3 : m = 0 ∨ m = 1 ∨ m = 2 ∨ m = 3 ∨ m = 4 := by omega
  rcases h1 with h1 | h1 | h1 | h1 <;> rw [h1] <;> clear h1 <;> rcases h2 with h2 | h2 | h2 | h2 | h2 <;> rcases h3 with rfl | rfl | rfl | rfl | rfl <;>
    first | exact ⟨0, by decide, by omega⟩ | exact ⟨1, by decide, by omega⟩ | exact ⟨2, by decide, by omega⟩ | exact ⟨3, by decide, by omega⟩ | exact ⟨4, by decide, by omega⟩
theorem five_of {l : List V} (h : l.length = 5) : ∃ a b c d e, l = [a, b, c, d, e] := by
  match l, h with
  | [a, b, c, d, e], _ => exact ⟨a, b, c, d, e, rfl⟩
def sp_law_whole (K : PySem.W.Frag) : Sp := fun vs H Q _ => ∃ i : Int, vs = [.int i] ∧ Q (.bl true) H
abbrev N_law_whole : List Str := ["_law_found"]
noncomputable def t_law_whole (K : PySem.W.Frag) : TS :=
  (tRet (tAndV (tCB (rIsi2 K) (tCons (tVar 0) (tCons (tC (.ty "int")) tNil))) (tNotV (tCB (rIsi2 K) (tCons (tVar 0) (tCons (tC (.ty "bool")) tNil))))))
theorem pure_law_whole (K : PySem.W.Frag) (vs : List V) (H : Hp) (Q : VK) (E : XK) (h : sp_law_whole K vs H Q E) :
    t_law_whole K { nx := fun _ H' => Q .non H', rt := Q } (start N_law_whole vs) H := by
  obtain ⟨i, rfl, q⟩ := h
  unfold t_law_whole
  walk_at "go"
  refine w_isi (.base (.int i)) rfl ?_
  walk_at "go"
  refine w_isiNo (.base (.int i)) rfl ?_
  walk_at "go"
  exact q
abbrev N_law_askedT : List Str := ["_law_program", "_law_names_here", "_law_pairs", "_law_block", "_law_way", "_law_due", "_law_told", "_law_k", "_law_at", "_law_name", "_law_kept", "_law_row", "_law_known"]
noncomputable def t_law_askedT_j1 (K : PySem.W.Frag) : TS :=
  (tRet (tOp (rEq2 K) (tLst (tCons (tOp (rIx K) (tVar 6) (tC (.int 0))) (tCons (tOp (rIx K) (tOp (rIx K) (tVar 6) (tC (.int 1))) (tC (.int 0))) (tCons (tOp (rIx K) (tOp (rIx K) (tVar 6) (tC (.int 1))) (tC (.int 1))) tNil)))) (tVar 10)))
noncomputable def t_law_askedT_j2 (K : PySem.W.Frag) : TS :=
  (tSeq (tIfS (tOr (tTest (tOp (rNe2 K) (tM K "Program" as_Program "names" (sp_Program_names K) (tVar 0) tNil) (tVar 5))) (tTest (tOp (rNe2 K) (tM K "Program" as_Program "told" (sp_Program_told K) (tVar 0) tNil) (tTup (tCons (tOp (rIx K) (tVar 2) (tC (.int 0))) (tCons (tOp (rIx K) (tVar 2) (tC (.int 1))) tNil)))))) (tRet (tC (.bl false))) tNext) (t_law_askedT_j1 K))
noncomputable def t_law_askedT_j3 (K : PySem.W.Frag) : TS :=
  (tSeq (tAsg (tLst (tCons (tOp (rAdd K) (tLst (tCons (tC (.str "zz")) tNil)) (tOp (rIx K) (tVar 6) (tC (.int 0)))) (tCons (tOp (rAdd K) (tLst (tCons (tC (.str "zz")) tNil)) (tOp (rIx K) (tOp (rIx K) (tVar 6) (tC (.int 1))) (tC (.int 0)))) (tCons (tOp (rAdd K) (tLst (tCons (tC (.str "zz")) tNil)) (tOp (rIx K) (tOp (rIx K) (tVar 6) (tC (.int 1))) (tC (.int 1)))) tNil)))) (gName 10)) (tSeq (tFor (iSeq K (tLst (tCons (tOp (rIx K) (tVar 6) (tC (.int 0))) (tCons (tOp (rIx K) (tOp (rIx K) (tVar 6) (tC (.int 1))) (tC (.int 0))) (tCons (tOp (rIx K) (tOp (rIx K) (tVar 6) (tC (.int 1))) (tC (.int 1))) tNil))))) (gName 11) (tDrop (tBM K "list" rInsert (tVar 11) (tCons (tC (.int 0)) (tCons (tC (.str "zz")) tNil))))) (tSeq (tAsg (tOp (rAdd K) (tOp rMul (tLst (tCons (tC (.str "open")) tNil)) (tCB (rLenA K) (tCons (tOp (rIx K) (tVar 2) (tC (.int 0))) tNil))) (tOp rMul (tLst (tCons (tC (.str "secret")) tNil)) (tCB (rLenA K) (tCons (tOp (rIx K) (tVar 2) (tC (.int 1))) tNil)))) (gName 12)) (tSeq (tIfS (tTest (tOp (rNe2 K) (tOp (rIx K) (tVar 6) (tC (.int 4))) (tOp (rAdd K) (tVar 12) (tOp rMul (tLst (tCons (tC (.str "free")) tNil)) (tCB (rLenA K) (tCons (tSl (rSl K) (tVar 1) (tPart (tC (.int 4))) tNoPart) tNil)))))) (tRet (tC (.bl false))) tNext) (tSeq (tIfS (tOr (tNot (tB (tF (sp_law_whole K) (tCons (tOp (rIx K) (tVar 6) (tC (.int 3))) tNil)))) (tTest (tOp (rNe2 K) (tOp (rIx K) (tVar 6) (tC (.int 3))) (tF (sp_law_manyT K 9) (tCons (tVar 3) tNil))))) (tRet (tC (.bl false))) tNext) (t_law_askedT_j2 K))))))
noncomputable def t_law_askedT_j4 (K : PySem.W.Frag) : TS :=
  (tSeq (tIfS (tOr (tTest (tOp (rNe2 K) (tOp (rIx K) (tVar 6) (tC (.int 1))) (tTup (tCons (tOp (rIx K) (tVar 2) (tC (.int 0))) (tCons (tOp (rIx K) (tVar 2) (tC (.int 1))) tNil))))) (tOr (tNot (tB (tCB (rIsi2 K) (tCons (tOp (rIx K) (tVar 6) (tC (.int 2))) (tCons (tC (.ty "tuple")) tNil))))) (tTest (tOp (rNe2 K) (tOp (rIx K) (tVar 6) (tC (.int 2))) (tVar 3))))) (tRet (tC (.bl false))) tNext) (t_law_askedT_j3 K))
noncomputable def t_law_askedT (K : PySem.W.Frag) : TS :=
  (tSeq (tAsg (tSortSet K (tOp (rAdd K) (tOp (rAdd K) (tOp (rIx K) (tVar 2) (tC (.int 0))) (tOp (rIx K) (tVar 2) (tC (.int 1)))) (tF (sp_law_block_namesT K 9) (tCons (tVar 3) tNil)))) (gName 5)) (tSeq (tAsg (tLst (tCons (tC .non) (tCons (tC .non) (tCons (tC .non) (tCons (tC .non) (tCons (tC .non) tNil)))))) (gName 6)) (tSeq (tFor (iRng1 (tCons (tC (.int 5)) tNil)) (gName 7) (tSeq (tAsg (tOp rMod (tOp (rAdd K) (tVar 4) (tOp rMul (tVar 7) (tOp (rAdd K) (tC (.int 1)) (tOp rMod (tOp rDiv (tVar 4) (tC (.int 5))) (tC (.int 4)))))) (tC (.int 5))) (gName 8)) (tIfS (tTest (tOp (rEq2 K) (tVar 8) (tC (.int 0)))) (tAsg (tM K "Program" as_Program "names" (sp_Program_names K) (tVar 0) tNil) (gSub (tVar 6) (tC (.int 0)) L2.rSetL)) (tIfS (tTest (tOp (rEq2 K) (tVar 8) (tC (.int 1)))) (tAsg (tM K "Program" as_Program "told" (sp_Program_told K) (tVar 0) tNil) (gSub (tVar 6) (tC (.int 1)) L2.rSetL)) (tIfS (tTest (tOp (rEq2 K) (tVar 8) (tC (.int 2)))) (tAsg (tM K "Program" as_Program "block" (sp_Program_block K) (tVar 0) tNil) (gSub (tVar 6) (tC (.int 2)) L2.rSetL)) (tIfS (tTest (tOp (rEq2 K) (tVar 8) (tC (.int 3)))) (tAsg (tM K "Program" as_Program "many" (sp_Program_many K) (tVar 0) tNil) (gSub (tVar 6) (tC (.int 3)) L2.rSetL)) (tAsg (tLc (iSeq K (tOp (rAdd K) (tOp (rAdd K) (tOp (rIx K) (tVar 2) (tC (.int 0))) (tOp (rIx K) (tVar 2) (tC (.int 1)))) (tSl (rSl K) (tVar 1) (tPart (tC (.int 4))) tNoPart))) (gName 9) tYes (tM K "Program" as_Program "kind" (sp_Program_kind K) (tVar 0) (tCons (tVar 9) tNil)) [9]) (gSub (tVar 6) (tC (.int 4)) L2.rSetL)))))))) (tSeq (tIfS (tOr (tNot (tB (tCB (rIsi2 K) (tCons (tOp (rIx K) (tVar 6) (tC (.int 0))) (tCons (tC (.ty "list")) tNil))))) (tOr (tTest (tOp (rNe2 K) (tOp (rIx K) (tVar 6) (tC (.int 0))) (tVar 5))) (tNot (tB (tCB (rIsi2 K) (tCons (tOp (rIx K) (tVar 6) (tC (.int 1))) (tCons (tC (.ty "tuple")) tNil))))))) (tRet (tC (.bl false))) tNext) (t_law_askedT_j4 K)))))
theorem ok_nm {x : Str} (h : Nm x) : PyData.strOk x = true := ok_txt h
/-- what stands behind the loop that asks -/
structure AskC (K : PySem.W.Frag) (B H : Hp) (P a pl l1 l2 pb pd pt p0 p1 px py p2 p4 : Addr) (ns os ss : List Str) (xs ys : List V) (b : List Rw) (v3 : V) : Prop where
  e : Same B H
  hP : PrAt K B P os ss b
  hS : SqL K B a (ns.map V.str)
  hT : Ten ns
  hl : B pl = some (.lst [.ref l1, .ref l2])
  h1 : B l1 = some (.lst (os.map V.str))
  h2 : B l2 = some (.lst (ss.map V.str))
  hb : SqT K B pb xs
  bB : BkAt K (SqT K) B xs b
  ok : oks ns b
  nest : nests b ≤ 8
  size : szs b ≤ 130
  tl : Tl os ss
  out : ∀ x ∈ ns.drop 4, x ∉ os ∧ x ∉ ss
  is : IsSort ((os ++ ss) ++ bnms b) (dueL os ss b)
  hd : H pd = some (.lst ((dueL os ss b).map V.str))
  nd : B pd = none
  t : H pt = some (.lst [.ref p0, .ref p1, .ref p2, v3, .ref p4])
  n0 : B p0 = none
  a0 : H p0 = some (.lst ((dueL os ss b).map V.str))
  a1 : SqT K H p1 [.ref px, .ref py]
  nx : B px = none
  ny : B py = none
  xy : px ≠ py
  ax : H px = some (.lst (os.map V.str))
  ay : H py = some (.lst (ss.map V.str))
  a2 : SqT K H p2 ys
  b2 : BkAt K (SqT K) H ys b
  a3 : v3 = .int (szs b : Nat)
  a4 : H p4 = some (.lst ((knL os ss (ns.drop 4)).map V.str))
  d0 : pd ≠ p0
  dx : pd ≠ px
  dy : pd ≠ py
theorem due_ok {os ss ns : List Str} {b : List Rw} (tl : Tl os ss) (hT : Ten ns) (ok : oks ns b) (is : IsSort ((os ++ ss) ++ bnms b) (dueL os ss b)) : ∀ x ∈ dueL os ss b, PyData.strOk x = true := fun x hx => by
  rcases List.mem_append.mp ((is.2.2 x).mp hx) with h | h
  · exact ok_nm (tl.nm x h)
  · exact ok_nm (hT.nm x (bnms_ok ok x h))
theorem due_len {os ss ns : List Str} {b : List Rw} (tl : Tl os ss) (hT : Ten ns) (ok : oks ns b) (is : IsSort ((os ++ ss) ++ bnms b) (dueL os ss b)) : (dueL os ss b).length ≤ 100 := by
  have h1 := tl.l1
  have h2 := tl.l2
  have h3 := hT.len
  have := HuS.nodup_le (m := (os ++ ss) ++ ns) is.2.1 fun x hx => by
    rcases List.mem_append.mp ((is.2.2 x).mp hx) with h | h
    · exact List.mem_append_left _ h
    · exact List.mem_append_right _ (bnms_ok ok x h)
  rw [List.length_append, List.length_append] at this
  omega
theorem dp_two {K : PySem.W.Frag} {H : Hp} {p x y : Addr} {os ss : List Str} (h : SqT K H p [.ref x, .ref y]) (hx : H x = some (.lst (os.map V.str))) (hy : H y = some (.lst (ss.map V.str))) : Dp K H (.ref p) (.tuple [.list (os.map PyData.str), .list (ss.map PyData.str)]) :=
  .tup h (.cons (.lst (SqL.of hx) (dp_txts os)) (.cons (.lst (SqL.of hy) (dp_txts ss)) .nil))
theorem dk_two {os ss : List Str} (tl : Tl os ss) : Dk (.tuple [.list (os.map PyData.str), .list (ss.map PyData.str)]) 2 :=
  Dk.tup (k := 1) (dk_cons (dk_txts (k := 0) fun x hx => ok_nm (tl.nm x (List.mem_append_left _ hx))) (dk_cons (dk_txts (k := 0) fun x hx => ok_nm (tl.nm x (List.mem_append_right _ hx))) dk_nil))
theorem AskC.mono {K : PySem.W.Frag} {B H H' : Hp} {P a pl l1 l2 pb pd pt p0 p1 px py p2 p4 : Addr} {ns os ss : List Str} {xs ys : List V} {b : List Rw} {v3 : V} (e : Same H H') (w : AskC K B H P a pl l1 l2 pb pd pt p0 p1 px py p2 p4 ns os ss xs ys b v3) : AskC K B H' P a pl l1 l2 pb pd pt p0 p1 px py p2 p4 ns os ss xs ys b v3 :=
  ⟨w.e.trans e, w.hP, w.hS, w.hT, w.hl, w.h1, w.h2, w.hb, w.bB, w.ok, w.nest, w.size, w.tl, w.out, w.is, e _ _ w.hd, w.nd, e _ _ w.t, w.n0, e _ _ w.a0, same_t e w.a1, w.nx, w.ny, w.xy, e _ _ w.ax, e _ _ w.ay, same_t e w.a2, w.b2.monoS e, w.a3, e _ _ w.a4, w.d0, w.dx, w.dy⟩
/-- and behind the change of what was told -/
structure AskE (K : PySem.W.Frag) (B H : Hp) (P a pl l1 l2 pb pd pt p0 p1 px py p2 p4 pk k1 k2 k3 : Addr) (ns os ss : List Str) (b : List Rw) (v3 : V) : Prop where
  e : Same B H
  hP : PrAt K B P os ss b
  hT : Ten ns
  hl : B pl = some (.lst [.ref l1, .ref l2])
  h1 : B l1 = some (.lst (os.map V.str))
  h2 : B l2 = some (.lst (ss.map V.str))
  ok : oks ns b
  nest : nests b ≤ 8
  size : szs b ≤ 130
  tl : Tl os ss
  is : IsSort ((os ++ ss) ++ bnms b) (dueL os ss b)
  hd : H pd = some (.lst ((dueL os ss b).map V.str))
  t : H pt = some (.lst [.ref p0, .ref p1, .ref p2, v3, .ref p4])
  a0 : H p0 = some (.lst ((("zz" : Str) :: dueL os ss b).map V.str))
  a1 : SqT K H p1 [.ref px, .ref py]
  ax : H px = some (.lst ((("zz" : Str) :: os).map V.str))
  ay : H py = some (.lst ((("zz" : Str) :: ss).map V.str))
  kk : H pk = some (.lst [.ref k1, .ref k2, .ref k3])
  k1 : H k1 = some (.lst ((("zz" : Str) :: dueL os ss b).map V.str))
  k2 : H k2 = some (.lst ((("zz" : Str) :: os).map V.str))
  k3 : H k3 = some (.lst ((("zz" : Str) :: ss).map V.str))
theorem AskE.mono {K : PySem.W.Frag} {B H H' : Hp} {P a pl l1 l2 pb pd pt p0 p1 px py p2 p4 pk k1 k2 k3 : Addr} {ns os ss : List Str} {b : List Rw} {v3 : V} (e : Same H H') (w : AskE K B H P a pl l1 l2 pb pd pt p0 p1 px py p2 p4 pk k1 k2 k3 ns os ss b v3) : AskE K B H' P a pl l1 l2 pb pd pt p0 p1 px py p2 p4 pk k1 k2 k3 ns os ss b v3 :=
  ⟨w.e.trans e, w.hP, w.hT, w.hl, w.h1, w.h2, w.ok, w.nest, w.size, w.tl, w.is, e _ _ w.hd, e _ _ w.t, e _ _ w.a0, same_t e w.a1, e _ _ w.ax, e _ _ w.ay, e _ _ w.kk, e _ _ w.k1, e _ _ w.k2, e _ _ w.k3⟩
theorem zz_ok : ∀ {l : List Str}, (∀ x ∈ l, PyData.strOk x = true) → ∀ x ∈ ("zz" : Str) :: l, PyData.strOk x = true := fun h x hx => (List.mem_cons.mp hx).elim (fun e => by rw [e]; decide +kernel) (h x)
theorem asked_j1 (K : PySem.W.Frag) (Q : VK) {B H : Hp} {P a pl l1 l2 pb pd pt p0 p1 px py p2 p4 pk k1 k2 k3 : Addr} {ns os ss : List Str} {b : List Rw} {v3 : V} {c : Int} {w7 w8 w9 w11 w12 : Option V} (w : AskE K B H P a pl l1 l2 pb pd pt p0 p1 px py p2 p4 pk k1 k2 k3 ns os ss b v3) (q : ∀ H', Same B H' → Q (.bl true) H') :
    t_law_askedT_j1 K { nx := fun _ H' => Q .non H', rt := Q } [some (.ref P), some (.ref a), some (.ref pl), some (.ref pb), some (.int c), some (.ref pd), some (.ref pt), w7, w8, w9, some (.ref pk), w11, w12] H := by
  have c1 := w.t
  have c2 := w.a1
  have ok0 := due_ok w.tl w.hT w.ok w.is
  unfold t_law_askedT_j1
  walk_at "gx"
  rename_i p5 H5 n5 e5 h5
  have u := w.mono e5
  refine w_eqSelf (.lst (SqL.of h5) (.cons (.lst (SqL.of u.a0) (dp_txts _)) (.cons (.lst (SqL.of u.ax) (dp_txts _)) (.cons (.lst (SqL.of u.ay) (dp_txts _)) .nil)))) (.lst (SqL.of u.kk) (.cons (.lst (SqL.of u.k1) (dp_txts _)) (.cons (.lst (SqL.of u.k2) (dp_txts _)) (.cons (.lst (SqL.of u.k3) (dp_txts _)) .nil))))
    (Dk.list (k := 1) (dk_cons (dk_txts (k := 0) (zz_ok ok0)) (dk_cons (dk_txts (k := 0) (zz_ok fun x hx => ok_nm (w.tl.nm x (List.mem_append_left _ hx)))) (dk_cons (dk_txts (k := 0) (zz_ok fun x hx => ok_nm (w.tl.nm x (List.mem_append_right _ hx)))) dk_nil)))) (by decide) ?_
  exact q H5 u.e
theorem asked_j2 (K : PySem.W.Frag) (Q : VK) {B H : Hp} {P a pl l1 l2 pb pd pt p0 p1 px py p2 p4 pk k1 k2 k3 : Addr} {ns os ss : List Str} {b : List Rw} {v3 : V} {c : Int} {w7 w8 w9 w11 w12 : Option V} (w : AskE K B H P a pl l1 l2 pb pd pt p0 p1 px py p2 p4 pk k1 k2 k3 ns os ss b v3) (q : ∀ H', Same B H' → Q (.bl true) H') :
    t_law_askedT_j2 K { nx := fun _ H' => Q .non H', rt := Q } [some (.ref P), some (.ref a), some (.ref pl), some (.ref pb), some (.int c), some (.ref pd), some (.ref pt), w7, w8, w9, some (.ref pk), w11, w12] H := by
  have hP := w.hP.mono w.e
  have ok0 := due_ok w.tl w.hT w.ok w.is
  have z1 := w.tl.l1
  have z2 := w.tl.l2
  have size := w.size
  obtain ⟨C, dx, o, hh, q', ys', hI⟩ := id hP
  unfold t_law_askedT_j2
  walk_at "gx"
  refine w_mAt hI.ha hI.cc rfl ?_
  walk_at "gx"
  refine ⟨P, os, ss, ns, b, rfl, hP, w.ok, by rw [w.hT.len]; decide, by omega, by omega, w.nest, by omega, fun p5 H5 e5 n5 h5 _ => ?_⟩
  walk_at "gx"
  refine w_neTxt (SqL.of h5) (SqL.of (e5 _ _ w.hd)) ok0 ok0 ?_
  rw [decide_eq_true rfl]
  walk_at "gx"
  refine w_mAt (e5 _ _ hI.ha) hI.cc rfl ?_
  walk_at "gx"
  refine ⟨P, os, ss, b, rfl, hP.mono e5, fun p6 x y H6 e6 nx ny xy h6 hx hy => ?_⟩
  have u := w.mono (e5.trans e6)
  have c2 := u.e _ _ w.hl
  have c3 := u.e _ _ w.h1
  have c4 := u.e _ _ w.h2
  walk_at "gx"
  rename_i p7 H7 n7 e7 h7
  refine w_neSelf (dp_two (same_t e7 h6) (e7 _ _ hx) (e7 _ _ hy)) (dp_two (SqT.of h7) (e7 _ _ c3) (e7 _ _ c4)) (dk_two w.tl) (by decide) ?_
  walk_at "gx"
  exact asked_j1 K Q (u.mono e7) q
theorem kn_dup {os ss fs : List Str} (h : 2 ≤ fs.length) : ¬ (knL os ss fs).Nodup := fun nd => by
  obtain ⟨_, n2, _⟩ := List.nodup_append.mp nd
  have := List.nodup_replicate.mp n2
  omega
theorem map_str {x y : List Str} (h : x.map V.str = y.map V.str) : x = y := by
  have e : ∀ l : List Str, (l.map V.str).map (fun v => match v with | .str s => s | _ => "") = l := fun l => by
    rw [List.map_map]
    exact List.map_id'' (fun _ => rfl) l
  rw [← e x, ← e y, h]
theorem ref_txt {p : Addr} {r : List V} {l : List Str} (h : V.ref p :: r = l.map V.str) : False := by
  cases l with
  | nil => cases h
  | cons x l => exact nomatch (List.cons.inj h).1
theorem asked_j3 (K : PySem.W.Frag) (Q : VK) {B H : Hp} {P a pl l1 l2 pb pd pt p0 p1 px py p2 p4 : Addr} {ns os ss : List Str} {xs ys : List V} {b : List Rw} {v3 : V} {c : Int} {w7 w8 w9 : Option V} (w : AskC K B H P a pl l1 l2 pb pd pt p0 p1 px py p2 p4 ns os ss xs ys b v3) (q : ∀ H', Same B H' → Q (.bl true) H') :
    t_law_askedT_j3 K { nx := fun _ H' => Q .non H', rt := Q } [some (.ref P), some (.ref a), some (.ref pl), some (.ref pb), some (.int c), some (.ref pd), some (.ref pt), w7, w8, w9, none, none, none] H := by
  have c1 := w.t
  have c2 := w.a1
  have c3 := w.a0
  have c4 := w.ax
  have c5 := w.ay
  have ok0 := due_ok w.tl w.hT w.ok w.is
  have dl := due_len w.tl w.hT w.ok w.is
  have z1 := w.tl.l1
  have z2 := w.tl.l2
  unfold t_law_askedT_j3
  walk_at "gx"
  rename_i q1 G1 m1 e1 g1
  refine w_addL' g1 (e1 _ _ c3) (sz (by show 1 + _ ≤ _; rw [List.length_map]; omega)) (fun q2 G2 m2 e2 g2 => ?_)
  walk_at "gx"
  rename_i q3 G3 m3 e3 g3
  have e13 := e1.trans (e2.trans e3)
  refine w_addL' g3 (e13 _ _ c4) (sz (by show 1 + _ ≤ _; rw [List.length_map]; omega)) (fun q4 G4 m4 e4 g4 => ?_)
  walk_at "gx"
  rename_i q5 G5 m5 e5 g5
  have e15 := e13.trans (e4.trans e5)
  refine w_addL' g5 (e15 _ _ c5) (sz (by show 1 + _ ≤ _; rw [List.length_map]; omega)) (fun q6 G6 m6 e6 g6 => ?_)
  walk_at "gx"
  rename_i pk G7 m7 e7 g7 pq G8 m8 e8 g8
  have e68 := e7.trans e8
  have e08 : Same H G8 := e15.trans (e6.trans e68)
  have u := w.mono e08
  have k1 : G8 q2 = some (.lst ((("zz" : Str) :: dueL os ss b).map V.str)) := e68 _ _ (e6 _ _ (e5 _ _ (e4 _ _ (e3 _ _ g2))))
  have k2 : G8 q4 = some (.lst ((("zz" : Str) :: os).map V.str)) := e68 _ _ (e6 _ _ (e5 _ _ g4))
  have k3 : G8 q6 = some (.lst ((("zz" : Str) :: ss).map V.str)) := e68 _ _ g6
  have kk : G8 pk = some (.lst [.ref q2, .ref q4, .ref q6]) := e8 _ _ g7
  /- which lists are not the ones that are changed -/
  have other : ∀ {p : Addr} {G : Hp}, Same H G → G p = none → p ≠ p0 ∧ p ≠ px ∧ p ≠ py := fun {p G} e n => ⟨(ne_of_none (e _ _ c3) n).symm, (ne_of_none (e _ _ c4) n).symm, (ne_of_none (e _ _ c5) n).symm⟩
  have o1 := other e1 m2
  have o2 := other e13 m4
  have o3 := other e15 m6
  have ok_ := other (e15.trans e6) m7
  have oq := other (e15.trans (e6.trans e7)) m8
  have ot : pt ≠ p0 ∧ pt ≠ px ∧ pt ≠ py := ⟨fun e => ref_txt (HO.lst.inj (Option.some.inj (c1.symm.trans (e ▸ c3)))), fun e => ref_txt (HO.lst.inj (Option.some.inj (c1.symm.trans (e ▸ c4)))), fun e => ref_txt (HO.lst.inj (Option.some.inj (c1.symm.trans (e ▸ c5))))⟩
  obtain ⟨du, dv, dd⟩ := List.nodup_append.mp w.tl.nd
  have f6 : 2 ≤ (ns.drop 4).length := by rw [List.length_drop, w.hT.len]; decide
  have o4 : p4 ≠ p0 ∧ p4 ≠ px ∧ p4 ≠ py := ⟨fun e => kn_dup f6 (by rw [map_str (HO.lst.inj (Option.some.inj (w.a4.symm.trans (e ▸ c3))))]; exact w.is.2.1), fun e => kn_dup f6 (by rw [map_str (HO.lst.inj (Option.some.inj (w.a4.symm.trans (e ▸ c4))))]; exact du), fun e => kn_dup f6 (by rw [map_str (HO.lst.inj (Option.some.inj (w.a4.symm.trans (e ▸ c5))))]; exact dv)⟩
  have n0x : p0 ≠ px := fun e => by
    have de := map_str (HO.lst.inj (Option.some.inj (c3.symm.trans (e ▸ c4))))
    obtain ⟨y, r, hy⟩ := List.exists_cons_of_ne_nil w.tl.p2
    have ym : y ∈ ss := by rw [hy]; exact List.mem_cons_self
    exact dd y (de ▸ (w.is.2.2 y).mpr (List.mem_append_left _ (List.mem_append_right _ ym))) y ym rfl
  have n0y : p0 ≠ py := fun e => by
    have de := map_str (HO.lst.inj (Option.some.inj (c3.symm.trans (e ▸ c5))))
    obtain ⟨y, r, hy⟩ := List.exists_cons_of_ne_nil w.tl.p1
    have ym : y ∈ os := by rw [hy]; exact List.mem_cons_self
    exact dd y ym y (de ▸ (w.is.2.2 y).mpr (List.mem_append_left _ (List.mem_append_left _ ym))) rfl
  have nxy := w.xy
  refine w_isL (SqL.of g8) ?_
  refine for_list (xs := [.ref p0, .ref px, .ref py]) (fun i σ H' => (∀ a u, a ≠ p0 → a ≠ px → a ≠ py → G8 a = some u → H' a = some u) ∧ H' p0 = some (.lst ((if 0 < i then ("zz" : Str) :: dueL os ss b else dueL os ss b).map V.str)) ∧ H' px = some (.lst ((if 1 < i then ("zz" : Str) :: os else os).map V.str)) ∧ H' py = some (.lst ((if 2 < i then ("zz" : Str) :: ss else ss).map V.str)) ∧
      ∃ w11, σ = [some (.ref P), some (.ref a), some (.ref pl), some (.ref pb), some (.int c), some (.ref pd), some (.ref pt), w7, w8, w9, some (.ref pk), w11, none])
    ⟨fun a u _ _ _ h => h, u.a0, u.ax, u.ay, _, rfl⟩ (fun i σ H' _ h => SqL.of (h.1 pq _ oq.1 oq.2.1 oq.2.2 g8)) ?_ ?_
  · rintro i x σ H' hx ⟨off, h0, h1, h2, w11, rfl⟩
    have i3 : i = 0 ∨ i = 1 ∨ i = 2 := by
      have := (List.getElem?_eq_some_iff.mp hx).1
      simp only [List.length_cons, List.length_nil] at this
      omega
    rcases i3 with rfl | rfl | rfl
    · obtain rfl := Option.some.inj hx
      have h0 : H' p0 = some (.lst ((dueL os ss b).map V.str)) := h0
      walk_at "gx"
      refine w_ins (k := 0) h0 (by rw [List.length_map]; omega) (Nat.zero_le _) (fun H2 x2 z2 => ?_)
      exact ⟨fun a u a0 ax ay ha => x2 a u a0 (off a u a0 ax ay ha), z2, x2 _ _ n0x.symm h1, x2 _ _ n0y.symm h2, _, rfl⟩
    · obtain rfl := Option.some.inj hx
      have h1 : H' px = some (.lst (os.map V.str)) := h1
      walk_at "gx"
      refine w_ins (k := 0) h1 (by rw [List.length_map]; omega) (Nat.zero_le _) (fun H2 x2 z2 => ?_)
      exact ⟨fun a u a0 ax ay ha => x2 a u ax (off a u a0 ax ay ha), x2 _ _ n0x h0, z2, x2 _ _ nxy.symm h2, _, rfl⟩
    · obtain rfl := Option.some.inj hx
      have h2 : H' py = some (.lst (ss.map V.str)) := h2
      walk_at "gx"
      refine w_ins (k := 0) h2 (by rw [List.length_map]; omega) (Nat.zero_le _) (fun H2 x2 z2 => ?_)
      exact ⟨fun a u a0 ax ay ha => x2 a u ay (off a u a0 ax ay ha), x2 _ _ n0y h0, x2 _ _ nxy h1, z2, _, rfl⟩
  · rintro σ H' ⟨off, h0, h1, h2, w11, rfl⟩
    have tT : SameT G8 H' := fun z o hz hf => off z o (fun e => by rw [e, u.a0] at hz; rw [← Option.some.inj hz] at hf; exact nomatch hf) (fun e => by rw [e, u.ax] at hz; rw [← Option.some.inj hz] at hf; exact nomatch hf) (fun e => by rw [e, u.ay] at hz; rw [← Option.some.inj hz] at hf; exact nomatch hf) hz
    have eB : Same B H' := fun z o hz => off z o (ne_of_none hz w.n0) (ne_of_none hz w.nx) (ne_of_none hz w.ny) (u.e z o hz)
    have v : AskE K B H' P a pl l1 l2 pb pd pt p0 p1 px py p2 p4 pk q2 q4 q6 ns os ss b v3 := ⟨eB, w.hP, w.hT, w.hl, w.h1, w.h2, w.ok, w.nest, w.size, w.tl, w.is, off _ _ w.d0 w.dx w.dy u.hd, off _ _ ot.1 ot.2.1 ot.2.2 u.t, h0, sameT_t tT u.a1, h1, h2,
      off _ _ ok_.1 ok_.2.1 ok_.2.2 kk, off _ _ o1.1 o1.2.1 o1.2.2 k1, off _ _ o2.1 o2.2.1 o2.2.2 k2, off _ _ o3.1 o3.2.1 o3.2.2 k3⟩
    have a4 := off _ _ o4.1 o4.2.1 o4.2.2 u.a4
    have t1 := v.t
    have t2 := eB _ _ w.hl
    have t3 := eB _ _ w.h1
    have t4 := eB _ _ w.h2
    have t5 := same_l eB w.hS
    have a3 := w.a3
    have out := w.out
    have hbB := same_t eB w.hb
    have bBB := w.bB.monoS eB
    have nest := w.nest
    have size := w.size
    have tl10 := w.hT.len
    clear off h0 h1 h2 tT eB u w o1 o2 o3 ok_ oq ot o4 k1 k2 k3 kk other c1 c2 c3 c4 c5 e1 e2 e3 e4 e5 e6 e7 e8 e13 e15 e68 e08 g1 g2 g3 g4 g5 g6 g7 g8 m1 m2 m3 m4 m5 m6 m7 m8
    subst a3
    walk_at "gx"
    rename_i r1 F1 u1 f1 s1
    refine w_rep (n := (os.map V.str).length) s1 (by rw [List.length_map]; omega) (fun r2 F2 u2 f2 s2 => ?_)
    walk_at "gx"
    rename_i r3 F3 u3 f3 s3
    refine w_rep (n := (ss.map V.str).length) s3 (by rw [List.length_map]; omega) (fun r4 F4 u4 f4 s4 => ?_)
    refine w_addL' (f4 _ _ (f3 _ _ s2)) s4 (sz (by rw [List.length_replicate, List.length_replicate, List.length_map, List.length_map]; omega)) (fun r5 F5 u5 f5 s5 => ?_)
    walk_at "gx"
    rename_i r6 F6 u6 f6 s6
    have f05 := f1.trans (f2.trans (f3.trans (f4.trans f5)))
    refine w_slL' (same_l (f05.trans f6) t5) (fun r7 F7 u7 f7 s7 => ?_)
    rw [show cutV (ns.map V.str) (some 4) none = (ns.drop 4).map V.str from cut_hi (k := 4)] at s7
    walk_at "gx"
    refine w_rep (n := ((ns.drop 4).map V.str).length) (f7 _ _ s6) (by rw [List.length_map, List.length_drop]; omega) (fun r8 F8 u8 f8 s8 => ?_)
    refine w_addL' (f8 _ _ (f7 _ _ (f6 _ _ s5))) s8 (sz (by rw [List.length_append, List.length_replicate, List.length_replicate, List.length_replicate, List.length_map, List.length_map, List.length_map, List.length_drop]; omega)) (fun r9 F9 u9 f9 s9 => ?_)
    have f09 := f05.trans (f6.trans (f7.trans (f8.trans f9)))
    have s9 : F9 r9 = some (.lst ((knL os ss (ns.drop 4)).map V.str)) := by
      rw [s9]
      unfold knL
      rw [List.map_append, List.map_append, List.map_replicate, List.map_replicate, List.map_replicate, List.length_map, List.length_map, List.length_map]
    refine w_neTxt (SqL.of (f09 _ _ a4)) (SqL.of s9) kn_ok kn_ok ?_
    rw [decide_eq_true rfl]
    have t6 := f09 _ _ t1
    walk_at "gx"
    refine ⟨_, rfl, ?_⟩
    walk_at "gx"
    refine ⟨pb, xs, b, rfl, same_t f09 hbB, bBB.monoS f09, by omega, by omega, fun F10 f10 => ?_⟩
    refine w_neI ?_
    rw [decide_eq_true rfl]
    walk_at "gx"
    exact asked_j2 K Q (v.mono (f09.trans f10)) q
theorem asked_j4 (K : PySem.W.Frag) (Q : VK) {B H : Hp} {P a pl l1 l2 pb pd pt p0 p1 px py p2 p4 : Addr} {ns os ss : List Str} {xs ys : List V} {b : List Rw} {v3 : V} {c : Int} {w7 w8 w9 : Option V} (w : AskC K B H P a pl l1 l2 pb pd pt p0 p1 px py p2 p4 ns os ss xs ys b v3) (q : ∀ H', Same B H' → Q (.bl true) H') :
    t_law_askedT_j4 K { nx := fun _ H' => Q .non H', rt := Q } [some (.ref P), some (.ref a), some (.ref pl), some (.ref pb), some (.int c), some (.ref pd), some (.ref pt), w7, w8, w9, none, none, none] H := by
  have c1 := w.t
  have c2 := w.e _ _ w.hl
  have c3 := w.e _ _ w.h1
  have c4 := w.e _ _ w.h2
  unfold t_law_askedT_j4
  walk_at "gx"
  rename_i p5 H5 n5 e5 h5
  refine w_neSelf (dp_two (same_t e5 w.a1) (e5 _ _ w.ax) (e5 _ _ w.ay)) (dp_two (SqT.of h5) (e5 _ _ c3) (e5 _ _ c4)) (dk_two w.tl) (by decide) ?_
  walk_at "gx"
  refine w_isTup (.tup (same_t e5 w.a2)) ?_
  walk_at "gx"
  refine w_neSelf (.tup (same_t e5 w.a2) ((w.b2.monoS e5).dp tupB)) (.tup (same_t (w.e.trans e5) w.hb) ((w.bB.monoS (w.e.trans e5)).dp tupB)) (Dk.tup (pds_dk w.hT.nm tupD w.ok)) (by have := w.nest; omega) ?_
  walk_at "gx"
  exact asked_j3 K Q (w.mono e5) q
theorem pure_law_askedT (K : PySem.W.Frag) (vs : List V) (H : Hp) (Q : VK) (E : XK) (h : sp_law_askedT K vs H Q E) :
    t_law_askedT K { nx := fun _ H' => Q .non H', rt := Q } (start N_law_askedT vs) H := by
  obtain ⟨P, a, pl, l1, l2, pb, ns, os, ss, xs, b, c, rfl, hP, hS, hT, hl, h1, h2, hb, bB, ok, nest, size, tl, out, q⟩ := h
  have z1 := tl.l1
  have z2 := tl.l2
  have bl := bnms_le ok
  unfold t_law_askedT
  walk_at "gx"
  refine w_sortSet ?_
  walk_at "gx"
  refine w_addL' h1 h2 (sz (by rw [List.length_map, List.length_map]; omega)) (fun p1 H1 n1 e1 hp1 => ?_)
  rw [← List.map_append] at hp1
  walk_at "gx"
  refine ⟨pb, xs, b, ns, rfl, same_t e1 hb, bB.monoS e1, ok, by omega, by omega, fun p2 H2 e2 hp2 => ?_⟩
  refine w_addL' (e2 _ _ hp1) hp2 (sz (by rw [List.length_map, List.length_map, List.length_append]; omega)) (fun p3 H3 n3 e3 hp3 => ?_)
  rw [← List.map_append] at hp3
  refine ⟨p3, (os ++ ss) ++ bnms b, (os ++ ss) ++ ns, rfl, SqL.of hp3, fun y hy => ?_, by rw [List.length_append, List.length_append, hT.len]; omega, fun us p4 H4 s1 s2 s3 e4 n4 hp4 => ?_⟩
  · rcases List.mem_append.mp hy with h | h
    · exact List.mem_append_left _ h
    · exact List.mem_append_right _ (bnms_ok ok y h)
  have is0 : IsSort ((os ++ ss) ++ bnms b) us := ⟨s1, s2, s3⟩
  have ue := sortU_eq is0 fun _ => Iff.rfl
  have is : IsSort ((os ++ ss) ++ bnms b) (dueL os ss b) := by rw [show dueL os ss b = us from ue.symm]; exact is0
  rw [ue] at hp4
  clear is0 s1 s2 s3 ue
  have E4 : Same H H4 := e1.trans (e2.trans (e3.trans e4))
  have np4 : H p4 = none := none_of (e1.trans (e2.trans e3)) n4
  clear hp1 hp2 hp3 n1 n3 n4 e1 e2 e3 e4
  walk_at "gx"
  rename_i pt Ht nt et ht
  have Et : Same H Ht := E4.trans et
  have npt : H pt = none := none_of E4 nt
  have hdt : Ht p4 = some (.lst ((dueL os ss b).map V.str)) := et _ _ hp4
  have ptd : p4 ≠ pt := ne_of_none hp4 nt
  refine ⟨_, rfl, by decide, by decide, for_range (lo := 0) (n := 5) (fun i σ H' => SameX pt Ht H' ∧ ∃ (ts : List V) (w7 w8 w9 : Option V), H' pt = some (.lst ts) ∧ ts.length = 5 ∧
      (∀ j, j < i → ∃ v, ts[((c + ((0 : Int) + ((j : Nat) : Int)) * (1 + c / 5 % 4)) % 5).toNat]? = some v ∧ Tld K Ht H' os ss (dueL os ss b) (knL os ss (ns.drop 4)) b ((c + ((0 : Int) + ((j : Nat) : Int)) * (1 + c / 5 % 4)) % 5).toNat v) ∧
      σ = [some (.ref P), some (.ref a), some (.ref pl), some (.ref pb), some (.int c), some (.ref p4), some (.ref pt), w7, w8, w9, none, none, none])
    ⟨SameX.of (Same.refl _), _, _, _, _, ht, rfl, (fun j h => absurd h (Nat.not_lt_zero j)), rfl⟩ ?_ ?_⟩
  · rintro i σ H1 hi ⟨x1, ts, w7, w8, w9, h1t, tsl, old, rfl⟩
    have e1 : Same H H1 := SameX.same Et npt x1
    have hP1 := hP.mono e1
    obtain ⟨C, dx, o, hh, q', ys', hI⟩ := id hP1
    obtain ⟨m, hm⟩ := Int.eq_ofNat_of_zero_le (Int.emod_nonneg (c + ((0 : Int) + ((i : Nat) : Int)) * (1 + c / 5 % 4)) (show (5 : Int) ≠ 0 by decide))
    have m5 : m < 5 := by have := Int.emod_lt_of_pos (c + ((0 : Int) + ((i : Nat) : Int)) * (1 + c / 5 % 4)) (show (0 : Int) < 5 by decide); omega
    /- what is told is put in its place -/
    have fin : ∀ {v : V} {H2 H3 : Hp} {w7 w8 w9 : Option V}, Same H1 H2 → Tld K Ht H2 os ss (dueL os ss b) (knL os ss (ns.drop 4)) b m v → SameX pt H2 H3 → H3 pt = some (.lst (ts.set m v)) →
        SameX pt Ht H3 ∧ ∃ (ts : List V) (w7' w8' w9' : Option V), H3 pt = some (.lst ts) ∧ ts.length = 5 ∧
      (∀ j, j < i + 1 → ∃ v, ts[((c + ((0 : Int) + ((j : Nat) : Int)) * (1 + c / 5 % 4)) % 5).toNat]? = some v ∧ Tld K Ht H3 os ss (dueL os ss b) (knL os ss (ns.drop 4)) b ((c + ((0 : Int) + ((j : Nat) : Int)) * (1 + c / 5 % 4)) % 5).toNat v) ∧
      [some (.ref P), some (.ref a), some (.ref pl), some (.ref pb), some (.int c), some (.ref p4), some (.ref pt), w7, w8, w9, none, none, none] = [some (.ref P), some (.ref a), some (.ref pl), some (.ref pb), some (.int c), some (.ref p4), some (.ref pt), w7', w8', w9', none, none, none] := fun {v H2 H3 w7 w8 w9} e2 g x3 h3 => by
      have t3 := x3.T (e2 _ _ h1t)
      refine ⟨(x1.trans (SameX.of e2)).trans x3, _, _, _, _, h3, by rw [List.length_set]; exact tsl, fun j hj => ?_, rfl⟩
      have same : ((c + ((0 : Int) + ((j : Nat) : Int)) * (1 + c / 5 % 4)) % 5).toNat = m → ∃ v', (ts.set m v)[((c + ((0 : Int) + ((j : Nat) : Int)) * (1 + c / 5 % 4)) % 5).toNat]? = some v' ∧ Tld K Ht H3 os ss (dueL os ss b) (knL os ss (ns.drop 4)) b ((c + ((0 : Int) + ((j : Nat) : Int)) * (1 + c / 5 % 4)) % 5).toNat v' := fun e => by
        rw [e]
        exact ⟨v, List.getElem?_set_self (by omega), g.mono ht x3 t3⟩
      by_cases em : ((c + ((0 : Int) + ((j : Nat) : Int)) * (1 + c / 5 % 4)) % 5).toNat = m
      · exact same em
      · rcases Nat.lt_or_ge j i with lt | ge
        · obtain ⟨v', k1, k2⟩ := old j lt
          exact ⟨v', by rw [List.getElem?_set_ne (fun e => em e.symm)]; exact k1, (k2.mono ht (SameX.of e2) (.of e2)).mono ht x3 t3⟩
        · obtain rfl : j = i := by omega
          exact absurd (by rw [hm]; rfl) em
    walk_at "gx"
    refine w_mulI (.inr ⟨by omega, by omega⟩) ?_
    walk_at "gx"
    rw [hm]
    have mc : m = 0 ∨ m = 1 ∨ m = 2 ∨ m = 3 ∨ m = 4 := by omega
    rcases mc with rfl | rfl | rfl | rfl | rfl
    · walk_at "gx"
      refine w_setL5 ?_
      walk_at "gx"
      refine w_mAt hI.ha hI.cc rfl ?_
      walk_at "gx"
      refine ⟨P, os, ss, ns, b, rfl, hP1, ok, by rw [hT.len]; decide, by omega, by omega, nest, by omega, fun p H2 e2 n2 hp _ => ?_⟩
      walk_at "gx"
      exact w_setAt5 (j := 0) (e2 _ _ h1t) (by omega) fun H3 x3 h3 => fin e2 ⟨p, rfl, none_x x1 h1t n2, hp⟩ x3 h3
    · walk_at "gx"
      refine w_setL5 ?_
      walk_at "gx"
      refine w_mAt hI.ha hI.cc rfl ?_
      walk_at "gx"
      refine ⟨P, os, ss, b, rfl, hP1, fun p x y H2 e2 nx ny xy hp hx hy => ?_⟩
      walk_at "gx"
      exact w_setAt5 (j := 1) (e2 _ _ h1t) (by omega) fun H3 x3 h3 => fin e2 ⟨p, x, y, rfl, hp, none_x x1 h1t nx, none_x x1 h1t ny, xy, hx, hy⟩ x3 h3
    · walk_at "gx"
      refine w_setL5 ?_
      walk_at "gx"
      refine w_mAt hI.ha hI.cc rfl ?_
      walk_at "gx"
      refine ⟨P, os, ss, b, rfl, hP1, fun p ys hp hys => ?_⟩
      walk_at "gx"
      exact w_setAt5 (j := 2) h1t (by omega) fun H3 x3 h3 => fin (Same.refl _) ⟨p, ys, rfl, hp, hys⟩ x3 h3
    · walk_at "gx"
      refine w_setL5 ?_
      walk_at "gx"
      refine w_mAt hI.ha hI.cc rfl ?_
      walk_at "gx"
      refine ⟨P, os, ss, b, rfl, hP1, nest, by omega, fun H2 e2 => ?_⟩
      walk_at "gx"
      exact w_setAt5 (j := 3) (e2 _ _ h1t) (by omega) fun H3 x3 h3 => fin e2 rfl x3 h3
    · walk_at "gx"
      refine w_setL5 ?_
      walk_at "gx"
      refine w_lc ?_
      have hl1 := e1 _ _ hl
      have h11 := e1 _ _ h1
      have h21 := e1 _ _ h2
      walk_at "gx"
      refine w_addL' h11 h21 (sz (by rw [List.length_map, List.length_map]; omega)) (fun p5 H5 n5 e5 hp5 => ?_)
      rw [← List.map_append] at hp5
      walk_at "gx"
      refine w_slL' (same_l (e1.trans e5) hS) (fun p6 H6 n6 e6 hp6 => ?_)
      rw [show cutV (ns.map V.str) (some 4) none = (ns.drop 4).map V.str from cut_hi (k := 4)] at hp6
      refine w_addL' (e6 _ _ hp5) hp6 (sz (by rw [List.length_map, List.length_map, List.length_append, List.length_drop, hT.len]; omega)) (fun p7 H7 n7 e7 hp7 => ?_)
      rw [← List.map_append] at hp7
      have e17 := e5.trans (e6.trans e7)
      have len7 : (os ++ ss ++ ns.drop 4).length ≤ 100 := by rw [List.length_append, List.length_append, List.length_drop, hT.len]; omega
      refine lc_all (P := fun v x => v = V.str x) (as := os ++ ss ++ ns.drop 4) (fun _ y x => y = V.str (kindT os ss x)) (.inl (SqL.of hp7)) (all2_map (f := V.str)) (by omega) (fun _ _ _ _ _ h => h) ?_ ?_
      · rintro D v x H8 Nx hx rfl e8 ⟨zs, hzs⟩ k
        have hP8 := hP1.mono (e17.trans e8)
        obtain ⟨C, dx, o, hh, q', ys', hI⟩ := id hP8
        refine ⟨rfl, ?_⟩
        walk_at "gx"
        refine w_mAt hI.ha hI.cc rfl ?_
        walk_at "gx"
        exact ⟨P, os, ss, b, x, rfl, hP8, k _ H8 (Same.refl _) rfl⟩
      · intro D H8 ys8 e8 nD hD hR
        have hv := all2_txt hR
        rw [show (fun x => V.str (kindT os ss x)) = V.str ∘ kindT os ss from rfl, ← List.map_map, kn_map tl.nd out] at hv
        rw [hv] at hD
        walk_at "gx"
        exact w_setAt5 (j := 4) ((e17.trans e8) _ _ h1t) (by omega) fun H3 x3 h3 => fin (e17.trans e8) ⟨D, rfl, none_x x1 h1t (none_of e17 nD), hD⟩ x3 h3
  · rintro σ H1 ⟨x1, ts, w7, w8, w9, h1t, tsl, all, rfl⟩
    have e1 : Same H H1 := SameX.same Et npt x1
    have got : ∀ m, m < 5 → ∃ v, ts[m]? = some v ∧ Tld K Ht H1 os ss (dueL os ss b) (knL os ss (ns.drop 4)) b m v := fun m hm => by
      obtain ⟨j, j5, ej⟩ := at_all c m hm
      have := all j j5
      rw [ej] at this
      exact this
    obtain ⟨v0, v1, v2, v3, v4, rfl⟩ := five_of tsl
    obtain ⟨_, g, p0, rfl, n0, a0⟩ := got 0 (by decide)
    obtain rfl := Option.some.inj g
    obtain ⟨_, g, p1, px, py, rfl, a1, nx, ny, xy, ax, ay⟩ := got 1 (by decide)
    obtain rfl := Option.some.inj g
    obtain ⟨_, g, p2, ys, rfl, a2, b2⟩ := got 2 (by decide)
    obtain rfl := Option.some.inj g
    obtain ⟨v3', g, a3⟩ := got 3 (by decide)
    obtain rfl : v3 = v3' := Option.some.inj g
    obtain ⟨_, g, p4', rfl, n4, a4⟩ := got 4 (by decide)
    obtain rfl := Option.some.inj g
    have w : AskC K H H1 P a pl l1 l2 pb p4 pt p0 p1 px py p2 p4' ns os ss xs ys b v3 := ⟨e1, hP, hS, hT, hl, h1, h2, hb, bB, ok, nest, size, tl, out, is, x1 _ _ ptd hdt, np4, h1t, none_of Et n0, a0, a1, none_of Et nx, none_of Et ny, xy, ax, ay, a2, b2, a3, a4,
      ne_of_none hdt n0, ne_of_none hdt nx, ne_of_none hdt ny⟩
    clear all got x1 hP hS hl h1 h2 hb bB np4 a0 a1 ax ay a2 b2 a3 a4 n4 n0 nx ny hdt g
    have b1 := w.t
    have b2 := w.a0
    have b3 := w.hd
    have b4 := w.a1
    walk_at "gx"
    refine w_isLst (.lst (SqL.of b2)) ?_
    walk_at "gx"
    refine w_neTxt (SqL.of b2) (SqL.of b3) (due_ok tl hT ok is) (due_ok tl hT ok is) ?_
    rw [decide_eq_true rfl]
    walk_at "gx"
    refine w_isTup (.tup b4) ?_
    walk_at "gx"
    exact asked_j4 K Q w q
def sp_k05 (K : PySem.W.Frag) : Sp := fun vs H Q _ => ∃ (a : Addr) (ns : List Int), vs = [.ref a] ∧ SqL K H a (ns.map V.int) ∧ ns.length ≤ 63 ∧ ∀ H', Q (.bl true) H'
abbrev N_k05 : List Str := ["_law_script", "_law_names_here", "_law_block", "_law_cell", "_law_more", "_law_handed_here", "_law_pairs", "_law_some", "_law_k", "_law_j", "_law_name", "_law_opens", "_law_secrets", "_law_program"]
noncomputable def t_k05_j1 (K : PySem.W.Frag) : TS :=
  (tRet (tF (sp_law_askedT K) (tCons (tVar 13) (tCons (tVar 1) (tCons (tVar 6) (tCons (tVar 2) (tCons (tOp rDiv (tVar 4) (tC (.int 7200))) tNil)))))))
noncomputable def t_k05_j2 (K : PySem.W.Frag) : TS :=
  (tSeq (tIfS (tB (tCB (rIsi2 K) (tCons (tVar 12) (tCons (tC (.ty "list")) tNil)))) (tDrop (tBM0 K "list" rClear (tVar 12))) tNext) (t_k05_j1 K))
noncomputable def t_k05_j3 (K : PySem.W.Frag) : TS :=
  (tSeq (tIfS (tB (tCB (rIsi2 K) (tCons (tVar 11) (tCons (tC (.ty "list")) tNil)))) (tDrop (tBM K "list" rAppend (tVar 11) (tCons (tOp (rIx K) (tVar 1) (tC (.int 5))) tNil))) tNext) (t_k05_j2 K))
noncomputable def t_k05_j4 (K : PySem.W.Frag) : TS :=
  (tSeq (tAsg (tOp (rIx K) (tLst (tCons (tCB (rList K) (tCons (tOp (rIx K) (tVar 6) (tC (.int 0))) tNil)) (tCons (tCB (rTupO K) (tCons (tOp (rIx K) (tVar 6) (tC (.int 0))) tNil)) tNil))) (tOp rMod (tOp rDiv (tVar 4) (tC (.int 2))) (tC (.int 2)))) (gName 11)) (tSeq (tAsg (tOp (rIx K) (tLst (tCons (tCB (rList K) (tCons (tOp (rIx K) (tVar 6) (tC (.int 1))) tNil)) (tCons (tCB (rTupO K) (tCons (tOp (rIx K) (tVar 6) (tC (.int 1))) tNil)) tNil))) (tOp rMod (tOp rDiv (tVar 4) (tC (.int 3))) (tC (.int 2)))) (gName 12)) (tSeq (tAsg (tMkX K "Program" as_Program (sp_Program___init__T K) 14 wNo (tCons (tVar 11) (tCons (tVar 12) (tCons (tVar 5) tNil)))) (gName 13)) (tSeq (tIfS (tNot (tB (tF (sp_law_askedT K) (tCons (tVar 13) (tCons (tVar 1) (tCons (tVar 6) (tCons (tVar 2) (tCons (tOp rDiv (tVar 4) (tC (.int 360))) tNil)))))))) (tRet (tC (.bl false))) tNext) (tSeq (tIfS (tB (tCB (rIsi2 K) (tCons (tVar 5) (tCons (tC (.ty "list")) tNil)))) (tDrop (tF (sp_law_changedT K 9) (tCons (tVar 5) tNil))) tNext) (t_k05_j3 K))))))
noncomputable def t_k05 (K : PySem.W.Frag) : TS :=
  (tSeq (tAsg (tF (sp_law_names K) (tCons (tF (sp_law_cell_at K) (tCons (tVar 0) (tCons (tC (.int 0)) tNil))) (tCons (tF (sp_law_cell_at K) (tCons (tVar 0) (tCons (tC (.int 1)) tNil))) tNil))) (gName 1)) (tSeq (tAsg (tCB (rTupO K) (tCons (tF (sp_law_block_by K) (tCons (tSl (rSl K) (tVar 0) (tPart (tC (.int 3))) (tPart (tC (.int 43)))) (tCons (tVar 1) (tCons (tC (.int 1)) tNil)))) tNil)) (gName 2)) (tSeq (tAsg (tF (sp_law_cell_at K) (tCons (tVar 0) (tCons (tC (.int 2)) tNil))) (gName 3)) (tSeq (tAsg (tF (sp_law_mixed K) (tCons (tOp (rAdd K) (tOp rDiv (tVar 3) (tC (.int 3))) (tOp rMul (tC (.int 1009)) (tOp rMod (tF (sp_law_cell_at K) (tCons (tVar 0) (tCons (tC (.int 0)) tNil))) (tOp rPow (tC (.int 10)) (tC (.int 6)))))) tNil)) (gName 4)) (tSeq (tIfS (tTest (tOp rGt (tOp rMod (tVar 3) (tC (.int 3))) (tC (.int 0)))) (tRet (tF (sp_law_wrongT K) (tCons (tVar 1) (tCons (tVar 2) (tCons (tF (sp_law_mixed K) (tCons (tVar 4) tNil)) tNil))))) tNext) (tSeq (tAsg (tF (sp_law_handedT K 9) (tCons (tVar 2) (tCons (tOp rMod (tVar 4) (tC (.int 2))) tNil))) (gName 5)) (tSeq (tAsg (tLst (tCons (tSl (rSl K) (tVar 1) tNoPart (tPart (tC (.int 2)))) (tCons (tSl (rSl K) (tVar 1) (tPart (tC (.int 2))) (tPart (tC (.int 4)))) tNil))) (gName 6)) (tSeq (tIfS (tTest (tOp (rEq2 K) (tOp rMod (tOp rDiv (tVar 4) (tC (.int 4))) (tC (.int 3))) (tC (.int 1)))) (tSeq (tAsg (tLc (iRng1 (tCons (tC (.int 2)) tNil)) (gName 8) tYes (tLc (iRng1 (tCons (tOp rMod (tOp rDiv (tVar 4) (tC (.int 12))) (tC (.int 30))) tNil)) (gName 9) tYes (tOp (rAdd K) (tOp (rAdd K) (tC (.str "zz")) (tCB rStr (tCons (tVar 8) tNil))) (tCB rStr (tCons (tVar 9) tNil))) [9]) [8]) (gName 7)) (tAsg (tLc (iRng1 (tCons (tC (.int 2)) tNil)) (gName 8) tYes (tOp (rAdd K) (tOp (rIx K) (tVar 6) (tVar 8)) (tLc (iSeq K (tOp (rIx K) (tVar 7) (tVar 8))) (gName 10) (tTest (tOp (rIn2 K true) (tVar 10) (tVar 1))) (tVar 10) [10])) [8]) (gName 6))) tNext) (t_k05_j4 K)))))))))
def zN (k j : Nat) : Str := (("zz" : Str) ++ Str.ofString (toString ((0 : Int) + (k : Int)))) ++ Str.ofString (toString ((0 : Int) + (j : Int)))
def zs (k n : Nat) : List Str := (List.range n).map (zN k)
theorem zN_len : ∀ k ∈ List.range 2, ∀ j ∈ List.range 30, ("zz" : Str).length + (Str.ofString (toString ((0 : Int) + (k : Int)))).length ≤ sizeLine ∧ (("zz" : Str) ++ Str.ofString (toString ((0 : Int) + (k : Int)))).length + (Str.ofString (toString ((0 : Int) + (j : Int)))).length ≤ sizeLine := by decide +kernel
theorem zN_nm : ∀ x ∈ zs 0 30 ++ zs 1 30, nmB x = true := by decide +kernel
theorem zN_nd : (zs 0 30 ++ zs 1 30).Nodup := by decide +kernel
theorem zs_sub {k n : Nat} (h : n ≤ 30) : List.Sublist (zs k n) (zs k 30) := (List.range_sublist.mpr h).map _
/-- the names told, with more -/
theorem tl_of {ns us ws : List Str} {n0 n1 n2 n3 : Str} {rest : List Str} (hT : Ten ns) (e : ns = n0 :: n1 :: n2 :: n3 :: rest) (nm : ∀ x ∈ us ++ ws, Nm x ∧ x ∉ ns) (nd : (us ++ ws).Nodup) (l1 : us.length ≤ 30) (l2 : ws.length ≤ 30) :
    Tl ([n0, n1] ++ us) ([n2, n3] ++ ws) ∧ ∀ x ∈ ns.drop 4, x ∉ [n0, n1] ++ us ∧ x ∉ [n2, n3] ++ ws := by
  obtain ⟨g1, g2⟩ := told4 hT e
  obtain ⟨nu, nw, nx⟩ := List.nodup_append.mp nd
  have in1 : ∀ x ∈ [n0, n1], x ∈ ns := fun x hx => by
    rw [e]
    simp only [List.mem_cons, List.not_mem_nil, or_false] at hx ⊢
    rcases hx with h | h <;> simp [h]
  have in2 : ∀ x ∈ [n2, n3], x ∈ ns := fun x hx => by
    rw [e]
    simp only [List.mem_cons, List.not_mem_nil, or_false] at hx ⊢
    rcases hx with h | h <;> simp [h]
  have uu : ∀ x ∈ us, x ∉ ns := fun x hx => (nm x (List.mem_append_left _ hx)).2
  have ww : ∀ x ∈ ws, x ∉ ns := fun x hx => (nm x (List.mem_append_right _ hx)).2
  refine ⟨⟨fun x hx => ?_, ?_, ?_, ?_, ?_, ?_⟩, fun x hx => ?_⟩
  · rcases List.mem_append.mp hx with hx | hx
    · rcases List.mem_append.mp hx with hx | hx
      · exact g1.nm x hx
      · exact (nm x (List.mem_append_left _ hx)).1
    · rcases List.mem_append.mp hx with hx | hx
      · exact g2.nm x hx
      · exact (nm x (List.mem_append_right _ hx)).1
  · refine List.nodup_append.mpr ⟨List.nodup_append.mpr ⟨g1.nd, nu, fun x hx y hy q => uu y hy (q ▸ in1 x hx)⟩, List.nodup_append.mpr ⟨g2.nd, nw, fun x hx y hy q => ww y hy (q ▸ in2 x hx)⟩, fun x hx y hy q => ?_⟩
    subst q
    rcases List.mem_append.mp hx with hx | hx <;> rcases List.mem_append.mp hy with hy | hy
    · exact g2.no x hy hx
    · exact ww x hy (in1 x hx)
    · exact uu x hx (in2 x hy)
    · exact nx x hx x hy rfl
  · rw [List.length_append]; show 2 + _ ≤ 40; omega
  · rw [List.length_append]; show 2 + _ ≤ 40; omega
  · exact fun h => nomatch h
  · exact fun h => nomatch h
  · have nd4 := hT.nd
    have xr : x ∈ rest := by rw [e] at hx; exact hx
    rw [e] at nd4
    simp only [List.nodup_cons, List.mem_cons, not_or] at nd4
    obtain ⟨⟨_, _, _, a3⟩, ⟨_, _, b2⟩, ⟨_, c1⟩, d0, _⟩ := nd4
    have xn : x ∈ ns := List.mem_of_mem_drop hx
    refine ⟨fun h => ?_, fun h => ?_⟩
    · rcases List.mem_append.mp h with h | h
      · simp only [List.mem_cons, List.not_mem_nil, or_false] at h
        rcases h with rfl | rfl
        · exact a3 xr
        · exact b2 xr
      · exact uu x h xn
    · rcases List.mem_append.mp h with h | h
      · simp only [List.mem_cons, List.not_mem_nil, or_false] at h
        rcases h with rfl | rfl
        · exact c1 xr
        · exact d0 xr
      · exact ww x h xn
/-- what stands when the program is asked again -/
structure FinC (K : PySem.W.Frag) (H : Hp) (a pb pl l1 l2 P o h : Addr) (ns os ss : List Str) (xs : List V) (b : List Rw) : Prop where
  hI : ∃ C dx q ys, PrIn K H P os ss b C dx o h q ys
  ha : H a = some (.lst (ns.map V.str))
  hT : Ten ns
  hl : H pl = some (.lst [.ref l1, .ref l2])
  h1 : H l1 = some (.lst (os.map V.str))
  h2 : H l2 = some (.lst (ss.map V.str))
  hb : SqT K H pb xs
  bB : BkAt K (SqT K) H xs b
  ok : oks ns b
  nest : nests b ≤ 8
  size : szs b ≤ 130
  tl : Tl os ss
  out : ∀ x ∈ ns.drop 4, x ∉ os ∧ x ∉ ss
theorem FinC.off {K : PySem.W.Frag} {H H' : Hp} {a pb pl l1 l2 P o h : Addr} {ns os ss : List Str} {xs : List V} {b : List Rw} {D : List Addr} (w : FinC K H a pb pl l1 l2 P o h ns os ss xs b) (t : SameT H H') (f : ∀ z u, z ∉ D → H z = some u → H' z = some u) (n : ∀ z ∈ [a, pl, l1, l2, P, o, h], z ∉ D) : FinC K H' a pb pl l1 l2 P o h ns os ss xs b := by
  obtain ⟨C, dx, q, ys, i⟩ := w.hI
  simp only [List.mem_cons, List.not_mem_nil, or_false, forall_eq_or_imp, forall_eq] at n
  obtain ⟨na, npl, nl1, nl2, nP, no, nh⟩ := n
  exact ⟨⟨C, dx, q, ys, f _ _ nP i.ha, i.cc, f _ _ no i.ho, f _ _ nh i.hh, sameT_t t i.hq, i.hb.monoT t⟩, f _ _ na w.ha, w.hT, f _ _ npl w.hl, f _ _ nl1 w.h1, f _ _ nl2 w.h2, sameT_t t w.hb, w.bB.monoT t, w.ok, w.nest, w.size, w.tl, w.out⟩
theorem FinC.mono {K : PySem.W.Frag} {H H' : Hp} {a pb pl l1 l2 P o h : Addr} {ns os ss : List Str} {xs : List V} {b : List Rw} (w : FinC K H a pb pl l1 l2 P o h ns os ss xs b) (e : Same H H') : FinC K H' a pb pl l1 l2 P o h ns os ss xs b := w.off (D := []) (.of e) (fun z u _ => e z u) fun _ _ h => nomatch h
theorem FinC.asked {K : PySem.W.Frag} {H : Hp} {a pb pl l1 l2 P o h : Addr} {ns os ss : List Str} {xs : List V} {b : List Rw} {c : Int} {Q : VK} (w : FinC K H a pb pl l1 l2 P o h ns os ss xs b) (q : ∀ H', Same H H' → Q (.bl true) H') : sp_law_askedT K [.ref P, .ref a, .ref pl, .ref pb, .int c] H Q E0 := by
  obtain ⟨C, dx, q', ys, i⟩ := w.hI
  exact ⟨P, a, pl, l1, l2, pb, ns, os, ss, xs, b, c, rfl, ⟨C, dx, o, h, q', ys, i⟩, SqL.of w.ha, w.hT, w.hl, w.h1, w.h2, w.hb, w.bB, w.ok, w.nest, w.size, w.tl, w.out, q⟩
theorem LT.thg {K : PySem.W.Frag} {m : Bool} {H : Hp} {p : Addr} {xs : List V} (h : LT m H p xs) : ∃ T, Thg K H (.ref p) T ∧ decide (T = "list") = !m := by
  cases m with
  | true => exact ⟨"tuple", .tup (SqT.of h), by decide⟩
  | false => exact ⟨"list", .lst (SqL.of h), by decide⟩
theorem k05_j1 (K : PySem.W.Frag) (Q : VK) {H : Hp} {sc a pb hp pl l1 l2 P o h oa sa : Addr} {ns os ss : List Str} {xs : List V} {b : List Rw} {c m : Int} {w7 w8 w9 w10 : Option V} (w : FinC K H a pb pl l1 l2 P o h ns os ss xs b) (q : ∀ H', Q (.bl true) H') :
    t_k05_j1 K { nx := fun _ H' => Q .non H', rt := Q } [some (.ref sc), some (.ref a), some (.ref pb), some (.int c), some (.int m), some (.ref hp), some (.ref pl), w7, w8, w9, w10, some (.ref oa), some (.ref sa), some (.ref P)] H := by
  unfold t_k05_j1
  walk_at "gx"
  exact w.asked fun H' _ => q H'
theorem k05_j2 (K : PySem.W.Frag) (Q : VK) {H : Hp} {sc a pb hp pl l1 l2 P o h oa sa : Addr} {ns os ss : List Str} {xs : List V} {b : List Rw} {c m : Int} {w7 w8 w9 w10 : Option V} {m2 : Bool} (w : FinC K H a pb pl l1 l2 P o h ns os ss xs b) (ls : LT m2 H sa (ss.map V.str)) (ns' : ∀ z ∈ [a, pl, l1, l2, P, o, h], z ≠ sa) (q : ∀ H', Q (.bl true) H') :
    t_k05_j2 K { nx := fun _ H' => Q .non H', rt := Q } [some (.ref sc), some (.ref a), some (.ref pb), some (.int c), some (.int m), some (.ref hp), some (.ref pl), w7, w8, w9, w10, some (.ref oa), some (.ref sa), some (.ref P)] H := by
  obtain ⟨T, tt, te⟩ := ls.thg (K := K)
  unfold t_k05_j2
  walk_at "gx"
  refine w_isLst tt ?_
  rw [te]
  cases m2 with
  | true =>
    walk_at "gx"
    exact k05_j1 K Q w q
  | false =>
    have ls : H sa = some (.lst (ss.map V.str)) := ls
    walk_at "gx"
    refine ⟨sa, _, rfl, rfl, ls, ?_⟩
    walk_at "gx"
    exact k05_j1 K Q (w.off (D := [sa]) (SameT.upd ls rfl) (fun z u hz => SameX.upd z u fun e => hz (List.mem_singleton.mpr e)) fun z hz hd => ns' z hz (List.mem_singleton.mp hd)) q
theorem k05_j3 (K : PySem.W.Frag) (Q : VK) {H : Hp} {sc a pb hp pl l1 l2 P o h oa sa : Addr} {ns os ss : List Str} {xs : List V} {b : List Rw} {c m : Int} {w7 w8 w9 w10 : Option V} {m1 m2 : Bool} (w : FinC K H a pb pl l1 l2 P o h ns os ss xs b) (lo : LT m1 H oa (os.map V.str)) (ls : LT m2 H sa (ss.map V.str)) (no' : ∀ z ∈ [a, pl, l1, l2, P, o, h], z ≠ oa) (ns' : ∀ z ∈ [a, pl, l1, l2, P, o, h], z ≠ sa) (ne : sa ≠ oa) (q : ∀ H', Q (.bl true) H') :
    t_k05_j3 K { nx := fun _ H' => Q .non H', rt := Q } [some (.ref sc), some (.ref a), some (.ref pb), some (.int c), some (.int m), some (.ref hp), some (.ref pl), w7, w8, w9, w10, some (.ref oa), some (.ref sa), some (.ref P)] H := by
  obtain ⟨T, tt, te⟩ := lo.thg (K := K)
  have z1 := w.tl.l1
  unfold t_k05_j3
  walk_at "gx"
  refine w_isLst tt ?_
  rw [te]
  cases m1 with
  | true =>
    walk_at "gx"
    exact k05_j2 K Q w ls ns' q
  | false =>
    have lo : H oa = some (.lst (os.map V.str)) := lo
    have tl := w.hT.len
    obtain ⟨n5, h5⟩ : ∃ n5, ns[5]? = some n5 := ⟨ns[5], List.getElem?_eq_getElem (by omega)⟩
    walk_at "gx"
    refine w_ixL (v := .str n5) (SqL.of w.ha) (atI_nat (j := 5) (by rw [List.getElem?_map, h5] <;> rfl)) ?_
    walk_at "gx"
    refine w_app' lo (lt_line (by rw [List.length_map]; omega)) (fun H2 x2 t2 h2 => ?_)
    walk_at "gx"
    have off2 : ∀ z u, z ∉ [oa] → H z = some u → H2 z = some u := fun z u hz => x2 z u fun e => hz (List.mem_singleton.mpr e)
    refine k05_j2 K Q (w.off (D := [oa]) t2 off2 fun z hz hd => no' z hz (List.mem_singleton.mp hd)) (ls.off (D := [oa]) t2 off2 fun z hz hd => ?_) ns' q
    cases m2 with
    | true => exact nomatch hz
    | false => exact ne (by rw [← List.mem_singleton.mp hz]; exact List.mem_singleton.mp hd)
theorem k05_j4 (K : PySem.W.Frag) (Q : VK) {B Hh G : Hp} {sc a pb hp pl l1 l2 : Addr} {ns os ss : List Str} {xs ys : List V} {b : List Rw} {S : List Addr} {md : Bool} {c m : Int} {w7 w8 w9 w10 : Option V} (eB : Same B Hh) (eG : Same Hh G) (ha : B a = some (.lst (ns.map V.str))) (hT : Ten ns) (hb : SqT K B pb xs) (bB : BkAt K (SqT K) B xs b) (ok : oks ns b) (nest : nests b ≤ 8) (size : szs b ≤ 130)
    (lt : LT md Hh hp ys) (hd : HdB K md Hh ys b S) (nd : (ow md hp ++ S).Nodup) (nS : ∀ s ∈ ow md hp ++ S, B s = none) (hl : G pl = some (.lst [.ref l1, .ref l2])) (h1 : G l1 = some (.lst (os.map V.str))) (h2 : G l2 = some (.lst (ss.map V.str))) (npl : Hh pl = none) (nl1 : Hh l1 = none) (nl2 : Hh l2 = none)
    (tl : Tl os ss) (out : ∀ x ∈ ns.drop 4, x ∉ os ∧ x ∉ ss) (q : ∀ H', Q (.bl true) H') :
    t_k05_j4 K { nx := fun _ H' => Q .non H', rt := Q } [some (.ref sc), some (.ref a), some (.ref pb), some (.int c), some (.int m), some (.ref hp), some (.ref pl), w7, w8, w9, w10, none, none, none] G := by
  obtain ⟨du, dv, dd⟩ := List.nodup_append.mp tl.nd
  have z1 := tl.l1
  have z2 := tl.l2
  have own : ∀ s ∈ ow md hp ++ S, RowsL Hh s := fun s hs => (List.mem_append.mp hs).elim (lt.own hd s) (hd.lists s)
  unfold t_k05_j4
  walk_at "gx"
  refine w_listL' (SqL.of h1) (fun la G1 n1 e1 k1 => ?_)
  walk_at "gx"
  refine w_tupL' (SqL.of (e1 _ _ h1)) (fun ta G2 n2 e2 k2 => ?_)
  walk_at "gx"
  rename_i pq G3 n3 e3 k3
  have e13 := e1.trans (e2.trans e3)
  have mm := mod_in (m / 2) (show (0 : Int) < 2 by decide)
  obtain ⟨m1, oa, at1, lo, noa⟩ : ∃ (m1 : Bool) (oa : Addr), atI [V.ref la, V.ref ta] (m / 2 % 2) = some (.ref oa) ∧ LT m1 G3 oa (os.map V.str) ∧ G oa = none := by
    rcases pick2' (x := .ref la) (y := .ref ta) mm.1 mm.2 with ⟨_, h⟩ | ⟨_, h⟩
    · exact ⟨false, la, h, (e3 _ _ (e2 _ _ k1) : G3 la = some (.lst (os.map V.str))), n1⟩
    · exact ⟨true, ta, h, (e3 _ _ k2 : G3 ta = some (.tup (os.map V.str))), none_of e1 n2⟩
  refine w_ixL (SqL.of k3) at1 ?_
  have hl3 := e13 _ _ hl
  have h23 := e13 _ _ h2
  walk_at "gx"
  refine w_listL' (SqL.of h23) (fun lb G4 n4 e4 k4 => ?_)
  walk_at "gx"
  refine w_tupL' (SqL.of (e4 _ _ h23)) (fun tb G5 n5 e5 k5 => ?_)
  walk_at "gx"
  rename_i pq2 G6 n6 e6 k6
  have e46 := e4.trans (e5.trans e6)
  have mm2 := mod_in (m / 3) (show (0 : Int) < 2 by decide)
  obtain ⟨m2, sa, at2, ls, nsa⟩ : ∃ (m2 : Bool) (sa : Addr), atI [V.ref lb, V.ref tb] (m / 3 % 2) = some (.ref sa) ∧ LT m2 G6 sa (ss.map V.str) ∧ G3 sa = none := by
    rcases pick2' (x := .ref lb) (y := .ref tb) mm2.1 mm2.2 with ⟨_, h⟩ | ⟨_, h⟩
    · exact ⟨false, lb, h, (e6 _ _ (e5 _ _ k4) : G6 lb = some (.lst (ss.map V.str))), n4⟩
    · exact ⟨true, tb, h, (e6 _ _ k5 : G6 tb = some (.tup (ss.map V.str))), none_of e4 n5⟩
  refine w_ixL (SqL.of k6) at2 ?_
  have lo6 : LT m1 G6 oa (os.map V.str) := lo.off (D := []) (.of e46) (fun z u _ => e46 z u) fun _ _ h => nomatch h
  have eG6 : Same G G6 := e13.trans e46
  have eH6 : Same Hh G6 := eG.trans eG6
  walk_at "gx"
  refine w_mkX ?_
  walk_at "gx"
  intro P C dx cc np ndx ne
  have eP : Same G6 (upd (upd G6 dx (.own P)) P (.ins C dx [])) := new2 np ndx ne
  have hPp : upd (upd G6 dx (.own P)) P (.ins C dx []) P = some (.ins C dx []) := upd_same
  have back : ∀ {H2 : Hp}, SameX P (upd (upd G6 dx (.own P)) P (.ins C dx [])) H2 → Same G6 H2 := fun x => SameX.same (H := G6) (Same.refl _) np (fun z u nz hz => x z u nz (eP z u hz))
  generalize upd (upd G6 dx (.own P)) P (.ins C dx []) = G7 at eP hPp back
  have up : ∀ {mo : Bool} {p : Addr} {vs : List V}, LT mo G6 p vs → LT mo G7 p vs := fun h => h.off (D := []) (.of eP) (fun z u _ => eP z u) fun _ _ h => nomatch h
  have lt7 : LT md G7 hp ys := lt.off (D := []) (.of (eH6.trans eP)) (fun z u _ => (eH6.trans eP) z u) fun _ _ h => nomatch h
  have gr : GoodR K G7 ys 1 b := ⟨((hd.mono (eH6.trans eP)).bk), rts_of hT.nm ok, by omega, by omega⟩
  refine ⟨P, C, dx, .ref oa, .ref sa, .ref hp, rfl, hPp, cc, .inl ⟨oa, sa, hp, os, ss, ys, b, rfl, rfl, rfl, (up lo6).se, (up ls).se, ⟨fun x hx => tl.nm x (List.mem_append_left _ hx), du, (fun _ _ h => nomatch h), by omega⟩, ⟨fun x hx => tl.nm x (List.mem_append_right _ hx), dv, fun x hx ho => dd x ho x hx rfl, by omega⟩, lt7.se, gr, fun G8 x8 pn => ⟨rfl, ?_⟩⟩⟩
  obtain ⟨C', dx', o, h, q', zs', hI, no, nh⟩ := pn
  have e8 := back x8
  have eG8 : Same G G8 := eG6.trans e8
  have eB8 : Same B G8 := eB.trans (eG.trans eG8)
  have w : FinC K G8 a pb pl l1 l2 P o h ns os ss xs b := ⟨⟨C', dx', q', zs', hI⟩, eB8 _ _ ha, hT, eG8 _ _ hl, eG8 _ _ h1, eG8 _ _ h2, same_t eB8 hb, bB.monoS eB8, ok, nest, size, tl, out⟩
  have noP : G6 o = none := none_of eP no
  have nhP : G6 h = none := none_of eP nh
  /- which are others -/
  have some6 : ∀ {mo : Bool} {p : Addr} {vs : List V}, LT mo G6 p vs → ∃ u, G6 p = some u := fun {mo p vs} h => by
    cases mo with
    | true => exact ⟨_, h⟩
    | false => exact ⟨_, h⟩
  have some3 : ∃ u, G3 oa = some u := by
    cases m1 with
    | true => exact ⟨_, lo⟩
    | false => exact ⟨_, lo⟩
  have aG : G a = some (.lst (ns.map V.str)) := eG _ _ (eB _ _ ha)
  obtain ⟨uo, ho6⟩ := some6 lo6
  obtain ⟨us, hs6⟩ := some6 ls
  obtain ⟨uo3, ho3⟩ := some3
  have no' : ∀ z ∈ [a, pl, l1, l2, P, o, h], z ≠ oa := fun z hz => by
    simp only [List.mem_cons, List.not_mem_nil, or_false] at hz
    rcases hz with rfl | rfl | rfl | rfl | rfl | rfl | rfl
    · exact ne_of_none aG noa
    · exact ne_of_none hl noa
    · exact ne_of_none h1 noa
    · exact ne_of_none h2 noa
    · exact (ne_of_none ho6 np).symm
    · exact (ne_of_none ho6 noP).symm
    · exact (ne_of_none ho6 nhP).symm
  have ns' : ∀ z ∈ [a, pl, l1, l2, P, o, h], z ≠ sa := fun z hz => by
    simp only [List.mem_cons, List.not_mem_nil, or_false] at hz
    rcases hz with rfl | rfl | rfl | rfl | rfl | rfl | rfl
    · exact ne_of_none (e13 _ _ aG) nsa
    · exact ne_of_none hl3 nsa
    · exact ne_of_none (e13 _ _ h1) nsa
    · exact ne_of_none h23 nsa
    · exact (ne_of_none hs6 np).symm
    · exact (ne_of_none hs6 noP).symm
    · exact (ne_of_none hs6 nhP).symm
  have ne' : sa ≠ oa := (ne_of_none ho3 nsa).symm
  have nd' : ∀ z ∈ [a, pl, l1, l2, P, o, h, oa, sa], z ∉ ow md hp ++ S := fun z hz hm => by
    obtain ⟨vs, hv, _⟩ := own z hm
    simp only [List.mem_cons, List.not_mem_nil, or_false] at hz
    rcases hz with rfl | rfl | rfl | rfl | rfl | rfl | rfl | rfl | rfl
    · have := nS _ hm; rw [ha] at this; cases this
    · rw [hv] at npl; cases npl
    · rw [hv] at nl1; cases nl1
    · rw [hv] at nl2; cases nl2
    · rw [eH6 _ _ hv] at np; cases np
    · rw [eH6 _ _ hv] at noP; cases noP
    · rw [eH6 _ _ hv] at nhP; cases nhP
    · rw [eG _ _ hv] at noa; cases noa
    · rw [e13 _ _ (eG _ _ hv)] at nsa; cases nsa
  have lo8 : LT m1 G8 oa (os.map V.str) := lo6.off (D := []) (.of e8) (fun z u _ => e8 z u) fun _ _ h => nomatch h
  have ls8 : LT m2 G8 sa (ss.map V.str) := ls.off (D := []) (.of e8) (fun z u _ => e8 z u) fun _ _ h => nomatch h
  have lt8 : LT md G8 hp ys := lt.off (D := []) (.of (eH6.trans e8)) (fun z u _ => (eH6.trans e8) z u) fun _ _ h => nomatch h
  have hd8 := hd.mono (eH6.trans e8)
  clear lo ls lo6 lt lt7 hd own gr up back e1 e2 e3 e4 e5 e6 e13 e46 k1 k2 k3 k4 k5 k6 eP e8 x8 hI no nh noP nhP ho6 hs6 ho3 noa nsa hl h1 h2 hl3 h23 aG ha hb bB eB8 eG8 eG6 eH6 n1 n2 n3 n4 n5 n6 np ndx hPp
  walk_at "gx"
  refine w.asked fun G9 e9 => ?_
  have w9 := w.mono e9
  have lo9 : LT m1 G9 oa (os.map V.str) := lo8.off (D := []) (.of e9) (fun z u _ => e9 z u) fun _ _ h => nomatch h
  have ls9 : LT m2 G9 sa (ss.map V.str) := ls8.off (D := []) (.of e9) (fun z u _ => e9 z u) fun _ _ h => nomatch h
  have lt9 : LT md G9 hp ys := lt8.off (D := []) (.of e9) (fun z u _ => e9 z u) fun _ _ h => nomatch h
  have hd9 := hd8.mono e9
  obtain ⟨T, tt, te⟩ := lt9.thg (K := K)
  walk_at "gx"
  refine w_isLst tt ?_
  rw [te]
  cases md with
  | true =>
    walk_at "gx"
    exact k05_j3 K Q w9 lo9 ls9 no' ns' ne' q
  | false =>
    have lt9 : G9 hp = some (.lst ys) := lt9
    walk_at "gx"
    refine ⟨hp, ys, b, S, rfl, lt9, hd9, nd, by omega, by omega, fun G10 t10 o10 => ?_⟩
    walk_at "gx"
    have n7 : ∀ z ∈ [a, pl, l1, l2, P, o, h], z ∉ hp :: S := fun z hz => nd' z (by simp only [List.mem_cons, List.not_mem_nil, or_false] at hz ⊢; rcases hz with h | h | h | h | h | h | h <;> simp [h])
    refine k05_j3 K Q (w9.off (D := hp :: S) t10 o10 n7) (lo9.off (D := hp :: S) t10 o10 fun z hz => ?_) (ls9.off (D := hp :: S) t10 o10 fun z hz => ?_) no' ns' ne' q
    · cases m1 with
      | true => exact nomatch hz
      | false => rw [List.mem_singleton.mp hz]; exact nd' oa (by simp)
    · cases m2 with
      | true => exact nomatch hz
      | false => rw [List.mem_singleton.mp hz]; exact nd' sa (by simp)
theorem lg_small {i : Nat} (h : i < 100) : ((0 : Int) + (i : Int)).natAbs.log2 < 1920 := Nat.lt_of_le_of_lt (Nat.log2_le_self _) (by omega)
theorem zs_snoc (k n : Nat) : zs k (n + 1) = zs k n ++ [zN k n] := by unfold zs; rw [List.range_succ, List.map_append] <;> rfl
theorem zs_len {k n : Nat} : (zs k n).length = n := by unfold zs; rw [List.length_map, List.length_range]
theorem at0i {xs : List V} {i : Nat} {v : V} (h : xs[i]? = some v) : atI xs ((0 : Int) + (i : Int)) = some v := by rw [Int.zero_add]; exact atI_nat h
/-- the names told, by their place -/
def psN (ns : List Str) (n0 n1 n2 n3 : Str) (n k : Nat) : List Str := (if k = 0 then [n0, n1] else [n2, n3]) ++ (zs k n).filter fun x => !decide (x ∈ ns)
theorem ps_tl {ns : List Str} {n0 n1 n2 n3 : Str} {rest : List Str} {n : Nat} (hT : Ten ns) (e : ns = n0 :: n1 :: n2 :: n3 :: rest) (hn : n ≤ 30) : Tl (psN ns n0 n1 n2 n3 n 0) (psN ns n0 n1 n2 n3 n 1) ∧ ∀ x ∈ ns.drop 4, x ∉ psN ns n0 n1 n2 n3 n 0 ∧ x ∉ psN ns n0 n1 n2 n3 n 1 := by
  have sub : ∀ k, List.Sublist ((zs k n).filter fun x => !decide (x ∈ ns)) (zs k 30) := fun k => List.filter_sublist.trans (zs_sub hn)
  have len : ∀ k, ((zs k n).filter fun x => !decide (x ∈ ns)).length ≤ 30 := fun k => by have := (sub k).length_le; rw [zs_len] at this; exact this
  refine tl_of hT e (fun x hx => ?_) (List.Sublist.nodup ((sub 0).append (sub 1)) zN_nd) (len 0) (len 1)
  have inA : x ∈ zs 0 30 ++ zs 1 30 := ((sub 0).append (sub 1)).subset hx
  refine ⟨nm_iff.mp (zN_nm x inA), fun hm => ?_⟩
  rcases List.mem_append.mp hx with h | h
  · have := (List.mem_filter.mp h).2
    rw [decide_eq_true hm] at this
    cases this
  · have := (List.mem_filter.mp h).2
    rw [decide_eq_true hm] at this
    cases this
theorem pure_k05 (K : PySem.W.Frag) (vs : List V) (H : Hp) (Q : VK) (E : XK) (h : sp_k05 K vs H Q E) :
    t_k05 K { nx := fun _ H' => Q .non H', rt := Q } (start N_k05 vs) H := by
  obtain ⟨sc, cs, rfl, hS, hcl, q⟩ := h
  unfold t_k05
  walk_at "gx"
  refine ⟨sc, cs, _, rfl, hS, by decide, fun i0 => ?_⟩
  walk_at "gx"
  refine ⟨sc, cs, _, rfl, hS, by decide, fun i1 => ?_⟩
  walk_at "gx"
  refine ⟨_, _, rfl, fun a H1 ns hT e1 na ha => ?_⟩
  walk_at "gx"
  refine w_slC' (same_l e1 hS) (some 3) (some 43) (fun pc H2 cells n2 e2 h2 sub => ?_)
  walk_at "gx"
  refine ⟨pc, a, cells, ns, _, rfl, SqL.of h2, Nat.le_trans sub.length_le hcl, SqL.of (e2 _ _ ha), hT, fun pb0 H3 xs b e3 n3 h3 gB hz => ?_⟩
  walk_at "gx"
  refine w_tupL' (SqL.of h3) (fun pb B n4 e4 h4 => ?_)
  have hb : SqT K B pb xs := SqT.of h4
  have bB := gB.at_.monoS e4
  have ok := gB.ok
  have nest := gB.nest
  have e14 := e2.trans (e3.trans e4)
  have haB := e14 _ _ ha
  have hSB := same_l (e1.trans e14) hS
  clear hS e1 e2 e3 e4 e14 ha h2 h3 h4 gB na n2 n3 n4
  walk_at "gx"
  refine ⟨sc, cs, _, rfl, hSB, by decide, fun i2 => ?_⟩
  walk_at "gx"
  refine ⟨sc, cs, _, rfl, hSB, by decide, fun i3 => ?_⟩
  walk_at "gx"
  refine w_pow ⟨by decide, by decide, by decide⟩ ?_
  walk_at "gx"
  refine w_mulI (.inl ⟨by decide, by decide⟩) ?_
  walk_at "gx"
  refine ⟨_, rfl, fun m m0 m1 => ?_⟩
  walk_at "gx"
  refine w_two (fun _ => ?wrong) (fun _ => ?right)
  case wrong =>
    walk_at "gx"
    refine ⟨_, rfl, fun r _ _ => ?_⟩
    walk_at "gx"
    exact ⟨a, pb, ns, xs, b, r, rfl, SqL.of haB, hT, hb, bB, ok, nest, hz, q⟩
  walk_at "gx"
  obtain ⟨md, hmd⟩ : ∃ md : Bool, m % 2 = if md = true then 1 else 0 := by
    rcases (show m % 2 = 0 ∨ m % 2 = 1 by omega) with h | h
    · exact ⟨false, h⟩
    · exact ⟨true, h⟩
  rw [hmd]
  refine ⟨pb, xs, b, md, rfl, hb, bB, by omega, by omega, fun hp ys S Hh eh nhp lt hd nd nS => ?_⟩
  have tlen := hT.len
  obtain ⟨n0, n1, n2, n3, rest, nse⟩ : ∃ n0 n1 n2 n3 rest, ns = n0 :: n1 :: n2 :: n3 :: rest := by
    match ns, tlen with
    | n0 :: n1 :: n2 :: n3 :: rest, _ => exact ⟨n0, n1, n2, n3, rest, rfl⟩
  have nS' : ∀ s ∈ ow md hp ++ S, B s = none := fun s hs => (List.mem_append.mp hs).elim (ow_none nhp s) (nS s)
  have haH := eh _ _ haB
  walk_at "gx"
  refine w_sl02 (SqL.of haH) ⟨rest, nse⟩ (fun l1 G1 u1 f1 k1 => ?_)
  walk_at "gx"
  refine w_sl24 (SqL.of (f1 _ _ haH)) ⟨rest, nse⟩ (fun l2 G2 u2 f2 k2 => ?_)
  walk_at "gx"
  rename_i pl G3 u3 f3 k3
  have f13 := f1.trans (f2.trans f3)
  have npl : Hh pl = none := none_of (f1.trans f2) u3
  have nl1 : Hh l1 = none := u1
  have nl2 : Hh l2 = none := none_of f1 u2
  have g1 : G3 l1 = some (.lst ([n0, n1].map V.str)) := f3 _ _ (f2 _ _ k1)
  have g2 : G3 l2 = some (.lst ([n2, n3].map V.str)) := f3 _ _ k2
  have haG : G3 a = some (.lst (ns.map V.str)) := f13 _ _ haH
  clear k1 k2 f1 f2 f3 u1 u2 u3
  refine w_two (fun _ => ?more) (fun _ => ?less)
  case less =>
    walk_at "gx"
    obtain ⟨t1, t2⟩ := tl_of (us := []) (ws := []) hT nse (fun _ h => nomatch h) List.nodup_nil (Nat.zero_le _) (Nat.zero_le _)
    exact k05_j4 K Q eh f13 haB hT hb bB ok nest hz lt hd nd nS' k3 g1 g2 npl nl1 nl2 t1 t2 q
  walk_at "gx"
  have m30 := mod_in (m / 12) (show (0 : Int) < 30 by decide)
  obtain ⟨n, hn⟩ := Int.eq_ofNat_of_zero_le m30.1
  have n30 : n ≤ 30 := by omega
  obtain ⟨t1, t2⟩ := ps_tl hT nse n30
  refine w_lc ?_
  walk_at "gx"
  refine ⟨_, rfl, by decide, by decide, fun D hD => lc_range (lo := 0) (n := 2) (fun i H' => Same G3 H' ∧ ∃ rs : List Addr, H' D = some (.lst (rs.map V.ref)) ∧ rs.length = i ∧ ∀ (k : Nat) r, rs[k]? = some r → H' r = some (.lst ((zs k n).map V.str)) ∧ r ≠ D)
    ⟨same_new hD, [], upd_same, rfl, fun k r h => nomatch h⟩ ?_ ?_⟩
  · rintro i H5 hi ⟨e5, rs, hD5, rl, rr⟩
    refine ⟨rfl, ?_⟩
    walk_at "gx"
    refine w_lc ?_
    walk_at "gx"
    rw [hn]
    refine ⟨_, rfl, by omega, by omega, fun D2 hD2 => lc_range (lo := 0) (n := n) (fun j H' => Same H5 H' ∧ H' D2 = some (.lst ((zs i j).map V.str))) ⟨same_new hD2, upd_same⟩ ?_ ?_⟩
    · rintro j H6 hj ⟨e6, h6⟩
      have zl := zN_len i (List.mem_range.mpr hi) j (List.mem_range.mpr (by omega))
      refine ⟨rfl, ?_⟩
      walk_at "gx"
      refine w_str (lg_small (by omega)) ?_
      refine w_addT zl.1 ?_
      walk_at "gx"
      refine w_str (lg_small (by omega)) ?_
      refine w_addT zl.2 ?_
      refine ⟨_, h6, lt_line (by rw [List.length_map, zs_len]; omega), same_mut e6 hD2, ?_⟩
      rw [upd_same, zs_snoc, List.map_append] <;> rfl
    · rintro H6 ⟨e6, h6⟩
      have nD : D ≠ D2 := ne_of_none hD5 hD2
      refine ⟨_, e6 _ _ hD5, lt_line (by rw [List.length_map]; omega), same_mut (e5.trans e6) hD, rs ++ [D2], by rw [upd_same, List.map_append] <;> rfl, by rw [List.length_append, rl] <;> rfl, fun k r hk => ?_⟩
      by_cases c : k < rs.length
      · rw [List.getElem?_append_left c] at hk
        obtain ⟨k1, k2⟩ := rr k r hk
        exact ⟨by rw [upd_ne k2]; exact e6 _ _ k1, k2⟩
      · rw [List.getElem?_append_right (by omega)] at hk
        have kk : k = rs.length := by
          have := (List.getElem?_eq_some_iff.mp hk).1
          simp only [List.length_cons, List.length_nil] at this
          omega
        rw [kk, Nat.sub_self] at hk
        obtain rfl := Option.some.inj hk
        rw [kk, rl]
        exact ⟨by rw [upd_ne nD.symm]; exact h6, nD.symm⟩
  rintro H5 ⟨e5, rs, hD5, rl, rr⟩
  walk_at "gx"
  refine w_lc ?_
  walk_at "gx"
  refine ⟨_, rfl, by decide, by decide, fun D3 hD3 => lc_range (lo := 0) (n := 2) (fun i H' => Same H5 H' ∧ ∃ ls : List Addr, H' D3 = some (.lst (ls.map V.ref)) ∧ ls.length = i ∧ ∀ (k : Nat) r, ls[k]? = some r → H' r = some (.lst ((psN ns n0 n1 n2 n3 n k).map V.str)) ∧ r ≠ D3 ∧ H5 r = none)
    ⟨same_new hD3, [], upd_same, rfl, fun k r h => nomatch h⟩ ?_ ?_⟩
  · rintro i H6 hi ⟨e6, ls, hD6, ll, lr⟩
    have e36 := e5.trans e6
    /- the one told already -/
    obtain ⟨li, hli, hl6⟩ : ∃ li, ([V.ref l1, V.ref l2] : List V)[i]? = some (.ref li) ∧ H6 li = some (.lst ((if i = 0 then [n0, n1] else [n2, n3]).map V.str)) := by
      rcases (show i = 0 ∨ i = 1 by omega) with rfl | rfl
      · exact ⟨l1, rfl, e36 _ _ g1⟩
      · exact ⟨l2, rfl, e36 _ _ g2⟩
    obtain ⟨ri, hri⟩ : ∃ ri, rs[i]? = some ri := ⟨rs[i]'(by omega), List.getElem?_eq_getElem (by omega)⟩
    have hr6 := e6 _ _ (rr i ri hri).1
    refine ⟨rfl, ?_⟩
    walk_at "gx"
    refine w_ixL (v := .ref li) (SqL.of (e36 _ _ k3)) (at0i hli) ?_
    refine w_lc ?_
    walk_at "gx"
    refine w_ixL (v := .ref ri) (SqL.of (e6 _ _ hD5)) (at0i (by rw [List.getElem?_map, hri] <;> rfl)) ?_
    refine lc_fil (as := zs i n) (P := fun v x => v = V.str x) (fun x => !decide (x ∈ ns)) (fun _ y x => y = V.str x) (.inl (SqL.of hr6)) (all2_map (f := V.str)) (by rw [zs_len]; omega) (fun _ _ _ _ _ h => h) ?_ ?_
    · rintro D4 v x H7 Nx hx rfl e7 ⟨zz, hzz⟩ kt kf
      refine ⟨rfl, ?_⟩
      walk_at "gx"
      refine w_ninTxt (SqL.of (e7 _ _ (e36 _ _ haG))) ?_
      walk_at "gx"
      refine w_two (fun c => ?_) (fun c => ?_)
      · walk_at "gx"
        exact kt c _ H7 (Same.refl _) rfl
      · exact kf c H7 (Same.refl _)
    · intro D4 H7 zz e7 nD4 hD4 hR
      have hv := all2_txt hR
      rw [hv] at hD4
      have fl : ((zs i n).filter fun x => !decide (x ∈ ns)).length ≤ 30 := by have := List.length_filter_le (fun x => !decide (x ∈ ns)) (zs i n); rw [zs_len] at this; omega
      refine w_addL' (e7 _ _ hl6) hD4 (sz (by rw [List.length_map, List.length_map]; split <;> (show 2 + _ ≤ _; omega))) (fun l H8 n8 e8 h8 => ?_)
      rw [← List.map_append] at h8
      have n6 : H6 l = none := none_of e7 n8
      have nD : D3 ≠ l := ne_of_none hD6 n6
      refine ⟨_, e8 _ _ (e7 _ _ hD6), lt_line (by rw [List.length_map]; omega), same_mut (e6.trans (e7.trans e8)) hD3, ls ++ [l], by rw [upd_same, List.map_append] <;> rfl, by rw [List.length_append, ll] <;> rfl, fun k r hk => ?_⟩
      by_cases c : k < ls.length
      · rw [List.getElem?_append_left c] at hk
        obtain ⟨k1, k2, k3⟩ := lr k r hk
        exact ⟨by rw [upd_ne k2]; exact e8 _ _ (e7 _ _ k1), k2, k3⟩
      · rw [List.getElem?_append_right (by omega)] at hk
        have kk : k = ls.length := by
          have := (List.getElem?_eq_some_iff.mp hk).1
          simp only [List.length_cons, List.length_nil] at this
          omega
        rw [kk, Nat.sub_self] at hk
        obtain rfl := Option.some.inj hk
        rw [kk, ll]
        exact ⟨by rw [upd_ne nD.symm]; exact h8, nD.symm, none_of e6 n6⟩
  rintro H6 ⟨e6, ls, hD6, ll, lr⟩
  obtain ⟨x, y, rfl⟩ : ∃ x y, ls = [x, y] := by
    match ls, ll with
    | [x, y], _ => exact ⟨x, y, rfl⟩
  obtain ⟨hx, _, nx⟩ := lr 0 x rfl
  obtain ⟨hy, _, ny⟩ := lr 1 y rfl
  have e05 := f13.trans e5
  walk_at "gx"
  exact k05_j4 K Q eh (e05.trans e6) haB hT hb bB ok nest hz lt hd nd nS' hD6 hx hy (none_of e05 hD3) (none_of e05 nx) (none_of e05 ny) t1 t2 q
theorem law_in_k05 (K : PySem.W.Frag) (H : Hp) (a : Addr) (ns : List Int) (hl : ns.length ≤ 63) (hS : SqL K H a (ns.map V.int)) : sp_k05 K [.ref a] H (fun v _ => v = .bl true) fun _ _ _ => False := ⟨a, ns, rfl, hS, hl, fun _ => rfl⟩
def topS (i : Nat) : Stmt := PySem.Challenge.pw_hushkind_k05_programs_made.main.body.getD i (.Pass ⟨0, 0, 0, 0⟩)
def memS (st : Stmt) (j : Nat) : Stmt := match st with | .ClassDef (body := b) .. => b.getD j (.Pass ⟨0, 0, 0, 0⟩) | _ => .Pass ⟨0, 0, 0, 0⟩
abbrev s_law_mixed : Stmt := topS 40
abbrev M_law_mixed : List Str := ["_law_number"]
theorem sc_law_mixed : FnScope M_law_mixed ["_law_number"] (defScope s_law_mixed) := ⟨rfl, rfl, rfl, by decide +kernel, rfl, by decide +kernel, by decide +kernel⟩
abbrev s_law_name_by : Stmt := topS 41
abbrev M_law_name_by : List Str := ["_law_cell", "_law_found", "_law_number", "_law_k"]
theorem sc_law_name_by : FnScope M_law_name_by ["_law_cell"] (defScope s_law_name_by) := ⟨rfl, rfl, rfl, by decide +kernel, rfl, by decide +kernel, by decide +kernel⟩
abbrev s_law_twin : Stmt := topS 42
abbrev M_law_twin : List Str := ["_law_name", "_law_cell", "_law_some", "_law_at", "_law_step", "_law_found"]
theorem sc_law_twin : FnScope M_law_twin ["_law_name", "_law_cell"] (defScope s_law_twin) := ⟨rfl, rfl, rfl, by decide +kernel, rfl, by decide +kernel, by decide +kernel⟩
abbrev s_law_names : Stmt := topS 43
abbrev M_law_names : List Str := ["_law_one", "_law_other", "_law_names_here", "_law_k", "_law_name"]
theorem sc_law_names : FnScope M_law_names ["_law_one", "_law_other"] (defScope s_law_names) := ⟨rfl, rfl, rfl, by decide +kernel, rfl, by decide +kernel, by decide +kernel⟩
abbrev s_law_cell_at : Stmt := topS 39
abbrev M_law_cell_at : List Str := ["_law_script", "_law_k"]
theorem sc_law_cell_at : FnScope M_law_cell_at ["_law_script", "_law_k"] (defScope s_law_cell_at) := ⟨rfl, rfl, rfl, by decide +kernel, rfl, by decide +kernel, by decide +kernel⟩
abbrev s_law_end_by : Stmt := topS 44
abbrev M_law_end_by : List Str := ["_law_number", "_law_names_here"]
theorem sc_law_end_by : FnScope M_law_end_by ["_law_number", "_law_names_here"] (defScope s_law_end_by) := ⟨rfl, rfl, rfl, by decide +kernel, rfl, by decide +kernel, by decide +kernel⟩
abbrev s_law_formula_by : Stmt := topS 45
abbrev M_law_formula_by : List Str := ["_law_number", "_law_names_here", "_law_low", "_law_divide", "_law_left", "_law_sign", "_law_one"]
theorem sc_law_formula_by : FnScope M_law_formula_by ["_law_number", "_law_names_here", "_law_low", "_law_divide", "_law_left"] (defScope s_law_formula_by) := ⟨rfl, rfl, rfl, by decide +kernel, rfl, by decide +kernel, by decide +kernel⟩
abbrev s_law_all_names : Stmt := topS 46
abbrev M_law_all_names : List Str := ["_law_formula"]
theorem sc_law_all_names : FnScope M_law_all_names ["_law_formula"] (defScope s_law_all_names) := ⟨rfl, rfl, rfl, by decide +kernel, rfl, by decide +kernel, by decide +kernel⟩
abbrev s_law_row_by : Stmt := topS 47
abbrev M_law_row_by : List Str := ["_law_names_here", "_law_more", "_law_dark", "_law_mode", "_law_low", "_law_some", "_law_formula", "_law_name"]
theorem sc_law_row_by : FnScope M_law_row_by ["_law_names_here", "_law_more", "_law_dark", "_law_mode"] (defScope s_law_row_by) := ⟨rfl, rfl, rfl, by decide +kernel, rfl, by decide +kernel, by decide +kernel⟩
abbrev s_law_closed : Stmt := topS 48
abbrev M_law_closed : List Str := ["_law_stack", "_law_frame"]
theorem sc_law_closed : FnScope M_law_closed ["_law_stack"] (defScope s_law_closed) := ⟨rfl, rfl, rfl, by decide +kernel, rfl, by decide +kernel, by decide +kernel⟩
abbrev s_law_put : Stmt := topS 49
abbrev M_law_put : List Str := ["_law_stack", "_law_names_here", "_law_more", "_law_mode", "_law_way", "_law_dark", "_law_frame", "_law_formula", "_law_secret", "_law_shut", "_law_some"]
theorem sc_law_put : FnScope M_law_put ["_law_stack", "_law_names_here", "_law_more", "_law_mode"] (defScope s_law_put) := ⟨rfl, rfl, rfl, by decide +kernel, rfl, by decide +kernel, by decide +kernel⟩
abbrev s_law_block_by : Stmt := topS 50
abbrev M_law_block_by : List Str := ["_law_cells", "_law_names_here", "_law_loose", "_law_stack", "_law_turn", "_law_cell", "_law_more", "_law_mode"]
theorem sc_law_block_by : FnScope M_law_block_by ["_law_cells", "_law_names_here", "_law_loose"] (defScope s_law_block_by) := ⟨rfl, rfl, rfl, by decide +kernel, rfl, by decide +kernel, by decide +kernel⟩
abbrev s_is_listT : Stmt := topS 25
abbrev M_is_listT : List Str := ["thing"]
theorem sc_is_listT : FnScope M_is_listT ["thing"] (defScope s_is_listT) := ⟨rfl, rfl, rfl, by decide +kernel, rfl, by decide +kernel, by decide +kernel⟩
abbrev s_is_nameT : Stmt := topS 18
abbrev M_is_nameT : List Str := ["thing", "sign"]
theorem sc_is_nameT : FnScope M_is_nameT ["thing"] (defScope s_is_nameT) := ⟨rfl, rfl, rfl, by decide +kernel, rfl, by decide +kernel, by decide +kernel⟩
abbrev s_need_namesT : Stmt := topS 32
abbrev M_need_namesT : List Str := ["names", "told", "found", "name"]
theorem sc_need_namesT : FnScope M_need_namesT ["names", "told"] (defScope s_need_namesT) := ⟨rfl, rfl, rfl, by decide +kernel, rfl, by decide +kernel, by decide +kernel⟩
abbrev s_things_ofT : Stmt := topS 26
abbrev M_things_ofT : List Str := ["word"]
theorem sc_things_ofT : FnScope M_things_ofT ["word"] (defScope s_things_ofT) := ⟨rfl, rfl, rfl, by decide +kernel, rfl, by decide +kernel, by decide +kernel⟩
abbrev s_blocks_ofT : Stmt := topS 28
abbrev M_blocks_ofT : List Str := ["row"]
theorem sc_blocks_ofT : FnScope M_blocks_ofT ["row"] (defScope s_blocks_ofT) := ⟨rfl, rfl, rfl, by decide +kernel, rfl, by decide +kernel, by decide +kernel⟩
abbrev s_need_formT : Stmt := topS 29
abbrev M_need_formT : List Str := ["row", "block"]
theorem sc_need_formT : FnScope M_need_formT ["row"] (defScope s_need_formT) := ⟨rfl, rfl, rfl, by decide +kernel, rfl, by decide +kernel, by decide +kernel⟩
abbrev s_is_wholeT : Stmt := topS 16
abbrev M_is_wholeT : List Str := ["thing"]
theorem sc_is_wholeT : FnScope M_is_wholeT ["thing"] (defScope s_is_wholeT) := ⟨rfl, rfl, rfl, by decide +kernel, rfl, by decide +kernel, by decide +kernel⟩
abbrev s_is_numberT : Stmt := topS 17
abbrev M_is_numberT : List Str := ["thing"]
theorem sc_is_numberT : FnScope M_is_numberT ["thing"] (defScope s_is_numberT) := ⟨rfl, rfl, rfl, by decide +kernel, rfl, by decide +kernel, by decide +kernel⟩
abbrev s_is_endT : Stmt := topS 19
abbrev M_is_endT : List Str := ["thing"]
theorem sc_is_endT : FnScope M_is_endT ["thing"] (defScope s_is_endT) := ⟨rfl, rfl, rfl, by decide +kernel, rfl, by decide +kernel, by decide +kernel⟩
abbrev s_need_formulaT : Stmt := topS 20
abbrev M_need_formulaT : List Str := ["thing", "left"]
theorem sc_need_formulaT : FnScope M_need_formulaT ["thing", "left"] (defScope s_need_formulaT) := ⟨rfl, rfl, rfl, by decide +kernel, rfl, by decide +kernel, by decide +kernel⟩
abbrev s_formula_ofT : Stmt := topS 27
abbrev M_formula_ofT : List Str := ["row"]
theorem sc_formula_ofT : FnScope M_formula_ofT ["row"] (defScope s_formula_ofT) := ⟨rfl, rfl, rfl, by decide +kernel, rfl, by decide +kernel, by decide +kernel⟩
abbrev s_need_rowT : Stmt := topS 30
abbrev M_need_rowT : List Str := ["row", "deep", "blocks", "block"]
theorem sc_need_rowT : FnScope M_need_rowT ["row", "deep"] (defScope s_need_rowT) := ⟨rfl, rfl, rfl, by decide +kernel, rfl, by decide +kernel, by decide +kernel⟩
abbrev s_need_blockT : Stmt := topS 31
abbrev M_need_blockT : List Str := ["block", "deep", "row"]
theorem sc_need_blockT : FnScope M_need_blockT ["block", "deep"] (defScope s_need_blockT) := ⟨rfl, rfl, rfl, by decide +kernel, rfl, by decide +kernel, by decide +kernel⟩
abbrev s_Program___init__T : Stmt := memS (topS 36) 0
abbrev M_Program___init__T : List Str := ["self", "opens", "secrets", "block"]
theorem sc_Program___init__T : FnScope M_Program___init__T ["self", "opens", "secrets", "block"] (defScope s_Program___init__T) := ⟨rfl, rfl, rfl, by decide +kernel, rfl, by decide +kernel, by decide +kernel⟩
abbrev s_law_alone : Stmt := topS 51
abbrev M_law_alone : List Str := ["_law_e", "_law_told"]
theorem sc_law_alone : FnScope M_law_alone ["_law_e"] (defScope s_law_alone) := ⟨rfl, rfl, rfl, by decide +kernel, rfl, by decide +kernel, by decide +kernel⟩
abbrev s_law_refusedT : Stmt := topS 61
abbrev M_law_refusedT : List Str := ["_law_opens", "_law_secrets", "_law_block", "_law_e", "_law_told"]
theorem sc_law_refusedT : FnScope M_law_refusedT ["_law_opens", "_law_secrets", "_law_block"] (defScope s_law_refusedT) := ⟨rfl, rfl, rfl, by decide +kernel, rfl, by decide +kernel, by decide +kernel⟩
abbrev s_law_wrong_rowT : Stmt := topS 60
abbrev M_law_wrong_rowT : List Str := ["_law_names_here", "_law_cell", "_law_some"]
theorem sc_law_wrong_rowT : FnScope M_law_wrong_rowT ["_law_names_here", "_law_cell"] (defScope s_law_wrong_rowT) := ⟨rfl, rfl, rfl, by decide +kernel, rfl, by decide +kernel, by decide +kernel⟩
abbrev s_law_chainT : Stmt := topS 58
abbrev M_law_chainT : List Str := ["_law_name", "_law_many_here", "_law_found", "_law_k"]
theorem sc_law_chainT : FnScope M_law_chainT ["_law_name", "_law_many_here"] (defScope s_law_chainT) := ⟨rfl, rfl, rfl, by decide +kernel, rfl, by decide +kernel, by decide +kernel⟩
abbrev s_law_nestedT : Stmt := topS 59
abbrev M_law_nestedT : List Str := ["_law_many_here", "_law_found", "_law_k"]
theorem sc_law_nestedT : FnScope M_law_nestedT ["_law_many_here"] (defScope s_law_nestedT) := ⟨rfl, rfl, rfl, by decide +kernel, rfl, by decide +kernel, by decide +kernel⟩
abbrev s_law_twoT : Stmt := topS 62
abbrev M_law_twoT : List Str := ["_law_cell", "_law_deep", "_law_some", "_law_end", "_law_k", "_law_found", "_law_row"]
theorem sc_law_twoT : FnScope M_law_twoT ["_law_cell"] (defScope s_law_twoT) := ⟨rfl, rfl, rfl, by decide +kernel, rfl, by decide +kernel, by decide +kernel⟩
abbrev s_law_wrongT : Stmt := topS 63
abbrev M_law_wrongT : List Str := ["_law_names_here", "_law_block", "_law_cell", "_law_rows", "_law_at", "_law_more", "_law_wrong_here", "_law_pairs", "_law_found"]
theorem sc_law_wrongT : FnScope M_law_wrongT ["_law_names_here", "_law_block", "_law_cell"] (defScope s_law_wrongT) := ⟨rfl, rfl, rfl, by decide +kernel, rfl, by decide +kernel, by decide +kernel⟩
abbrev s_law_handedT : Stmt := topS 52
abbrev M_law_handedT : List Str := ["_law_block", "_law_way", "_law_rows", "_law_row"]
theorem sc_law_handedT : FnScope M_law_handedT ["_law_block", "_law_way"] (defScope s_law_handedT) := ⟨rfl, rfl, rfl, by decide +kernel, rfl, by decide +kernel, by decide +kernel⟩
abbrev s_law_blocksT : Stmt := topS 55
abbrev M_law_blocksT : List Str := ["_law_row"]
theorem sc_law_blocksT : FnScope M_law_blocksT ["_law_row"] (defScope s_law_blocksT) := ⟨rfl, rfl, rfl, by decide +kernel, rfl, by decide +kernel, by decide +kernel⟩
abbrev s_law_block_namesT : Stmt := topS 56
abbrev M_law_block_namesT : List Str := ["_law_block", "_law_found", "_law_row", "_law_inner"]
theorem sc_law_block_namesT : FnScope M_law_block_namesT ["_law_block"] (defScope s_law_block_namesT) := ⟨rfl, rfl, rfl, by decide +kernel, rfl, by decide +kernel, by decide +kernel⟩
abbrev s_all_names : Stmt := topS 21
abbrev M_all_names : List Str := ["formula"]
theorem sc_all_names : FnScope M_all_names ["formula"] (defScope s_all_names) := ⟨rfl, rfl, rfl, by decide +kernel, rfl, by decide +kernel, by decide +kernel⟩
abbrev s_names_in : Stmt := topS 22
abbrev M_names_in : List Str := ["formula"]
theorem sc_names_in : FnScope M_names_in ["formula"] (defScope s_names_in) := ⟨rfl, rfl, rfl, by decide +kernel, rfl, by decide +kernel, by decide +kernel⟩
abbrev s_all_in : Stmt := topS 35
abbrev M_all_in : List Str := ["block", "found", "row", "inner"]
theorem sc_all_in : FnScope M_all_in ["block"] (defScope s_all_in) := ⟨rfl, rfl, rfl, by decide +kernel, rfl, by decide +kernel, by decide +kernel⟩
abbrev s_Program_names : Stmt := memS (topS 36) 1
abbrev M_Program_names : List Str := ["self"]
theorem sc_Program_names : FnScope M_Program_names ["self"] (defScope s_Program_names) := ⟨rfl, rfl, rfl, by decide +kernel, rfl, by decide +kernel, by decide +kernel⟩
abbrev s_Program_told : Stmt := memS (topS 36) 3
abbrev M_Program_told : List Str := ["self"]
theorem sc_Program_told : FnScope M_Program_told ["self"] (defScope s_Program_told) := ⟨rfl, rfl, rfl, by decide +kernel, rfl, by decide +kernel, by decide +kernel⟩
abbrev s_Program_block : Stmt := memS (topS 36) 4
abbrev M_Program_block : List Str := ["self"]
theorem sc_Program_block : FnScope M_Program_block ["self"] (defScope s_Program_block) := ⟨rfl, rfl, rfl, by decide +kernel, rfl, by decide +kernel, by decide +kernel⟩
abbrev s_size_of : Stmt := topS 33
abbrev M_size_of : List Str := ["row", "block"]
theorem sc_size_of : FnScope M_size_of ["row"] (defScope s_size_of) := ⟨rfl, rfl, rfl, by decide +kernel, rfl, by decide +kernel, by decide +kernel⟩
abbrev s_many_in : Stmt := topS 34
abbrev M_many_in : List Str := ["block", "row"]
theorem sc_many_in : FnScope M_many_in ["block"] (defScope s_many_in) := ⟨rfl, rfl, rfl, by decide +kernel, rfl, by decide +kernel, by decide +kernel⟩
abbrev s_Program_many : Stmt := memS (topS 36) 5
abbrev M_Program_many : List Str := ["self"]
theorem sc_Program_many : FnScope M_Program_many ["self"] (defScope s_Program_many) := ⟨rfl, rfl, rfl, by decide +kernel, rfl, by decide +kernel, by decide +kernel⟩
abbrev s_Program_kind : Stmt := memS (topS 36) 2
abbrev M_Program_kind : List Str := ["self", "name"]
theorem sc_Program_kind : FnScope M_Program_kind ["self", "name"] (defScope s_Program_kind) := ⟨rfl, rfl, rfl, by decide +kernel, rfl, by decide +kernel, by decide +kernel⟩
abbrev s_law_whole : Stmt := topS 38
abbrev M_law_whole : List Str := ["_law_found"]
theorem sc_law_whole : FnScope M_law_whole ["_law_found"] (defScope s_law_whole) := ⟨rfl, rfl, rfl, by decide +kernel, rfl, by decide +kernel, by decide +kernel⟩
abbrev s_law_manyT : Stmt := topS 54
abbrev M_law_manyT : List Str := ["_law_block", "_law_row", "_law_inner"]
theorem sc_law_manyT : FnScope M_law_manyT ["_law_block"] (defScope s_law_manyT) := ⟨rfl, rfl, rfl, by decide +kernel, rfl, by decide +kernel, by decide +kernel⟩
abbrev s_law_askedT : Stmt := topS 57
abbrev M_law_askedT : List Str := ["_law_program", "_law_names_here", "_law_pairs", "_law_block", "_law_way", "_law_due", "_law_told", "_law_k", "_law_at", "_law_name", "_law_kept", "_law_row", "_law_known"]
theorem sc_law_askedT : FnScope M_law_askedT ["_law_program", "_law_names_here", "_law_pairs", "_law_block", "_law_way"] (defScope s_law_askedT) := ⟨rfl, rfl, rfl, by decide +kernel, rfl, by decide +kernel, by decide +kernel⟩
abbrev s_law_changedT : Stmt := topS 53
abbrev M_law_changedT : List Str := ["_law_block", "_law_row", "_law_inner"]
theorem sc_law_changedT : FnScope M_law_changedT ["_law_block"] (defScope s_law_changedT) := ⟨rfl, rfl, rfl, by decide +kernel, rfl, by decide +kernel, by decide +kernel⟩
abbrev s_k05 : Stmt := topS 64
abbrev M_k05 : List Str := ["_law_script", "_law_names_here", "_law_block", "_law_cell", "_law_more", "_law_handed_here", "_law_pairs", "_law_some", "_law_k", "_law_j", "_law_name", "_law_opens", "_law_secrets", "_law_program"]
theorem sc_k05 : FnScope M_k05 ["_law_script"] (defScope s_k05) := ⟨rfl, rfl, rfl, by decide +kernel, rfl, by decide +kernel, by decide +kernel⟩
structure Top (K : PySem.W.Frag) (mg : Str → Option Value) : Prop where
  f_law_mixed : DefAt K mg "_law_mixed" s_law_mixed ["_law_number"]
  f_law_name_by : DefAt K mg "_law_name_by" s_law_name_by ["_law_cell"]
  f_law_twin : DefAt K mg "_law_twin" s_law_twin ["_law_name", "_law_cell"]
  f_law_names : DefAt K mg "_law_names" s_law_names ["_law_one", "_law_other"]
  f_law_cell_at : DefAt K mg "_law_cell_at" s_law_cell_at ["_law_script", "_law_k"]
  f_law_end_by : DefAt K mg "_law_end_by" s_law_end_by ["_law_number", "_law_names_here"]
  f_law_formula_by : DefAt K mg "_law_formula_by" s_law_formula_by ["_law_number", "_law_names_here", "_law_low", "_law_divide", "_law_left"]
  f_law_all_names : DefAt K mg "_law_all_names" s_law_all_names ["_law_formula"]
  f_law_row_by : DefAt K mg "_law_row_by" s_law_row_by ["_law_names_here", "_law_more", "_law_dark", "_law_mode"]
  f_law_closed : DefAt K mg "_law_closed" s_law_closed ["_law_stack"]
  f_law_put : DefAt K mg "_law_put" s_law_put ["_law_stack", "_law_names_here", "_law_more", "_law_mode"]
  f_law_block_by : DefAt K mg "_law_block_by" s_law_block_by ["_law_cells", "_law_names_here", "_law_loose"]
  f_is_listT : DefAt K mg "is_list" s_is_listT ["thing"]
  f_is_nameT : DefAt K mg "is_name" s_is_nameT ["thing"]
  f_need_namesT : DefAt K mg "need_names" s_need_namesT ["names", "told"]
  f_things_ofT : DefAt K mg "things_of" s_things_ofT ["word"]
  f_blocks_ofT : DefAt K mg "blocks_of" s_blocks_ofT ["row"]
  f_need_formT : DefAt K mg "need_form" s_need_formT ["row"]
  f_is_wholeT : DefAt K mg "is_whole" s_is_wholeT ["thing"]
  f_is_numberT : DefAt K mg "is_number" s_is_numberT ["thing"]
  f_is_endT : DefAt K mg "is_end" s_is_endT ["thing"]
  f_need_formulaT : DefAt K mg "need_formula" s_need_formulaT ["thing", "left"]
  f_formula_ofT : DefAt K mg "formula_of" s_formula_ofT ["row"]
  f_need_rowT : DefAt K mg "need_row" s_need_rowT ["row", "deep"]
  f_need_blockT : DefAt K mg "need_block" s_need_blockT ["block", "deep"]
  f_law_alone : DefAt K mg "_law_alone" s_law_alone ["_law_e"]
  f_law_refusedT : DefAt K mg "_law_refused" s_law_refusedT ["_law_opens", "_law_secrets", "_law_block"]
  f_law_wrong_rowT : DefAt K mg "_law_wrong_row" s_law_wrong_rowT ["_law_names_here", "_law_cell"]
  f_law_chainT : DefAt K mg "_law_chain" s_law_chainT ["_law_name", "_law_many_here"]
  f_law_nestedT : DefAt K mg "_law_nested" s_law_nestedT ["_law_many_here"]
  f_law_twoT : DefAt K mg "_law_two" s_law_twoT ["_law_cell"]
  f_law_wrongT : DefAt K mg "_law_wrong" s_law_wrongT ["_law_names_here", "_law_block", "_law_cell"]
  f_law_handedT : DefAt K mg "_law_handed" s_law_handedT ["_law_block", "_law_way"]
  f_law_blocksT : DefAt K mg "_law_blocks" s_law_blocksT ["_law_row"]
  f_law_block_namesT : DefAt K mg "_law_block_names" s_law_block_namesT ["_law_block"]
  f_all_names : DefAt K mg "all_names" s_all_names ["formula"]
  f_names_in : DefAt K mg "names_in" s_names_in ["formula"]
  f_all_in : DefAt K mg "all_in" s_all_in ["block"]
  f_size_of : DefAt K mg "size_of" s_size_of ["row"]
  f_many_in : DefAt K mg "many_in" s_many_in ["block"]
  f_law_whole : DefAt K mg "_law_whole" s_law_whole ["_law_found"]
  f_law_manyT : DefAt K mg "_law_many" s_law_manyT ["_law_block"]
  f_law_askedT : DefAt K mg "_law_asked" s_law_askedT ["_law_program", "_law_names_here", "_law_pairs", "_law_block", "_law_way"]
  f_law_changedT : DefAt K mg "_law_changed" s_law_changedT ["_law_block"]
  c_Program : ∃ C, CC K "Program" as_Program C ∧ mg "Program" = some (.ref C) ∧ InitAt K C "Program.__init__" s_Program___init__T ["self", "opens", "secrets", "block"] ∧ MethAt K C "names" "Program.names" s_Program_names ["self"] ∧ MethAt K C "told" "Program.told" s_Program_told ["self"] ∧ MethAt K C "block" "Program.block" s_Program_block ["self"] ∧ MethAt K C "many" "Program.many" s_Program_many ["self"] ∧ MethAt K C "kind" "Program.kind" s_Program_kind ["self", "name"]
  z_range : mg "range" = none
  z_len : mg "len" = none
  z_int : mg "int" = none
  z_tuple : mg "tuple" = none
  z_enumerate : mg "enumerate" = none
  z_isinstance : mg "isinstance" = none
  z_list : mg "list" = none
  z_str : mg "str" = none
  z_bool : mg "bool" = none
  z_ValueError : mg "ValueError" = none
  z_sorted : mg "sorted" = none
  z_set : mg "set" = none
  z_sum : mg "sum" = none
  g_WORDS : ∃ a, mg "WORDS" = some (.ref a) ∧ ∀ H, SqT K H a (words.map V.str)
  g_LETTERS : ∃ t, mg "LETTERS" = some (.str "abcdefghijklmnopqrstuvwxyz" t)
  g_FIGURES : ∃ t, mg "FIGURES" = some (.str "0123456789" t)
  g_LIMIT : ∃ t, mg "LIMIT" = some (.int 1000000 t)
  g_SIGNS : ∃ a, mg "SIGNS" = some (.ref a) ∧ ∀ H, SqT K H a (sgs.map V.str)
  g_DEEPEST_ROW : ∃ t, mg "DEEPEST_ROW" = some (.int 8 t)
  g_MOST_DEEP : ∃ t, mg "MOST_DEEP" = some (.int 12 t)
  x_NoName : XCls K mg "NoName"
  x_Twice : XCls K mg "Twice"
  x_NoRow : XCls K mg "NoRow"
  x_TooDeep : XCls K mg "TooDeep"
  n_NoName : ∃ C, IsX K "NoName" C ∧ mg "NoName" = some (.ref C)
  n_Twice : ∃ C, IsX K "Twice" C ∧ mg "Twice" = some (.ref C)
  n_NoRow : ∃ C, IsX K "NoRow" C ∧ mg "NoRow" = some (.ref C)
  n_TooDeep : ∃ C, IsX K "TooDeep" C ∧ mg "TooDeep" = some (.ref C)
  n_NoValues : ∃ C, IsX K "NoValues" C ∧ mg "NoValues" = some (.ref C)
  n_NoTurns : ∃ C, IsX K "NoTurns" C ∧ mg "NoTurns" = some (.ref C)
  n_NoLine : ∃ C, IsX K "NoLine" C ∧ mg "NoLine" = some (.ref C)
  h_Hush : ∃ C, IsX K "HushError" C ∧ mg "HushError" = some (.ref C)
  xtop : XTop K ["NoName", "Twice", "NoRow", "TooDeep"]
section
variable {P : Program} {w : World} {K : PySem.W.Frag} {mg : Str → Option Value} {base : Heap}
theorem ok_law_mixed (T : Top K mg) : Cal P w K mg base 1 "_law_mixed" (sp_law_mixed K) := by
  exact cal_of (k := 0) T.f_law_mixed sc_law_mixed (by intro vs H Q E h; repeat (first | (obtain ⟨rfl, _⟩ := h; rfl) | (obtain ⟨_, h⟩ := h))) fun f cdv A outer s H vs Q E hr h => ⟨t_law_mixed K, PSs.nox (pss_one (ps_ret (pe_op o_mod (pe_op o_add (pe_op o_mul (pv 0) pe_int) pe_int) pe_int))), pure_law_mixed K vs H Q E h⟩
theorem ok_law_name_by (T : Top K mg) : Cal P w K mg base 2 "_law_name_by" (sp_law_name_by K) := by
  have c_law_mixed : Cal P w K mg base 1 "_law_mixed" (sp_law_mixed K) := ok_law_mixed T
  exact cal_of (k := 1) T.f_law_name_by sc_law_name_by (by intro vs H Q E h; repeat (first | (obtain ⟨rfl, _⟩ := h; rfl) | (obtain ⟨_, h⟩ := h))) fun f cdv A outer s H vs Q E hr h => ⟨t_law_name_by K, PSs.nox (pss_cons (ps_set (i := 1) sc_law_name_by.nd rfl (by first | exact Or.inl rfl | exact Or.inr rfl) (pe_ix ix_seq pe_str (pe_op o_mod (pe_op o_div (pv 0) pe_int) pe_int) (fun _ _ => rfl))) (pss_cons (ps_set (i := 2) sc_law_name_by.nd rfl (by first | exact Or.inl rfl | exact Or.inr rfl) (pv 0)) (pss_cons (ps_for PassesOwn.never rfl (pi_range1 (by rfl) T.z_range (pa_cons (pe_op o_mod (pv 0) pe_int) pa_nil)) (pg_name (i := 3) sc_law_name_by.nd rfl (by first | exact Or.inl rfl | exact Or.inr rfl)) (pss_cons (ps_set (i := 2) sc_law_name_by.nd rfl (by first | exact Or.inl rfl | exact Or.inr rfl) (pe_f c_law_mixed hr (by decide) (pa_cons (pv 2) pa_nil))) (pss_one (ps_set (i := 1) sc_law_name_by.nd rfl (by first | exact Or.inl rfl | exact Or.inr rfl) (pe_op o_add (pv 1) (pe_ix ix_seq pe_str (pe_op o_mod (pv 2) pe_int) (fun _ _ => rfl))))))) (pss_cons (ps_if (pt_cmpR o_in (pv 1) (pe_lst (pa_cons pe_str (pa_cons pe_str (pa_cons pe_str (pa_cons pe_str (pa_cons pe_str (pa_cons pe_str (pa_cons pe_str pa_nil)))))))) (by first | exact nomark _ | rfl)) (pss_one (ps_ret (pe_op o_add (pv 1) pe_str))) pss_nil) (pss_one (ps_ret (pv 1))))))), pure_law_name_by K vs H Q E h⟩
theorem ok_law_twin (T : Top K mg) : Cal P w K mg base 1 "_law_twin" (sp_law_twin K) := by
  exact cal_of (k := 0) T.f_law_twin sc_law_twin (by intro vs H Q E h; repeat (first | (obtain ⟨rfl, _⟩ := h; rfl) | (obtain ⟨_, h⟩ := h))) fun f cdv A outer s H vs Q E hr h => ⟨t_law_twin K, PSs.nox (pss_cons (ps_set (i := 2) sc_law_twin.nd rfl (by first | exact Or.inl rfl | exact Or.inr rfl) pe_str) (pss_cons (ps_set (i := 3) sc_law_twin.nd rfl (by first | exact Or.inl rfl | exact Or.inr rfl) (pe_op o_mod (pv 1) (pe_callB o_len (by rfl) T.z_len (by decide +kernel) (pa_cons (pv 0) pa_nil)))) (pss_cons (ps_if (pt_cmpR o_gt (pv 3) pe_int (by first | exact nomark _ | rfl)) (pss_one (ps_set (i := 2) sc_law_twin.nd rfl (by first | exact Or.inl rfl | exact Or.inr rfl) (pe_op o_add (pv 2) pe_str))) pss_nil) (pss_cons (ps_set (i := 4) sc_law_twin.nd rfl (by first | exact Or.inl rfl | exact Or.inr rfl) (pe_op o_add (pe_op o_add (pe_bm PySem.F.plainAttrs_str PySem.F.slot_str_find PySem.F.type_str_find mt_find (pv 2) (pa_cons (pe_ix ix_seq (pv 0) (pv 3) (fun _ _ => rfl)) pa_nil)) pe_int) (pe_op o_mod (pe_op o_div (pv 1) pe_int) (pe_op o_sub (pe_callB o_len (by rfl) T.z_len (by decide +kernel) (pa_cons (pv 2) pa_nil)) pe_int)))) (pss_cons (ps_set (i := 5) sc_law_twin.nd rfl (by first | exact Or.inl rfl | exact Or.inr rfl) (pe_op o_add (pe_op o_add (pe_slice o_sl (pv 0) po_none (po_some (pv 3))) (pe_ix ix_seq (pv 2) (pe_op o_mod (pv 4) (pe_callB o_len (by rfl) T.z_len (by decide +kernel) (pa_cons (pv 2) pa_nil))) (fun _ _ => rfl))) (pe_slice o_sl (pv 0) (po_some (pe_op o_add (pv 3) pe_int)) po_none))) (pss_cons (ps_if (pt_cmpR o_in (pv 5) (pe_lst (pa_cons pe_str (pa_cons pe_str (pa_cons pe_str (pa_cons pe_str (pa_cons pe_str (pa_cons pe_str (pa_cons pe_str pa_nil)))))))) (by first | exact nomark _ | rfl)) (pss_one (ps_ret (pe_op o_add (pv 5) pe_str))) pss_nil) (pss_one (ps_ret (pv 5))))))))), pure_law_twin K vs H Q E h⟩
theorem ok_law_names (T : Top K mg) : Cal P w K mg base 3 "_law_names" (sp_law_names K) := by
  have c_law_mixed : Cal P w K mg base 1 "_law_mixed" (sp_law_mixed K) := ok_law_mixed T
  have c_law_name_by : Cal P w K mg base 2 "_law_name_by" (sp_law_name_by K) := ok_law_name_by T
  have c_law_twin : Cal P w K mg base 1 "_law_twin" (sp_law_twin K) := ok_law_twin T
  exact cal_of (k := 2) T.f_law_names sc_law_names (by intro vs H Q E h; repeat (first | (obtain ⟨rfl, _⟩ := h; rfl) | (obtain ⟨_, h⟩ := h))) fun f cdv A outer s H vs Q E hr h => ⟨t_law_names K, PSs.nox (pss_cons (ps_set (i := 2) sc_law_names.nd rfl (by first | exact Or.inl rfl | exact Or.inr rfl) (pe_lst pa_nil)) (pss_cons (ps_for PassesOwn.never rfl (pi_range1 (by rfl) T.z_range (pa_cons pe_int pa_nil)) (pg_name (i := 3) sc_law_names.nd rfl (by first | exact Or.inl rfl | exact Or.inr rfl)) (pss_cons (ps_set (i := 0) sc_law_names.nd rfl (by first | exact Or.inl rfl | exact Or.inr rfl) (pe_f c_law_mixed hr (by decide) (pa_cons (pv 0) pa_nil))) (pss_cons (ps_set (i := 4) sc_law_names.nd rfl (by first | exact Or.inl rfl | exact Or.inr rfl) (pe_f c_law_name_by hr (by decide) (pa_cons (pe_op o_div (pv 0) pe_int) pa_nil))) (pss_cons (ps_if (PW.pt (pw_and (pt_cmpR (o_eq hr.units) (pe_op o_mod (pv 3) pe_int) pe_int (by first | exact nomark _ | rfl)) (pw_and1 (pt_cmpR (o_eq hr.units) (pe_op o_mod (pe_op o_div (pv 1) pe_int) pe_int) pe_int (by first | exact nomark _ | rfl))))) (pss_one (ps_set (i := 4) sc_law_names.nd rfl (by first | exact Or.inl rfl | exact Or.inr rfl) (pe_f c_law_twin hr (by decide) (pa_cons (pe_ix ix_seq (pv 2) (pe_op o_sub (pv 3) pe_int) (fun _ _ => rfl)) (pa_cons (pe_f c_law_mixed hr (by decide) (pa_cons (pe_op o_add (pv 1) (pv 3)) pa_nil)) pa_nil))))) pss_nil) (pss_cons (ps_while PassesOwn.never (PW.pt (pw_or (pt_cmpR o_in (pv 4) (pv 2) (by first | exact nomark _ | rfl)) (pw_or1 (pt_cmpR o_in (pv 4) (pe_lst (pa_cons pe_str (pa_cons pe_str (pa_cons pe_str (pa_cons pe_str (pa_cons pe_str (pa_cons pe_str (pa_cons pe_str pa_nil)))))))) (by first | exact nomark _ | rfl))))) (pss_cons (ps_set (i := 4) sc_law_names.nd rfl (by first | exact Or.inl rfl | exact Or.inr rfl) (pe_op o_add (pe_slice o_sl (pv 4) po_none (po_some pe_int)) (pe_ix ix_seq pe_str (pe_op o_mod (pe_op o_add (pe_op o_add (pv 1) (pe_callB o_len (by rfl) T.z_len (by decide +kernel) (pa_cons (pv 4) pa_nil))) (pv 3)) pe_int) (fun _ _ => rfl)))) (pss_one (ps_set (i := 1) sc_law_names.nd rfl (by first | exact Or.inl rfl | exact Or.inr rfl) (pe_op o_add (pv 1) pe_int))))) (pss_one (ps_expr (pe_bm PySem.F.plainAttrs_list PySem.F.slot_list_append PySem.F.type_list_append mt_append (pv 2) (pa_cons (pv 4) pa_nil))))))))) (pss_one (ps_ret (pv 2))))), pure_law_names K vs H Q E h⟩
theorem ok_law_cell_at (T : Top K mg) : Cal P w K mg base 1 "_law_cell_at" (sp_law_cell_at K) := by
  exact cal_of (k := 0) T.f_law_cell_at sc_law_cell_at (by intro vs H Q E h; repeat (first | (obtain ⟨rfl, _⟩ := h; rfl) | (obtain ⟨_, h⟩ := h))) fun f cdv A outer s H vs Q E hr h => ⟨t_law_cell_at K, PSs.nox (pss_cons (ps_if (pt_cmpR o_lt (pv 1) (pe_callB o_len (by rfl) T.z_len (by decide +kernel) (pa_cons (pv 0) pa_nil)) (by first | exact nomark _ | rfl)) (pss_one (ps_ret (pe_ix ix_seq (pv 0) (pv 1) (fun _ _ => rfl)))) pss_nil) (pss_one (ps_ret pe_int))), pure_law_cell_at K vs H Q E h⟩
theorem ok_law_end_by (T : Top K mg) : Cal P w K mg base 1 "_law_end_by" (sp_law_end_by K) := by
  exact cal_of (k := 0) T.f_law_end_by sc_law_end_by (by intro vs H Q E h; repeat (first | (obtain ⟨rfl, _⟩ := h; rfl) | (obtain ⟨_, h⟩ := h))) fun f cdv A outer s H vs Q E hr h => ⟨t_law_end_by K, PSs.nox (pss_cons (ps_if (PW.pt (pw_and (pt_cmpR (o_ne hr.units) (pv 1) (pe_lst pa_nil) (by first | exact nomark _ | rfl)) (pw_and1 (pt_cmpR o_gt (pe_op o_mod (pv 0) pe_int) pe_int (by first | exact nomark _ | rfl))))) (pss_one (ps_ret (pe_tup (pa_cons pe_str (pa_cons (pe_ix ix_seq (pv 1) (pe_op o_mod (pe_op o_div (pv 0) pe_int) (pe_callB o_len (by rfl) T.z_len (by decide +kernel) (pa_cons (pv 1) pa_nil))) (fun _ _ => rfl)) pa_nil))))) pss_nil) (pss_cons (ps_if (pt_cmpR (o_eq hr.units) (pe_op o_mod (pe_op o_div (pv 0) pe_int) pe_int) pe_int (by first | exact nomark _ | rfl)) (pss_one (ps_ret (pe_tup (pa_cons pe_str (pa_cons (pe_op o_mod (pe_op o_div (pv 0) pe_int) (pe_op o_pow pe_int pe_int)) pa_nil))))) pss_nil) (pss_one (ps_ret (pe_tup (pa_cons pe_str (pa_cons (pe_op o_mod (pe_op o_div (pv 0) pe_int) pe_int) pa_nil))))))), pure_law_end_by K vs H Q E h⟩
theorem ok_law_formula_by (T : Top K mg) : ∀ n : Nat, Cal P w K mg base (1 + n) "_law_formula_by" (sp_law_formula_by K n)
  | 0 => cal_none T.f_law_formula_by no_law_formula_by
  | n + 1 => by
    have c_law_formula_by : Cal P w K mg base (1 + n) "_law_formula_by" (sp_law_formula_by K n) := ok_law_formula_by T n
    have c_law_mixed : Cal P w K mg base 1 "_law_mixed" (sp_law_mixed K) := ok_law_mixed T
    have c_law_end_by : Cal P w K mg base 1 "_law_end_by" (sp_law_end_by K) := ok_law_end_by T
    exact cal_of (k := 1 + n) T.f_law_formula_by sc_law_formula_by (by intro vs H Q E h; repeat (first | (obtain ⟨rfl, _⟩ := h; rfl) | (obtain ⟨_, h⟩ := h))) fun f cdv A outer s H vs Q E hr h => ⟨t_law_formula_by K n, PSs.nox (pss_cons (ps_set (i := 0) sc_law_formula_by.nd rfl (by first | exact Or.inl rfl | exact Or.inr rfl) (pe_f c_law_mixed hr (by omega) (pa_cons (pv 0) pa_nil))) (pss_cons (ps_if (PW.pt (pw_or (pt_cmpR (o_eq hr.units) (pv 4) pe_int (by first | exact nomark _ | rfl)) (pw_or1 (pt_cmpR o_lt (pe_op o_mod (pv 0) pe_int) pe_int (by first | exact nomark _ | rfl))))) (pss_one (ps_ret (pe_f c_law_end_by hr (by omega) (pa_cons (pe_op o_div (pv 0) pe_int) (pa_cons (pv 1) pa_nil))))) pss_nil) (pss_cons (ps_set (i := 5) sc_law_formula_by.nd rfl (by first | exact Or.inl rfl | exact Or.inr rfl) (pe_ix ix_seq (pe_lst (pa_cons pe_str (pa_cons pe_str (pa_cons pe_str (pa_cons pe_str (pa_cons pe_str (pa_cons pe_str (pa_cons pe_str (pa_cons pe_str (pa_cons pe_str (pa_cons pe_str pa_nil))))))))))) (pe_op o_mod (pe_op o_div (pv 0) pe_int) (pe_ix ix_seq (pe_lst (pa_cons pe_int (pa_cons pe_int pa_nil))) (pe_callTy o_int (by rfl) T.z_int (by decide +kernel) (pa_cons (pv 3) pa_nil)) (fun _ _ => rfl))) (fun _ _ => rfl))) (pss_cons (ps_set (i := 6) sc_law_formula_by.nd rfl (by first | exact Or.inl rfl | exact Or.inr rfl) (pe_f c_law_formula_by hr (by omega) (pa_cons (pe_op o_add (pe_op o_mul (pv 0) pe_int) pe_int) (pa_cons (pv 1) (pa_cons (pv 2) (pa_cons (pv 3) (pa_cons (pe_op o_sub (pv 4) pe_int) pa_nil))))))) (pss_cons (ps_if (PW.pt (pw_and (pt_cmpR (o_eq hr.units) (pv 5) pe_str (by first | exact nomark _ | rfl)) (pw_and1 (pt_cmpR o_lt (pe_op o_mod (pe_op o_div (pv 0) pe_int) pe_int) pe_int (by first | exact nomark _ | rfl))))) (pss_one (ps_ret (pe_tup (pa_cons (pv 5) (pa_cons (pv 6) (pa_cons (pe_tup (pa_cons pe_str (pa_cons (pe_op o_add pe_int (pe_op o_mod (pe_op o_div (pv 0) pe_int) pe_int)) pa_nil))) pa_nil)))))) pss_nil) (pss_cons (ps_if (pt_cmpR (o_eq hr.units) (pv 5) pe_str (by first | exact nomark _ | rfl)) (pss_one (ps_ret (pe_tup (pa_cons (pv 5) (pa_cons (pv 6) (pa_cons (pe_f c_law_formula_by hr (by omega) (pa_cons (pe_op o_add (pe_op o_mul (pv 0) pe_int) pe_int) (pa_cons (pv 2) (pa_cons (pv 2) (pa_cons (pv 3) (pa_cons (pe_op o_sub (pv 4) pe_int) pa_nil)))))) pa_nil)))))) pss_nil) (pss_one (ps_ret (pe_tup (pa_cons (pv 5) (pa_cons (pv 6) (pa_cons (pe_f c_law_formula_by hr (by omega) (pa_cons (pe_op o_add (pe_op o_mul (pv 0) pe_int) pe_int) (pa_cons (pv 1) (pa_cons (pv 2) (pa_cons (pv 3) (pa_cons (pe_op o_sub (pv 4) pe_int) pa_nil)))))) pa_nil)))))))))))), pure_law_formula_by K n vs H Q E h⟩
theorem ok_law_all_names (T : Top K mg) : ∀ n : Nat, Cal P w K mg base (0 + n) "_law_all_names" (sp_law_all_names K n)
  | 0 => cal_none T.f_law_all_names no_law_all_names
  | n + 1 => by
    have c_law_all_names : Cal P w K mg base (0 + n) "_law_all_names" (sp_law_all_names K n) := ok_law_all_names T n
    exact cal_of (k := 0 + n) T.f_law_all_names sc_law_all_names (by intro vs H Q E h; repeat (first | (obtain ⟨rfl, _⟩ := h; rfl) | (obtain ⟨_, h⟩ := h))) fun f cdv A outer s H vs Q E hr h => ⟨t_law_all_names K n, PSs.nox (pss_cons (ps_if (pt_cmpR (o_eq hr.units) (pe_ix ix_seq (pv 0) pe_int (fun _ _ => rfl)) pe_str (by first | exact nomark _ | rfl)) (pss_one (ps_ret (pe_lst pa_nil))) pss_nil) (pss_cons (ps_if (pt_cmpR (o_eq hr.units) (pe_ix ix_seq (pv 0) pe_int (fun _ _ => rfl)) pe_str (by first | exact nomark _ | rfl)) (pss_one (ps_ret (pe_lst (pa_cons (pe_ix ix_seq (pv 0) pe_int (fun _ _ => rfl)) pa_nil)))) pss_nil) (pss_one (ps_ret (pe_op o_add (pe_f c_law_all_names hr (by omega) (pa_cons (pe_ix ix_seq (pv 0) pe_int (fun _ _ => rfl)) pa_nil)) (pe_f c_law_all_names hr (by omega) (pa_cons (pe_ix ix_seq (pv 0) pe_int (fun _ _ => rfl)) pa_nil))))))), pure_law_all_names K n vs H Q E h⟩
theorem ok_law_row_by (T : Top K mg) : Cal P w K mg base 19 "_law_row_by" (sp_law_row_by K) := by
  have c_law_formula_by : Cal P w K mg base 7 "_law_formula_by" (sp_law_formula_by K 6) := ok_law_formula_by T 6
  have c_law_all_names : Cal P w K mg base 18 "_law_all_names" (sp_law_all_names K 18) := ok_law_all_names T 18
  exact cal_of (k := 18) T.f_law_row_by sc_law_row_by (by intro vs H Q E h; repeat (first | (obtain ⟨rfl, _⟩ := h; rfl) | (obtain ⟨_, h⟩ := h))) fun f cdv A outer s H vs Q E hr h => ⟨t_law_row_by K, PSs.nox (pss_cons (ps_set (i := 4) sc_law_row_by.nd rfl (by first | exact Or.inl rfl | exact Or.inr rfl) (pe_slice o_sl (pv 0) po_none (po_some pe_int))) (pss_cons (ps_set (i := 5) sc_law_row_by.nd rfl (by first | exact Or.inl rfl | exact Or.inr rfl) (pv 0)) (pss_cons (ps_if (PW.pt (pw_or (PW.pt (pw_and (pt_cmpR (o_eq hr.units) (pv 3) pe_int (by first | exact nomark _ | rfl)) (pw_and1 (pt_cmpR (o_eq hr.units) (pe_op o_mod (pe_op o_div (pv 1) pe_int) pe_int) pe_int (by first | exact nomark _ | rfl))))) (pw_or1 (PW.pt (pw_and (pt_cmpR (o_eq hr.units) (pv 3) pe_int (by first | exact nomark _ | rfl)) (pw_and (pt_val (pv 2)) (pw_and1 (pt_cmpR o_gt (pe_op o_mod (pe_op o_div (pv 1) pe_int) pe_int) pe_int (by first | exact nomark _ | rfl))))))))) (pss_one (ps_set (i := 5) sc_law_row_by.nd rfl (by first | exact Or.inl rfl | exact Or.inr rfl) (pv 4))) (pss_one (ps_if (pt_cmpR (o_eq hr.units) (pv 3) pe_int (by first | exact nomark _ | rfl)) (pss_one (ps_set (i := 5) sc_law_row_by.nd rfl (by first | exact Or.inl rfl | exact Or.inr rfl) (pe_slice o_sl (pv 0) (po_some pe_int) po_none))) pss_nil))) (pss_cons (ps_if (pt_cmpR o_gt (pv 3) pe_int (by first | exact nomark _ | rfl)) (pss_one (ps_set (i := 4) sc_law_row_by.nd rfl (by first | exact Or.inl rfl | exact Or.inr rfl) (pv 5))) pss_nil) (pss_cons (ps_set (i := 6) sc_law_row_by.nd rfl (by first | exact Or.inl rfl | exact Or.inr rfl) (pe_f c_law_formula_by hr (by decide) (pa_cons (pv 1) (pa_cons (pv 5) (pa_cons (pv 4) (pa_cons (pe_or (pe_cmpR o_gt (pv 3) pe_int (by first | exact nomark _ | rfl)) (pe_one (pe_not (pv 2)))) (pa_cons (pe_op o_add pe_int (pe_op o_mod (pe_op o_div (pv 1) pe_int) pe_int)) pa_nil))))))) (pss_one (ps_ret (pe_tup (pa_cons (pv 6) (pa_cons (pe_cmpR (o_ne hr.units) (pe_lc (own := [("_law_name", 7)]) (g := (gName 7)) (tt := (tTest (tOp (rIn2 K false) (tVar 7) (tSl (rSl K) (tVar 0) (tPart (tC (.int 5))) tNoPart)))) rfl sc_law_row_by.nd (pi_seq (pe_f c_law_all_names hr (by decide) (pa_cons (pv 6) pa_nil))) (blkOk_by (own := [("_law_name", 7)]) (N := M_law_row_by) (sc := defScope s_law_row_by) (by decide +kernel)) (fun _ _ _ _ _ => (pg_name (i := 7) sc_law_row_by.nd rfl (by first | exact Or.inl rfl | exact Or.inr rfl))) (fun _ _ _ _ _ => (pts_one (pt_cmpR o_in (pv 7) (pe_slice o_sl (pv 0) (po_some pe_int) po_none) (by first | exact nomark _ | rfl)))) (fun _ _ _ _ _ => (pv 7))) (pe_lst pa_nil) (by first | exact nomark _ | rfl)) pa_nil)))))))))), pure_law_row_by K vs H Q E h⟩
theorem ok_law_closed (T : Top K mg) : Cal P w K mg base 1 "_law_closed" (sp_law_closed K) := by
  exact cal_of (k := 0) T.f_law_closed sc_law_closed (by intro vs H Q E h; repeat (first | (obtain ⟨rfl, _⟩ := h; rfl) | (obtain ⟨_, h⟩ := h))) fun f cdv A outer s H vs Q E hr h => ⟨t_law_closed K, PSs.nox (pss_cons (ps_set (i := 1) sc_law_closed.nd rfl (by first | exact Or.inl rfl | exact Or.inr rfl) (pe_bm0 PySem.F.plainAttrs_list PySem.F.slot_list_pop PySem.F.type_list_pop mt_pop (pv 0))) (pss_one (ps_if (pt_cmpR (o_eq hr.units) (pe_ix ix_seq (pv 1) pe_int (fun _ _ => rfl)) pe_str (by first | exact nomark _ | rfl)) (pss_cons (ps_if (PW.pt (pw_and (pt_cmpR (o_eq hr.units) (pe_ix ix_seq (pe_ix ix_seq (pv 1) pe_int (fun _ _ => rfl)) pe_int (fun _ _ => rfl)) pe_str (by first | exact nomark _ | rfl)) (pw_and1 (pt_cmpR (o_eq hr.units) (pe_ix ix_seq (pe_ix ix_seq (pe_ix ix_seq (pv 1) pe_int (fun _ _ => rfl)) pe_int (fun _ _ => rfl)) pe_int (fun _ _ => rfl)) pe_str (by first | exact nomark _ | rfl))))) (pss_one (ps_expr (pe_bm PySem.F.plainAttrs_list PySem.F.slot_list_append PySem.F.type_list_append mt_append (pe_ix ix_seq (pv 1) pe_int (fun _ _ => rfl)) (pa_cons (pe_tup (pa_cons pe_str (pa_cons (pe_ix ix_seq (pe_ix ix_seq (pe_ix ix_seq (pv 1) pe_int (fun _ _ => rfl)) pe_int (fun _ _ => rfl)) pe_int (fun _ _ => rfl)) (pa_cons (pe_tup (pa_cons pe_str (pa_cons (pe_ix ix_seq (pe_ix ix_seq (pv 1) pe_int (fun _ _ => rfl)) pe_int (fun _ _ => rfl)) (pa_cons (pe_tup (pa_cons pe_str (pa_cons pe_int pa_nil))) pa_nil)))) pa_nil)))) pa_nil)))) pss_nil) (pss_one (ps_expr (pe_bm PySem.F.plainAttrs_list PySem.F.slot_list_append PySem.F.type_list_append mt_append (pe_ix ix_seq (pe_ix ix_seq (pv 0) (pe_un o_neg pe_int) (fun _ _ => rfl)) pe_int (fun _ _ => rfl)) (pa_cons (pe_tup (pa_cons pe_str (pa_cons (pe_ix ix_seq (pv 1) pe_int (fun _ _ => rfl)) (pa_cons (pe_callTy o_tuple (by rfl) T.z_tuple (by decide +kernel) (pa_cons (pe_ix ix_seq (pv 1) pe_int (fun _ _ => rfl)) pa_nil)) pa_nil)))) pa_nil))))) (pss_one (ps_if (pt_cmpR o_isN (pe_ix ix_seq (pv 1) pe_int (fun _ _ => rfl)) pe_non (by first | exact nomark _ | rfl)) (pss_one (ps_expr (pe_bm PySem.F.plainAttrs_list PySem.F.slot_list_append PySem.F.type_list_append mt_append (pv 0) (pa_cons (pe_lst (pa_cons (pe_ix ix_seq (pv 1) pe_int (fun _ _ => rfl)) (pa_cons (pe_ix ix_seq (pv 1) pe_int (fun _ _ => rfl)) (pa_cons (pe_lst pa_nil) (pa_cons (pe_ix ix_seq (pv 1) pe_int (fun _ _ => rfl)) (pa_cons (pe_callTy o_tuple (by rfl) T.z_tuple (by decide +kernel) (pa_cons (pe_ix ix_seq (pv 1) pe_int (fun _ _ => rfl)) pa_nil)) pa_nil)))))) pa_nil)))) (pss_one (ps_expr (pe_bm PySem.F.plainAttrs_list PySem.F.slot_list_append PySem.F.type_list_append mt_append (pe_ix ix_seq (pe_ix ix_seq (pv 0) (pe_un o_neg pe_int) (fun _ _ => rfl)) pe_int (fun _ _ => rfl)) (pa_cons (pe_tup (pa_cons pe_str (pa_cons (pe_ix ix_seq (pv 1) pe_int (fun _ _ => rfl)) (pa_cons (pe_ix ix_seq (pv 1) pe_int (fun _ _ => rfl)) (pa_cons (pe_callTy o_tuple (by rfl) T.z_tuple (by decide +kernel) (pa_cons (pe_ix ix_seq (pv 1) pe_int (fun _ _ => rfl)) pa_nil)) pa_nil))))) pa_nil))))))))), pure_law_closed K vs H Q E h⟩
theorem ok_law_put (T : Top K mg) : Cal P w K mg base 20 "_law_put" (sp_law_put K) := by
  have c_law_row_by : Cal P w K mg base 19 "_law_row_by" (sp_law_row_by K) := ok_law_row_by T
  have c_law_closed : Cal P w K mg base 1 "_law_closed" (sp_law_closed K) := ok_law_closed T
  exact cal_of (k := 19) T.f_law_put sc_law_put (by intro vs H Q E h; repeat (first | (obtain ⟨rfl, _⟩ := h; rfl) | (obtain ⟨_, h⟩ := h))) fun f cdv A outer s H vs Q E hr h => ⟨t_law_put K, PSs.nox (pss_cons (ps_set (i := 4) sc_law_put.nd rfl (by first | exact Or.inl rfl | exact Or.inr rfl) (pe_op o_mod (pv 2) pe_int)) (pss_cons (ps_set (i := 5) sc_law_put.nd rfl (by first | exact Or.inl rfl | exact Or.inr rfl) (pe_cmpR (o_ne hr.units) (pe_lc (own := [("_law_frame", 6)]) (g := (gName 6)) (tt := (tB (tOp (rIx K) (tVar 6) (tC (.int 3))))) rfl sc_law_put.nd (pi_seq (pv 0)) (blkOk_by (own := [("_law_frame", 6)]) (N := M_law_put) (sc := defScope s_law_put) (by decide +kernel)) (fun _ _ _ _ _ => (pg_name (i := 6) sc_law_put.nd rfl (by first | exact Or.inl rfl | exact Or.inr rfl))) (fun _ _ _ _ _ => (pts_one (pt_val (pe_ix ix_seq (pv 6) pe_int (fun _ _ => rfl))))) (fun _ _ _ _ _ => (pv 6))) (pe_lst pa_nil) (by first | exact nomark _ | rfl))) (pss_cons (ps_asg (pe_f c_law_row_by hr (by decide) (pa_cons (pv 1) (pa_cons (pv 2) (pa_cons (pv 5) (pa_cons (pv 3) pa_nil))))) (pg_tup rfl (pgs_cons (pg_name (i := 7) sc_law_put.nd rfl (by first | exact Or.inl rfl | exact Or.inr rfl)) (pgs_cons (pg_name (i := 8) sc_law_put.nd rfl (by first | exact Or.inl rfl | exact Or.inr rfl)) pgs_nil)))) (pss_cons (ps_set (i := 9) sc_law_put.nd rfl (by first | exact Or.inl rfl | exact Or.inr rfl) (pe_and (pe_cmpR (o_eq hr.units) (pv 3) pe_int (by first | exact nomark _ | rfl)) (pe_one (pe_or (pv 5) (pe_one (pv 8)))))) (pss_cons (ps_if (pt_cmpR (o_eq hr.units) (pv 3) pe_int (by first | exact nomark _ | rfl)) (pss_one (ps_set (i := 4) sc_law_put.nd rfl (by first | exact Or.inl rfl | exact Or.inr rfl) (pe_ix ix_seq (pe_lst (pa_cons pe_int (pa_cons pe_int (pa_cons pe_int (pa_cons pe_int pa_nil))))) (pe_op o_mod (pe_op o_div (pv 2) pe_int) pe_int) (fun _ _ => rfl)))) pss_nil) (pss_one (ps_if (pt_cmpR o_lt (pv 4) pe_int (by first | exact nomark _ | rfl)) (pss_cons (ps_set (i := 10) sc_law_put.nd rfl (by first | exact Or.inl rfl | exact Or.inr rfl) (pe_ix ix_seq (pe_lst (pa_cons (pv 1) (pa_cons (pv 1) (pa_cons (pe_ix ix_seq (pe_lst (pa_cons (pe_slice o_sl (pv 1) po_none (po_some pe_int)) (pa_cons (pe_slice o_sl (pv 1) (po_some pe_int) po_none) pa_nil))) (pe_callTy o_int (by rfl) T.z_int (by decide +kernel) (pa_cons (pe_cmpR (o_eq hr.units) (pe_op o_mod (pe_op o_div (pv 2) pe_int) pe_int) pe_int (by first | exact nomark _ | rfl)) pa_nil)) (fun _ _ => rfl)) pa_nil)))) (pv 3) (fun _ _ => rfl))) (pss_cons (ps_if (pt_val (pv 9)) (pss_one (ps_set (i := 10) sc_law_put.nd rfl (by first | exact Or.inl rfl | exact Or.inr rfl) (pe_slice o_sl (pv 1) (po_some pe_int) po_none))) pss_nil) (pss_one (ps_expr (pe_bm PySem.F.plainAttrs_list PySem.F.slot_list_append PySem.F.type_list_append mt_append (pe_ix ix_seq (pe_ix ix_seq (pv 0) (pe_un o_neg pe_int) (fun _ _ => rfl)) pe_int (fun _ _ => rfl)) (pa_cons (pe_tup (pa_cons pe_str (pa_cons (pe_ix ix_seq (pv 10) (pe_op o_mod (pe_op o_div (pv 2) pe_int) (pe_callB o_len (by rfl) T.z_len (by decide +kernel) (pa_cons (pv 10) pa_nil))) (fun _ _ => rfl)) (pa_cons (pv 7) pa_nil)))) pa_nil)))))) (pss_one (ps_if (PW.pt (pw_and (pt_cmpR (o_eq hr.units) (pv 4) pe_int (by first | exact nomark _ | rfl)) (pw_and1 (pt_not (pt_val (pv 9)))))) (pss_one (ps_expr (pe_bm PySem.F.plainAttrs_list PySem.F.slot_list_append PySem.F.type_list_append mt_append (pe_ix ix_seq (pe_ix ix_seq (pv 0) (pe_un o_neg pe_int) (fun _ _ => rfl)) pe_int (fun _ _ => rfl)) (pa_cons (pe_tup (pa_cons pe_str (pa_cons (pv 7) pa_nil))) pa_nil)))) (pss_one (ps_if (pt_cmpR (o_eq hr.units) (pv 4) pe_int (by first | exact nomark _ | rfl)) (pss_one (ps_expr (pe_bm PySem.F.plainAttrs_list PySem.F.slot_list_append PySem.F.type_list_append mt_append (pe_ix ix_seq (pe_ix ix_seq (pv 0) (pe_un o_neg pe_int) (fun _ _ => rfl)) pe_int (fun _ _ => rfl)) (pa_cons (pe_tup (pa_cons pe_str pa_nil)) pa_nil)))) (pss_one (ps_if (PW.pt (pw_and (pt_cmpR o_lt (pv 4) pe_int (by first | exact nomark _ | rfl)) (pw_and1 (pt_cmpR o_lt (pe_callB o_len (by rfl) T.z_len (by decide +kernel) (pa_cons (pv 0) pa_nil)) pe_int (by first | exact nomark _ | rfl))))) (pss_one (ps_expr (pe_bm PySem.F.plainAttrs_list PySem.F.slot_list_append PySem.F.type_list_append mt_append (pv 0) (pa_cons (pe_lst (pa_cons pe_str (pa_cons (pv 7) (pa_cons (pe_lst pa_nil) (pa_cons (pv 8) (pa_cons pe_non pa_nil)))))) pa_nil)))) (pss_one (ps_if (PW.pt (pw_and (pt_cmpR o_lt (pv 4) pe_int (by first | exact nomark _ | rfl)) (pw_and (pt_cmpR o_lt (pe_callB o_len (by rfl) T.z_len (by decide +kernel) (pa_cons (pv 0) pa_nil)) pe_int (by first | exact nomark _ | rfl)) (pw_and1 (pt_not (pt_val (pv 9))))))) (pss_cons (ps_if (PW.pt (pw_and (pt_cmpR (o_eq hr.units) (pv 3) pe_int (by first | exact nomark _ | rfl)) (pw_and1 (pt_cmpR o_gt (pe_op o_mod (pe_op o_div (pv 2) pe_int) pe_int) pe_int (by first | exact nomark _ | rfl))))) (pss_one (ps_set (i := 7) sc_law_put.nd rfl (by first | exact Or.inl rfl | exact Or.inr rfl) (pe_tup (pa_cons pe_str (pa_cons (pe_tup (pa_cons pe_str (pa_cons (pe_ix ix_seq (pv 1) (pe_op o_mod (pe_op o_div (pv 2) pe_int) pe_int) (fun _ _ => rfl)) pa_nil))) (pa_cons (pe_tup (pa_cons pe_str (pa_cons (pe_op o_add pe_int (pe_op o_mod (pe_op o_div (pv 2) pe_int) pe_int)) pa_nil))) pa_nil)))))) pss_nil) (pss_one (ps_expr (pe_bm PySem.F.plainAttrs_list PySem.F.slot_list_append PySem.F.type_list_append mt_append (pv 0) (pa_cons (pe_lst (pa_cons pe_str (pa_cons (pv 7) (pa_cons (pe_lst pa_nil) (pa_cons (pv 8) (pa_cons pe_non pa_nil)))))) pa_nil))))) (pss_one (ps_if (pt_cmpR o_gt (pe_callB o_len (by rfl) T.z_len (by decide +kernel) (pa_cons (pv 0) pa_nil)) pe_int (by first | exact nomark _ | rfl)) (pss_one (ps_expr (pe_f c_law_closed hr (by decide) (pa_cons (pv 0) pa_nil)))) pss_nil))))))))))))))))), pure_law_put K vs H Q E h⟩
theorem ok_law_block_by (T : Top K mg) : Cal P w K mg base 21 "_law_block_by" (sp_law_block_by K) := by
  have c_law_mixed : Cal P w K mg base 1 "_law_mixed" (sp_law_mixed K) := ok_law_mixed T
  have c_law_put : Cal P w K mg base 20 "_law_put" (sp_law_put K) := ok_law_put T
  have c_law_closed : Cal P w K mg base 1 "_law_closed" (sp_law_closed K) := ok_law_closed T
  exact cal_of (k := 20) T.f_law_block_by sc_law_block_by (by intro vs H Q E h; repeat (first | (obtain ⟨rfl, _⟩ := h; rfl) | (obtain ⟨_, h⟩ := h))) fun f cdv A outer s H vs Q E hr h => ⟨t_law_block_by K, PSs.nox (pss_cons (ps_set (i := 3) sc_law_block_by.nd rfl (by first | exact Or.inl rfl | exact Or.inr rfl) (pe_lst (pa_cons (pe_lst (pa_cons pe_str (pa_cons pe_non (pa_cons (pe_lst pa_nil) (pa_cons pe_bl (pa_cons pe_non pa_nil)))))) pa_nil))) (pss_cons (ps_for PassesOwn.never rfl (pi_enum (by rfl) T.z_enumerate (pa_cons (pv 0) pa_nil)) (pg_tup rfl (pgs_cons (pg_name (i := 4) sc_law_block_by.nd rfl (by first | exact Or.inl rfl | exact Or.inr rfl)) (pgs_cons (pg_name (i := 5) sc_law_block_by.nd rfl (by first | exact Or.inl rfl | exact Or.inr rfl)) pgs_nil))) (pss_cons (ps_set (i := 6) sc_law_block_by.nd rfl (by first | exact Or.inl rfl | exact Or.inr rfl) (pe_f c_law_mixed hr (by decide) (pa_cons (pe_op o_mul (pe_f c_law_mixed hr (by decide) (pa_cons (pe_op o_add (pv 5) (pe_op o_mul pe_int (pv 4))) pa_nil)) (pe_op o_add (pv 4) pe_int)) pa_nil))) (pss_cons (ps_set (i := 7) sc_law_block_by.nd rfl (by first | exact Or.inl rfl | exact Or.inr rfl) pe_int) (pss_cons (ps_if (PW.pt (pw_and (pt_cmpR (o_eq hr.units) (pv 2) pe_int (by first | exact nomark _ | rfl)) (pw_and1 (pt_cmpR (o_eq hr.units) (pe_op o_mod (pe_op o_div (pv 6) pe_int) pe_int) pe_int (by first | exact nomark _ | rfl))))) (pss_one (ps_set (i := 7) sc_law_block_by.nd rfl (by first | exact Or.inl rfl | exact Or.inr rfl) pe_int)) pss_nil) (pss_cons (ps_if (PW.pt (pw_and (pt_cmpR o_gt (pv 2) pe_int (by first | exact nomark _ | rfl)) (pw_and1 (pt_cmpR (o_eq hr.units) (pv 4) (pe_op o_mod (pv 2) (pe_callB o_len (by rfl) T.z_len (by decide +kernel) (pa_cons (pv 0) pa_nil))) (by first | exact nomark _ | rfl))))) (pss_one (ps_set (i := 7) sc_law_block_by.nd rfl (by first | exact Or.inl rfl | exact Or.inr rfl) pe_int)) pss_nil) (pss_one (ps_expr (pe_f c_law_put hr (by decide) (pa_cons (pv 3) (pa_cons (pv 1) (pa_cons (pv 6) (pa_cons (pv 7) pa_nil)))))))))))) (pss_cons (ps_while PassesOwn.never (pt_cmpR o_gt (pe_callB o_len (by rfl) T.z_len (by decide +kernel) (pa_cons (pv 3) pa_nil)) pe_int (by first | exact nomark _ | rfl)) (pss_one (ps_expr (pe_f c_law_closed hr (by decide) (pa_cons (pv 3) pa_nil))))) (pss_one (ps_ret (pe_ix ix_seq (pe_ix ix_seq (pv 3) pe_int (fun _ _ => rfl)) pe_int (fun _ _ => rfl))))))), pure_law_block_by K vs H Q E h⟩
theorem ok_is_listT (T : Top K mg) : Cal P w K mg base 1 "is_list" (sp_is_listT K) := by
  exact cal_of (k := 0) T.f_is_listT sc_is_listT (by intro vs H Q E h; repeat (first | (obtain ⟨rfl, _⟩ := h; rfl) | (obtain ⟨_, h⟩ := h))) fun f cdv A outer s H vs Q E hr h => ⟨t_is_listT K, PSs.nox (pss_one (ps_ret (pe_callB o_isi (by rfl) T.z_isinstance (by decide +kernel) (pa_cons (pv 0) (pa_cons (pe_tup (pa_cons (pe_bltn (by rfl) T.z_list (by decide +kernel) rfl) (pa_cons (pe_bltn (by rfl) T.z_tuple (by decide +kernel) rfl) pa_nil))) pa_nil))))), pure_is_listT K vs H Q E h⟩
theorem ok_is_nameT (T : Top K mg) : Cal P w K mg base 1 "is_name" (sp_is_nameT K) := by
  exact cal_of (k := 0) T.f_is_nameT sc_is_nameT (by intro vs H Q E h; repeat (first | (obtain ⟨rfl, _⟩ := h; rfl) | (obtain ⟨_, h⟩ := h))) fun f cdv A outer s H vs Q E hr h => ⟨t_is_nameT K, PSs.nox (pss_cons (ps_if (PW.pt (pw_or (pt_not (pt_val (pe_callB o_isi (by rfl) T.z_isinstance (by decide +kernel) (pa_cons (pv 0) (pa_cons (pe_bltn (by rfl) T.z_str (by decide +kernel) rfl) pa_nil))))) (pw_or (pt_not (pt_chain o_le o_le pe_int (pe_callB o_len (by rfl) T.z_len (by decide +kernel) (pa_cons (pv 0) pa_nil)) pe_int)) (pw_or (pt_cmpR o_in (pv 0) (pe_globT (by rfl) T.g_WORDS) (by first | exact nomark _ | rfl)) (pw_or1 (pt_cmpR o_nin (pe_ix ix_seq (pv 0) pe_int (fun _ _ => rfl)) (pe_globS (by rfl) T.g_LETTERS) (by first | exact nomark _ | rfl))))))) (pss_one (ps_ret pe_bl)) pss_nil) (pss_cons (ps_for PassesOwn.never rfl (pi_str (pv 0)) (pg_name (i := 1) sc_is_nameT.nd rfl (by first | exact Or.inl rfl | exact Or.inr rfl)) (pss_one (ps_if (PW.pt (pw_and (pt_cmpR o_nin (pv 1) (pe_globS (by rfl) T.g_LETTERS) (by first | exact nomark _ | rfl)) (pw_and1 (pt_cmpR o_nin (pv 1) (pe_globS (by rfl) T.g_FIGURES) (by first | exact nomark _ | rfl))))) (pss_one (ps_ret pe_bl)) pss_nil))) (pss_one (ps_ret pe_bl)))), pure_is_nameT K vs H Q E h⟩
theorem ok_need_namesT (T : Top K mg) : CalX P w K mg base 2 "need_names" (sp_need_namesT K) := by
  have c_is_listT : Cal P w K mg base 1 "is_list" (sp_is_listT K) := ok_is_listT T
  have c_is_nameT : Cal P w K mg base 1 "is_name" (sp_is_nameT K) := ok_is_nameT T
  exact calX_of (k := 1) T.f_need_namesT sc_need_namesT (by intro vs H Q E h; repeat (first | (obtain ⟨rfl, _⟩ := h; rfl) | (obtain ⟨_, h⟩ := h))) fun f cdv A outer s H vs Q E hr h => ⟨t_need_namesT K (WD E), (pss_cons (ps_if (pt_not (pt_val (pe_f c_is_listT hr (by decide) (pa_cons (pv 0) pa_nil)))) (pss_one (ps_raiseN T.x_NoName rfl (takes_of rfl rfl rfl rfl) (by rfl))) pss_nil) (pss_cons (ps_set (i := 2) sc_need_namesT.nd rfl (by first | exact Or.inl rfl | exact Or.inr rfl) (pe_lst pa_nil)) (pss_cons (ps_for (passes_of rfl) rfl (pi_seq (pv 0)) (pg_name (i := 3) sc_need_namesT.nd rfl (by first | exact Or.inl rfl | exact Or.inr rfl)) (pss_cons (ps_if (pt_not (pt_val (pe_f c_is_nameT hr (by decide) (pa_cons (pv 3) pa_nil)))) (pss_one (ps_raiseN T.x_NoName rfl (takes_of rfl rfl rfl rfl) (by rfl))) pss_nil) (pss_cons (ps_if (PW.pt (pw_or (pt_cmpR o_in (pv 3) (pv 1) (by first | exact nomark _ | rfl)) (pw_or1 (pt_cmpR o_in (pv 3) (pv 2) (by first | exact nomark _ | rfl))))) (pss_one (ps_raiseN T.x_Twice rfl (takes_of rfl rfl rfl rfl) (by rfl))) pss_nil) (pss_one (ps_expr (pe_bm PySem.F.plainAttrs_list PySem.F.slot_list_append PySem.F.type_list_append mt_append (pv 2) (pa_cons (pv 3) pa_nil))))))) (pss_one (ps_ret (pv 2)))))), pure_need_namesT K vs H Q E h⟩
theorem ok_things_ofT (T : Top K mg) : Cal P w K mg base 1 "things_of" (sp_things_ofT K) := by
  exact cal_of (k := 0) T.f_things_ofT sc_things_ofT (by intro vs H Q E h; repeat (first | (obtain ⟨rfl, _⟩ := h; rfl) | (obtain ⟨_, h⟩ := h))) fun f cdv A outer s H vs Q E hr h => ⟨t_things_ofT K, PSs.nox (pss_cons (ps_if (pt_cmpR (o_eq hr.units) (pv 0) pe_str (by first | exact nomark _ | rfl)) (pss_one (ps_ret pe_int)) pss_nil) (pss_cons (ps_if (pt_cmpR (o_eq hr.units) (pv 0) pe_str (by first | exact nomark _ | rfl)) (pss_one (ps_ret pe_int)) pss_nil) (pss_cons (ps_if (PW.pt (pw_or (pt_cmpR (o_eq hr.units) (pv 0) pe_str (by first | exact nomark _ | rfl)) (pw_or1 (pt_cmpR (o_eq hr.units) (pv 0) pe_str (by first | exact nomark _ | rfl))))) (pss_one (ps_ret pe_int)) pss_nil) (pss_cons (ps_if (pt_cmpR (o_eq hr.units) (pv 0) pe_str (by first | exact nomark _ | rfl)) (pss_one (ps_ret pe_int)) pss_nil) (pss_one (ps_ret pe_int)))))), pure_things_ofT K vs H Q E h⟩
theorem ok_blocks_ofT (T : Top K mg) : Cal P w K mg base 1 "blocks_of" (sp_blocks_ofT K) := by
  exact cal_of (k := 0) T.f_blocks_ofT sc_blocks_ofT (by intro vs H Q E h; repeat (first | (obtain ⟨rfl, _⟩ := h; rfl) | (obtain ⟨_, h⟩ := h))) fun f cdv A outer s H vs Q E hr h => ⟨t_blocks_ofT K, PSs.nox (pss_cons (ps_if (pt_cmpR (o_eq hr.units) (pe_ix ix_seq (pv 0) pe_int (fun _ _ => rfl)) pe_str (by first | exact nomark _ | rfl)) (pss_one (ps_ret (pe_lst (pa_cons (pe_ix ix_seq (pv 0) pe_int (fun _ _ => rfl)) (pa_cons (pe_ix ix_seq (pv 0) pe_int (fun _ _ => rfl)) pa_nil))))) pss_nil) (pss_cons (ps_if (pt_cmpR (o_eq hr.units) (pe_ix ix_seq (pv 0) pe_int (fun _ _ => rfl)) pe_str (by first | exact nomark _ | rfl)) (pss_one (ps_ret (pe_lst (pa_cons (pe_ix ix_seq (pv 0) pe_int (fun _ _ => rfl)) pa_nil)))) pss_nil) (pss_one (ps_ret (pe_lst pa_nil))))), pure_blocks_ofT K vs H Q E h⟩
theorem ok_need_formT (T : Top K mg) : CalX P w K mg base 2 "need_form" (sp_need_formT K) := by
  have c_things_ofT : Cal P w K mg base 1 "things_of" (sp_things_ofT K) := ok_things_ofT T
  have c_is_nameT : Cal P w K mg base 1 "is_name" (sp_is_nameT K) := ok_is_nameT T
  have c_blocks_ofT : Cal P w K mg base 1 "blocks_of" (sp_blocks_ofT K) := ok_blocks_ofT T
  have c_is_listT : Cal P w K mg base 1 "is_list" (sp_is_listT K) := ok_is_listT T
  exact calX_of (k := 1) T.f_need_formT sc_need_formT (by intro vs H Q E h; repeat (first | (obtain ⟨rfl, _⟩ := h; rfl) | (obtain ⟨_, h⟩ := h))) fun f cdv A outer s H vs Q E hr h => ⟨t_need_formT K (WD E), (pss_cons (ps_if (PW.pt (pw_or (pt_not (pt_val (pe_callB o_isi (by rfl) T.z_isinstance (by decide +kernel) (pa_cons (pv 0) (pa_cons (pe_bltn (by rfl) T.z_tuple (by decide +kernel) rfl) pa_nil))))) (pw_or (pt_cmpR (o_eqT hr.units) (pv 0) (pe_tup pa_nil) (by first | exact nomark _ | rfl)) (pw_or1 (pt_not (pt_val (pe_callB o_isi (by rfl) T.z_isinstance (by decide +kernel) (pa_cons (pe_ix ix_seq (pv 0) pe_int (fun _ _ => rfl)) (pa_cons (pe_bltn (by rfl) T.z_str (by decide +kernel) rfl) pa_nil))))))))) (pss_one (ps_raiseN T.x_NoRow rfl (takes_of rfl rfl rfl rfl) (by rfl))) pss_nil) (pss_cons (ps_if (pt_cmpR (o_ne hr.units) (pe_f c_things_ofT hr (by decide) (pa_cons (pe_ix ix_seq (pv 0) pe_int (fun _ _ => rfl)) pa_nil)) (pe_callB o_len (by rfl) T.z_len (by decide +kernel) (pa_cons (pv 0) pa_nil)) (by first | exact nomark _ | rfl)) (pss_one (ps_raiseN T.x_NoRow rfl (takes_of rfl rfl rfl rfl) (by rfl))) pss_nil) (pss_cons (ps_if (PW.pt (pw_and (pt_cmpR (o_eq hr.units) (pe_ix ix_seq (pv 0) pe_int (fun _ _ => rfl)) pe_str (by first | exact nomark _ | rfl)) (pw_and1 (pt_not (pt_val (pe_f c_is_nameT hr (by decide) (pa_cons (pe_ix ix_seq (pv 0) pe_int (fun _ _ => rfl)) pa_nil))))))) (pss_one (ps_raiseN T.x_NoRow rfl (takes_of rfl rfl rfl rfl) (by rfl))) pss_nil) (pss_one (ps_for (passes_of rfl) rfl (pi_seq (pe_f c_blocks_ofT hr (by decide) (pa_cons (pv 0) pa_nil))) (pg_name (i := 1) sc_need_formT.nd rfl (by first | exact Or.inl rfl | exact Or.inr rfl)) (pss_one (ps_if (pt_not (pt_val (pe_f c_is_listT hr (by decide) (pa_cons (pv 1) pa_nil)))) (pss_one (ps_raiseN T.x_NoRow rfl (takes_of rfl rfl rfl rfl) (by rfl))) pss_nil))))))), pure_need_formT K vs H Q E h⟩
theorem ok_is_wholeT (T : Top K mg) : Cal P w K mg base 1 "is_whole" (sp_is_wholeT K) := by
  exact cal_of (k := 0) T.f_is_wholeT sc_is_wholeT (by intro vs H Q E h; repeat (first | (obtain ⟨rfl, _⟩ := h; rfl) | (obtain ⟨_, h⟩ := h))) fun f cdv A outer s H vs Q E hr h => ⟨t_is_wholeT K, PSs.nox (pss_one (ps_ret (pe_and (pe_callB o_isi (by rfl) T.z_isinstance (by decide +kernel) (pa_cons (pv 0) (pa_cons (pe_bltn (by rfl) T.z_int (by decide +kernel) rfl) pa_nil))) (pe_one (pe_not (pe_callB o_isi (by rfl) T.z_isinstance (by decide +kernel) (pa_cons (pv 0) (pa_cons (pe_bltn (by rfl) T.z_bool (by decide +kernel) rfl) pa_nil)))))))), pure_is_wholeT K vs H Q E h⟩
theorem ok_is_numberT (T : Top K mg) : Cal P w K mg base 2 "is_number" (sp_is_numberT K) := by
  have c_is_wholeT : Cal P w K mg base 1 "is_whole" (sp_is_wholeT K) := ok_is_wholeT T
  exact cal_of (k := 1) T.f_is_numberT sc_is_numberT (by intro vs H Q E h; repeat (first | (obtain ⟨rfl, _⟩ := h; rfl) | (obtain ⟨_, h⟩ := h))) fun f cdv A outer s H vs Q E hr h => ⟨t_is_numberT K, PSs.nox (pss_one (ps_ret (pe_and (pe_f c_is_wholeT hr (by decide) (pa_cons (pv 0) pa_nil)) (pe_one (pe_chain o_le o_lt pe_int (pv 0) (pe_globI (by rfl) T.g_LIMIT)))))), pure_is_numberT K vs H Q E h⟩
theorem ok_is_endT (T : Top K mg) : Cal P w K mg base 3 "is_end" (sp_is_endT K) := by
  have c_is_numberT : Cal P w K mg base 2 "is_number" (sp_is_numberT K) := ok_is_numberT T
  have c_is_nameT : Cal P w K mg base 1 "is_name" (sp_is_nameT K) := ok_is_nameT T
  exact cal_of (k := 2) T.f_is_endT sc_is_endT (by intro vs H Q E h; repeat (first | (obtain ⟨rfl, _⟩ := h; rfl) | (obtain ⟨_, h⟩ := h))) fun f cdv A outer s H vs Q E hr h => ⟨t_is_endT K, PSs.nox (pss_cons (ps_if (PW.pt (pw_or (pt_not (pt_val (pe_callB o_isi (by rfl) T.z_isinstance (by decide +kernel) (pa_cons (pv 0) (pa_cons (pe_bltn (by rfl) T.z_tuple (by decide +kernel) rfl) pa_nil))))) (pw_or (pt_cmpR (o_ne hr.units) (pe_callB o_len (by rfl) T.z_len (by decide +kernel) (pa_cons (pv 0) pa_nil)) pe_int (by first | exact nomark _ | rfl)) (pw_or1 (pt_not (pt_val (pe_callB o_isi (by rfl) T.z_isinstance (by decide +kernel) (pa_cons (pe_ix ix_seq (pv 0) pe_int (fun _ _ => rfl)) (pa_cons (pe_bltn (by rfl) T.z_str (by decide +kernel) rfl) pa_nil))))))))) (pss_one (ps_ret pe_bl)) pss_nil) (pss_cons (ps_if (pt_cmpR (o_eq hr.units) (pe_ix ix_seq (pv 0) pe_int (fun _ _ => rfl)) pe_str (by first | exact nomark _ | rfl)) (pss_one (ps_ret (pe_f c_is_numberT hr (by decide) (pa_cons (pe_ix ix_seq (pv 0) pe_int (fun _ _ => rfl)) pa_nil)))) pss_nil) (pss_one (ps_ret (pe_and (pe_cmpR (o_eq hr.units) (pe_ix ix_seq (pv 0) pe_int (fun _ _ => rfl)) pe_str (by first | exact nomark _ | rfl)) (pe_one (pe_f c_is_nameT hr (by decide) (pa_cons (pe_ix ix_seq (pv 0) pe_int (fun _ _ => rfl)) pa_nil)))))))), pure_is_endT K vs H Q E h⟩
theorem ok_need_formulaT (T : Top K mg) : ∀ n : Nat, CalX P w K mg base (3 + n) "need_formula" (sp_need_formulaT K n)
  | 0 => calX_none T.f_need_formulaT no_need_formulaT
  | n + 1 => by
    have c_need_formulaT : CalX P w K mg base (3 + n) "need_formula" (sp_need_formulaT K n) := ok_need_formulaT T n
    have c_is_endT : Cal P w K mg base 3 "is_end" (sp_is_endT K) := ok_is_endT T
    exact calX_of (k := 3 + n) T.f_need_formulaT sc_need_formulaT (by intro vs H Q E h; repeat (first | (obtain ⟨rfl, _⟩ := h; rfl) | (obtain ⟨_, h⟩ := h))) fun f cdv A outer s H vs Q E hr h => ⟨t_need_formulaT K n (WD E), (pss_cons (ps_if (pt_cmpR (o_eq hr.units) (pv 1) pe_int (by first | exact nomark _ | rfl)) (pss_one (ps_raiseN T.x_TooDeep rfl (takes_of rfl rfl rfl rfl) (by rfl))) pss_nil) (pss_cons (ps_if (pt_val (pe_f c_is_endT hr (by omega) (pa_cons (pv 0) pa_nil))) (pss_one ps_retN) pss_nil) (pss_cons (ps_if (PW.pt (pw_or (pt_not (pt_val (pe_callB o_isi (by rfl) T.z_isinstance (by decide +kernel) (pa_cons (pv 0) (pa_cons (pe_bltn (by rfl) T.z_tuple (by decide +kernel) rfl) pa_nil))))) (pw_or (pt_cmpR (o_ne hr.units) (pe_callB o_len (by rfl) T.z_len (by decide +kernel) (pa_cons (pv 0) pa_nil)) pe_int (by first | exact nomark _ | rfl)) (pw_or (pt_not (pt_val (pe_callB o_isi (by rfl) T.z_isinstance (by decide +kernel) (pa_cons (pe_ix ix_seq (pv 0) pe_int (fun _ _ => rfl)) (pa_cons (pe_bltn (by rfl) T.z_str (by decide +kernel) rfl) pa_nil))))) (pw_or1 (pt_cmpR o_nin (pe_ix ix_seq (pv 0) pe_int (fun _ _ => rfl)) (pe_globT (by rfl) T.g_SIGNS) (by first | exact nomark _ | rfl))))))) (pss_one (ps_raiseN T.x_NoRow rfl (takes_of rfl rfl rfl rfl) (by rfl))) pss_nil) (pss_cons (ps_expr (pe_fX c_need_formulaT hr (by omega) (takes_of rfl rfl rfl rfl) (pa_cons (pe_ix ix_seq (pv 0) pe_int (fun _ _ => rfl)) (pa_cons (pe_op o_sub (pv 1) pe_int) pa_nil)))) (pss_one (ps_expr (pe_fX c_need_formulaT hr (by omega) (takes_of rfl rfl rfl rfl) (pa_cons (pe_ix ix_seq (pv 0) pe_int (fun _ _ => rfl)) (pa_cons (pe_op o_sub (pv 1) pe_int) pa_nil))))))))), pure_need_formulaT K n vs H Q E h⟩
theorem ok_formula_ofT (T : Top K mg) : Cal P w K mg base 1 "formula_of" (sp_formula_ofT K) := by
  exact cal_of (k := 0) T.f_formula_ofT sc_formula_ofT (by intro vs H Q E h; repeat (first | (obtain ⟨rfl, _⟩ := h; rfl) | (obtain ⟨_, h⟩ := h))) fun f cdv A outer s H vs Q E hr h => ⟨t_formula_ofT K, PSs.nox (pss_cons (ps_if (pt_cmpR (o_eq hr.units) (pe_ix ix_seq (pv 0) pe_int (fun _ _ => rfl)) pe_str (by first | exact nomark _ | rfl)) (pss_one (ps_ret pe_non)) pss_nil) (pss_cons (ps_if (pt_cmpR (o_eq hr.units) (pe_ix ix_seq (pv 0) pe_int (fun _ _ => rfl)) pe_str (by first | exact nomark _ | rfl)) (pss_one (ps_ret (pe_ix ix_seq (pv 0) pe_int (fun _ _ => rfl)))) pss_nil) (pss_one (ps_ret (pe_ix ix_seq (pv 0) pe_int (fun _ _ => rfl)))))), pure_formula_ofT K vs H Q E h⟩
theorem ok_need_blockT_of (T : Top K mg) {n j : Nat} (hj : 17 ≤ j) (c_need_rowT : CalX P w K mg base j "need_row" (sp_need_rowT K n)) : CalX P w K mg base (j + 1) "need_block" (sp_need_blockT K n) := by
  have c_is_listT : Cal P w K mg base 1 "is_list" (sp_is_listT K) := ok_is_listT T
  exact calX_of (k := j) T.f_need_blockT sc_need_blockT (by intro vs H Q E h; repeat (first | (obtain ⟨rfl, _⟩ := h; rfl) | (obtain ⟨_, h⟩ := h))) fun f cdv A outer s H vs Q E hr h => ⟨t_need_blockT K n (WD E), (pss_cons (ps_if (pt_not (pt_val (pe_f c_is_listT hr (by omega) (pa_cons (pv 0) pa_nil)))) (pss_one (ps_raiseN T.x_NoRow rfl (takes_of rfl rfl rfl rfl) (by rfl))) pss_nil) (pss_one (ps_ret (pe_callTy o_tuple (by rfl) T.z_tuple (by decide +kernel) (pa_cons (pe_lcX (own := [("row", 2)]) (g := (gName 2)) (tt := tYes) rfl rfl (takes_of rfl rfl rfl rfl) rfl sc_need_blockT.nd (pi_seq (pv 0)) (blkOk_by (own := [("row", 2)]) (N := M_need_blockT) (sc := defScope s_need_blockT) (by decide +kernel)) (fun _ _ _ _ _ => (pg_name (i := 2) sc_need_blockT.nd rfl (by first | exact Or.inl rfl | exact Or.inr rfl))) (fun _ _ _ _ _ => pts_nil) (fun W _ _ _ _ _ xe ib => (pe_fXc c_need_rowT hr (by omega) ib (pa_cons (pv 2) (pa_cons (pv 1) pa_nil))))) pa_nil))))), pure_need_blockT K n vs H Q E h⟩
theorem ok_need_rowT (T : Top K mg) : ∀ n : Nat, CalX P w K mg base (17 + 2 * n) "need_row" (sp_need_rowT K n)
  | 0 => calX_none T.f_need_rowT no_need_rowT
  | n + 1 => by
    have c_need_blockT : CalX P w K mg base (17 + 2 * n + 1) "need_block" (sp_need_blockT K n) := ok_need_blockT_of T (by omega) (ok_need_rowT T n)
    have c_need_formT : CalX P w K mg base 2 "need_form" (sp_need_formT K) := ok_need_formT T
    have c_need_formulaT : CalX P w K mg base 17 "need_formula" (sp_need_formulaT K 14) := ok_need_formulaT T 14
    have c_formula_ofT : Cal P w K mg base 1 "formula_of" (sp_formula_ofT K) := ok_formula_ofT T
    have c_blocks_ofT : Cal P w K mg base 1 "blocks_of" (sp_blocks_ofT K) := ok_blocks_ofT T
    exact (calX_of (k := 17 + 2 * n + 1) T.f_need_rowT sc_need_rowT (by intro vs H Q E h; repeat (first | (obtain ⟨rfl, _⟩ := h; rfl) | (obtain ⟨_, h⟩ := h))) fun f cdv A outer s H vs Q E hr h => ⟨t_need_rowT K n (WD E), (pss_cons (ps_expr (pe_fX c_need_formT hr (by omega) (takes_of rfl rfl rfl rfl) (pa_cons (pv 0) pa_nil))) (pss_cons (ps_if (pt_cmpR o_gt (pv 1) (pe_globI (by rfl) T.g_DEEPEST_ROW) (by first | exact nomark _ | rfl)) (pss_one (ps_raiseN T.x_TooDeep rfl (takes_of rfl rfl rfl rfl) (by rfl))) pss_nil) (pss_cons (ps_if (pt_cmpR (o_ne hr.units) (pe_ix ix_seq (pv 0) pe_int (fun _ _ => rfl)) pe_str (by first | exact nomark _ | rfl)) (pss_one (ps_expr (pe_fX c_need_formulaT hr (by omega) (takes_of rfl rfl rfl rfl) (pa_cons (pe_f c_formula_ofT hr (by omega) (pa_cons (pv 0) pa_nil)) (pa_cons (pe_globI (by rfl) T.g_MOST_DEEP) pa_nil))))) pss_nil) (pss_cons (ps_setLcX (i := 2) (own := [("block", 3)]) (g := (gName 3)) (tt := tYes) rfl rfl (takes_of rfl rfl rfl rfl) rfl sc_need_rowT.nd rfl rfl (sw_true rfl rfl rfl (by decide +kernel)) (pi_seq (pe_f c_blocks_ofT hr (by omega) (pa_cons (pv 0) pa_nil))) (blkOk_by (own := [("block", 3)]) (N := M_need_rowT) (sc := defScope s_need_rowT) (by decide +kernel)) (fun _ _ _ _ _ => (pg_name (i := 3) sc_need_rowT.nd rfl (by first | exact Or.inl rfl | exact Or.inr rfl))) (fun _ _ _ _ _ => pts_nil) (fun W _ _ _ _ _ xe ib => (pe_fXc c_need_blockT hr (by omega) ib (pa_cons (pv 3) (pa_cons (pe_op o_add (pv 1) pe_int) pa_nil))))) (pss_cons (ps_if (PW.pt (pw_or (pt_cmpR (o_eq hr.units) (pe_ix ix_seq (pv 0) pe_int (fun _ _ => rfl)) pe_str (by first | exact nomark _ | rfl)) (pw_or1 (pt_cmpR (o_eq hr.units) (pe_ix ix_seq (pv 0) pe_int (fun _ _ => rfl)) pe_str (by first | exact nomark _ | rfl))))) (pss_one (ps_ret (pe_op o_add (pe_tup (pa_cons (pe_ix ix_seq (pv 0) pe_int (fun _ _ => rfl)) (pa_cons (pe_ix ix_seq (pv 0) pe_int (fun _ _ => rfl)) pa_nil))) (pe_callTy o_tuple (by rfl) T.z_tuple (by decide +kernel) (pa_cons (pv 2) pa_nil))))) pss_nil) (pss_one (ps_ret (pv 0)))))))), pure_need_rowT K n vs H Q E h⟩).mono (by omega)
theorem ok_need_blockT (T : Top K mg) (n : Nat) : CalX P w K mg base (17 + 2 * n + 1) "need_block" (sp_need_blockT K n) := ok_need_blockT_of T (by omega) (ok_need_rowT T n)
theorem ok_Program___init__T (T : Top K mg) : CalCX P w K mg base 37 "Program" as_Program (sp_Program___init__T K) := by
  obtain ⟨C, cc, hm, hi, h_names, h_told, h_block, h_many, h_kind⟩ := T.c_Program
  have c_need_namesT : CalX P w K mg base 2 "need_names" (sp_need_namesT K) := ok_need_namesT T
  have c_need_blockT : CalX P w K mg base 36 "need_block" (sp_need_blockT K 9) := ok_need_blockT T 9
  exact calCX_of (k := 36) cc hm hi sc_Program___init__T (by intro vs H Q E h; repeat (first | (obtain ⟨rfl, _⟩ := h; rfl) | (obtain ⟨_, h⟩ := h))) fun f cdv A outer s H vs Q E hr h => ⟨t_Program___init__T K (WD E), (pss_cons (ps_fld (pv 0) (pe_fX c_need_namesT hr (by decide) (takes_of rfl rfl rfl rfl) (pa_cons (pv 1) (pa_cons (pe_lst pa_nil) pa_nil))) rfl) (pss_cons (ps_fld (pv 0) (pe_fX c_need_namesT hr (by decide) (takes_of rfl rfl rfl rfl) (pa_cons (pv 2) (pa_cons (pe_fld (pv 0) rfl) pa_nil))) rfl) (pss_one (ps_fld (pv 0) (pe_fX c_need_blockT hr (by decide) (takes_of rfl rfl rfl rfl) (pa_cons (pv 3) (pa_cons pe_int pa_nil))) rfl)))), pure_Program___init__T K vs H Q E h⟩
theorem ok_law_alone (T : Top K mg) : CalE P w K mg base 1 "_law_alone" (.bl true) := by
  exact calE_of (k := 0) T.f_law_alone sc_law_alone rfl fun y D G f cdv A fr s H p Q hr hz hf h => have hu := roomH_units hr; ⟨t_law_alone K y p.1, (pss_cons (ps_set (i := 1) sc_law_alone.nd rfl (by first | exact Or.inl rfl | exact Or.inr rfl) (pe_lst (pa_cons (pe_callB (call_isX (p := p) (List.mem_singleton.mpr rfl) G hz hf) (by rfl) T.z_isinstance (by decide +kernel) (pa_cons (pv 0) (pa_cons (pe_globX (by rfl) T.n_NoName) pa_nil))) (pa_cons (pe_callB (call_isX (p := p) (List.mem_singleton.mpr rfl) G hz hf) (by rfl) T.z_isinstance (by decide +kernel) (pa_cons (pv 0) (pa_cons (pe_globX (by rfl) T.n_Twice) pa_nil))) (pa_cons (pe_callB (call_isX (p := p) (List.mem_singleton.mpr rfl) G hz hf) (by rfl) T.z_isinstance (by decide +kernel) (pa_cons (pv 0) (pa_cons (pe_globX (by rfl) T.n_NoRow) pa_nil))) (pa_cons (pe_callB (call_isX (p := p) (List.mem_singleton.mpr rfl) G hz hf) (by rfl) T.z_isinstance (by decide +kernel) (pa_cons (pv 0) (pa_cons (pe_globX (by rfl) T.n_TooDeep) pa_nil))) pa_nil)))))) (pss_cons (ps_set (i := 1) sc_law_alone.nd rfl (by first | exact Or.inl rfl | exact Or.inr rfl) (pe_op o_add (pv 1) (pe_lst (pa_cons (pe_callB (call_isX (p := p) (List.mem_singleton.mpr rfl) G hz hf) (by rfl) T.z_isinstance (by decide +kernel) (pa_cons (pv 0) (pa_cons (pe_globX (by rfl) T.n_NoValues) pa_nil))) (pa_cons (pe_callB (call_isX (p := p) (List.mem_singleton.mpr rfl) G hz hf) (by rfl) T.z_isinstance (by decide +kernel) (pa_cons (pv 0) (pa_cons (pe_globX (by rfl) T.n_NoTurns) pa_nil))) (pa_cons (pe_callB (call_isX (p := p) (List.mem_singleton.mpr rfl) G hz hf) (by rfl) T.z_isinstance (by decide +kernel) (pa_cons (pv 0) (pa_cons (pe_globX (by rfl) T.n_NoLine) pa_nil))) pa_nil)))))) (pss_one (ps_ret (pe_and (pe_callB (call_isX (p := p) (List.mem_singleton.mpr rfl) G hz hf) (by rfl) T.z_isinstance (by decide +kernel) (pa_cons (pv 0) (pa_cons (pe_bltn (by rfl) T.z_ValueError (by decide +kernel) rfl) pa_nil))) (pe_one (pe_cmpR (o_eq hu) (pe_bm PySem.F.plainAttrs_list PySem.F.slot_list_count PySem.F.type_list_count mt_countL (pv 1) (pa_cons pe_bl pa_nil)) pe_int (by first | exact nomark _ | rfl)))))))), pure_law_alone K y p.1 G.mem H Q h⟩
theorem ok_law_refusedT (T : Top K mg) : Cal P w K mg base 39 "_law_refused" (sp_law_refusedT K) := by
  have c_Program___init__T : CalCX P w K mg base 37 "Program" as_Program (sp_Program___init__T K) := ok_Program___init__T T
  have c_law_alone : CalE P w K mg base 1 "_law_alone" (.bl true) := ok_law_alone T
  exact cal_of (k := 38) T.f_law_refusedT sc_law_refusedT (by intro vs H Q E h; repeat (first | (obtain ⟨rfl, _⟩ := h; rfl) | (obtain ⟨_, h⟩ := h))) fun f cdv A outer s H vs Q E hr h => ⟨t_law_refusedT K, PSs.nox (pss_cons (ps_tryH T.xtop T.h_Hush rfl rfl sc_law_refusedT.nd (i := 3) rfl rfl (by rfl) (fun W pn xe tk => (pss_one (ps_expr (pe_cX c_Program___init__T hr (by decide) tk rfl (pa_cons (pv 0) (pa_cons (pv 1) (pa_cons (pv 2) pa_nil))))))) (fun x D a oe pn G hz hf => (pss_cons (ps_if (pt_not (pt_val (pe_fE (p := (a, oe)) c_law_alone G hz hf List.mem_cons_self (roomS hr) (by decide) (pa_cons (pv 3) pa_nil)))) (pss_one (ps_ret pe_str)) pss_nil) (pss_cons (ps_set (i := 4) sc_law_refusedT.nd rfl (by first | exact Or.inl rfl | exact Or.inr rfl) (pe_lst (pa_cons (pe_callB (call_isX (p := (a, oe)) List.mem_cons_self G hz hf) (by rfl) T.z_isinstance (by decide +kernel) (pa_cons (pv 3) (pa_cons (pe_globX (by rfl) T.n_NoName) pa_nil))) (pa_cons (pe_callB (call_isX (p := (a, oe)) List.mem_cons_self G hz hf) (by rfl) T.z_isinstance (by decide +kernel) (pa_cons (pv 3) (pa_cons (pe_globX (by rfl) T.n_Twice) pa_nil))) (pa_cons (pe_callB (call_isX (p := (a, oe)) List.mem_cons_self G hz hf) (by rfl) T.z_isinstance (by decide +kernel) (pa_cons (pv 3) (pa_cons (pe_globX (by rfl) T.n_NoRow) pa_nil))) (pa_cons (pe_callB (call_isX (p := (a, oe)) List.mem_cons_self G hz hf) (by rfl) T.z_isinstance (by decide +kernel) (pa_cons (pv 3) (pa_cons (pe_globX (by rfl) T.n_TooDeep) pa_nil))) pa_nil)))))) (pss_one (ps_ret (pe_ix ix_seq (pe_lst (pa_cons pe_str (pa_cons pe_str (pa_cons pe_str (pa_cons pe_str (pa_cons pe_str pa_nil)))))) (pe_bm PySem.F.plainAttrs_list PySem.F.slot_list_index PySem.F.type_list_index mt_index (pe_op o_add (pv 4) (pe_lst (pa_cons pe_bl pa_nil))) (pa_cons pe_bl pa_nil)) (fun _ _ => rfl)))))))) (pss_one (ps_ret pe_str))), pure_law_refusedT K vs H Q E h⟩
theorem ok_law_wrong_rowT (T : Top K mg) : Cal P w K mg base 1 "_law_wrong_row" (sp_law_wrong_rowT K) := by
  exact cal_of (k := 0) T.f_law_wrong_rowT sc_law_wrong_rowT (by intro vs H Q E h; repeat (first | (obtain ⟨rfl, _⟩ := h; rfl) | (obtain ⟨_, h⟩ := h))) fun f cdv A outer s H vs Q E hr h => ⟨t_law_wrong_rowT K, PSs.nox (pss_cons (ps_set (i := 2) sc_law_wrong_rowT.nd rfl (by first | exact Or.inl rfl | exact Or.inr rfl) (pe_lst (pa_cons pe_int (pa_cons pe_str (pa_cons (pe_lst (pa_cons pe_str pa_nil)) (pa_cons (pe_tup pa_nil) (pa_cons (pe_tup (pa_cons pe_int pa_nil)) (pa_cons (pe_tup (pa_cons pe_str pa_nil)) (pa_cons (pe_tup (pa_cons pe_str (pa_cons pe_int pa_nil))) (pa_cons (pe_tup (pa_cons pe_str pa_nil)) (pa_cons (pe_tup (pa_cons pe_str (pa_cons (pe_ix ix_seq (pv 0) pe_int (fun _ _ => rfl)) pa_nil))) pa_nil))))))))))) (pss_cons (ps_set (i := 2) sc_law_wrong_rowT.nd rfl (by first | exact Or.inl rfl | exact Or.inr rfl) (pe_op o_add (pv 2) (pe_lst (pa_cons (pe_tup (pa_cons pe_str (pa_cons pe_str (pa_cons (pe_tup (pa_cons pe_str (pa_cons pe_int pa_nil))) pa_nil)))) (pa_cons (pe_tup (pa_cons pe_str (pa_cons pe_str (pa_cons (pe_tup (pa_cons pe_str (pa_cons pe_int pa_nil))) pa_nil)))) (pa_cons (pe_tup (pa_cons pe_str (pa_cons pe_int (pa_cons (pe_tup (pa_cons pe_str (pa_cons pe_int pa_nil))) pa_nil)))) pa_nil)))))) (pss_cons (ps_set (i := 2) sc_law_wrong_rowT.nd rfl (by first | exact Or.inl rfl | exact Or.inr rfl) (pe_op o_add (pv 2) (pe_lst (pa_cons (pe_tup (pa_cons pe_str (pa_cons (pe_tup (pa_cons pe_str (pa_cons pe_int pa_nil))) (pa_cons (pe_lst pa_nil) pa_nil)))) pa_nil)))) (pss_cons (ps_set (i := 2) sc_law_wrong_rowT.nd rfl (by first | exact Or.inl rfl | exact Or.inr rfl) (pe_op o_add (pv 2) (pe_lst (pa_cons (pe_tup (pa_cons pe_str (pa_cons (pe_tup (pa_cons pe_str (pa_cons pe_int pa_nil))) (pa_cons pe_int pa_nil)))) (pa_cons (pe_tup (pa_cons pe_str (pa_cons (pe_tup (pa_cons pe_str (pa_cons pe_int pa_nil))) (pa_cons (pe_lst pa_nil) (pa_cons pe_str pa_nil))))) (pa_cons (pe_tup (pa_cons pe_str (pa_cons (pe_tup (pa_cons pe_str (pa_cons pe_int pa_nil))) (pa_cons pe_non pa_nil)))) pa_nil)))))) (pss_cons (ps_set (i := 2) sc_law_wrong_rowT.nd rfl (by first | exact Or.inl rfl | exact Or.inr rfl) (pe_op o_add (pv 2) (pe_lst (pa_cons (pe_tup (pa_cons pe_str (pa_cons pe_int pa_nil))) (pa_cons (pe_tup (pa_cons pe_str (pa_cons (pe_tup (pa_cons pe_str (pa_cons (pe_op o_pow pe_int pe_int) pa_nil))) pa_nil))) (pa_cons (pe_tup (pa_cons pe_str (pa_cons (pe_tup (pa_cons pe_str (pa_cons (pe_un o_neg pe_int) pa_nil))) pa_nil))) pa_nil)))))) (pss_cons (ps_set (i := 2) sc_law_wrong_rowT.nd rfl (by first | exact Or.inl rfl | exact Or.inr rfl) (pe_op o_add (pv 2) (pe_lst (pa_cons (pe_tup (pa_cons pe_str (pa_cons (pe_tup (pa_cons pe_str (pa_cons pe_bl pa_nil))) pa_nil))) pa_nil)))) (pss_cons (ps_set (i := 2) sc_law_wrong_rowT.nd rfl (by first | exact Or.inl rfl | exact Or.inr rfl) (pe_op o_add (pv 2) (pe_lst (pa_cons (pe_tup (pa_cons pe_str (pa_cons (pe_tup (pa_cons pe_str (pa_cons pe_str pa_nil))) pa_nil))) (pa_cons (pe_tup (pa_cons pe_str (pa_cons (pe_tup (pa_cons pe_str (pa_cons pe_str pa_nil))) pa_nil))) pa_nil))))) (pss_cons (ps_set (i := 2) sc_law_wrong_rowT.nd rfl (by first | exact Or.inl rfl | exact Or.inr rfl) (pe_op o_add (pv 2) (pe_lst (pa_cons (pe_tup (pa_cons pe_str (pa_cons (pe_tup (pa_cons pe_str (pa_cons (pe_tup (pa_cons pe_str (pa_cons pe_int pa_nil))) (pa_cons (pe_tup (pa_cons pe_str (pa_cons pe_int pa_nil))) pa_nil)))) pa_nil))) (pa_cons (pe_tup (pa_cons pe_str (pa_cons (pe_tup (pa_cons pe_str (pa_cons (pe_tup (pa_cons pe_str (pa_cons pe_int pa_nil))) pa_nil))) pa_nil))) pa_nil))))) (pss_cons (ps_set (i := 2) sc_law_wrong_rowT.nd rfl (by first | exact Or.inl rfl | exact Or.inr rfl) (pe_op o_add (pv 2) (pe_lst (pa_cons (pe_tup (pa_cons pe_str (pa_cons (pe_lst (pa_cons pe_str (pa_cons pe_int pa_nil))) pa_nil))) (pa_cons (pe_tup (pa_cons pe_str (pa_cons (pe_tup (pa_cons pe_str (pa_cons pe_str pa_nil))) pa_nil))) (pa_cons (pe_tup (pa_cons pe_str (pa_cons (pe_tup (pa_cons pe_str (pa_cons pe_str pa_nil))) pa_nil))) pa_nil)))))) (pss_one (ps_ret (pe_ix ix_seq (pv 2) (pe_op o_mod (pv 1) pe_int) (fun _ _ => rfl))))))))))))), pure_law_wrong_rowT K vs H Q E h⟩
theorem ok_law_chainT (T : Top K mg) : Cal P w K mg base 1 "_law_chain" (sp_law_chainT K) := by
  exact cal_of (k := 0) T.f_law_chainT sc_law_chainT (by intro vs H Q E h; repeat (first | (obtain ⟨rfl, _⟩ := h; rfl) | (obtain ⟨_, h⟩ := h))) fun f cdv A outer s H vs Q E hr h => ⟨t_law_chainT K, PSs.nox (pss_cons (ps_set (i := 2) sc_law_chainT.nd rfl (by first | exact Or.inl rfl | exact Or.inr rfl) (pe_tup (pa_cons pe_str (pa_cons (pv 0) pa_nil)))) (pss_cons (ps_for PassesOwn.never rfl (pi_range1 (by rfl) T.z_range (pa_cons (pe_op o_sub (pv 1) pe_int) pa_nil)) (pg_name (i := 3) sc_law_chainT.nd rfl (by first | exact Or.inl rfl | exact Or.inr rfl)) (pss_one (ps_set (i := 2) sc_law_chainT.nd rfl (by first | exact Or.inl rfl | exact Or.inr rfl) (pe_ix ix_seq (pe_lst (pa_cons (pe_tup (pa_cons pe_str (pa_cons (pv 2) (pa_cons (pe_tup (pa_cons pe_str (pa_cons pe_int pa_nil))) pa_nil)))) (pa_cons (pe_tup (pa_cons pe_str (pa_cons (pe_tup (pa_cons pe_str (pa_cons pe_int pa_nil))) (pa_cons (pv 2) pa_nil)))) pa_nil))) (pe_op o_mod (pv 3) pe_int) (fun _ _ => rfl))))) (pss_one (ps_ret (pv 2))))), pure_law_chainT K vs H Q E h⟩
theorem ok_law_nestedT (T : Top K mg) : Cal P w K mg base 1 "_law_nested" (sp_law_nestedT K) := by
  exact cal_of (k := 0) T.f_law_nestedT sc_law_nestedT (by intro vs H Q E h; repeat (first | (obtain ⟨rfl, _⟩ := h; rfl) | (obtain ⟨_, h⟩ := h))) fun f cdv A outer s H vs Q E hr h => ⟨t_law_nestedT K, PSs.nox (pss_cons (ps_set (i := 1) sc_law_nestedT.nd rfl (by first | exact Or.inl rfl | exact Or.inr rfl) (pe_lst (pa_cons (pe_tup (pa_cons pe_str pa_nil)) pa_nil))) (pss_cons (ps_for PassesOwn.never rfl (pi_range1 (by rfl) T.z_range (pa_cons (pe_op o_sub (pv 0) pe_int) pa_nil)) (pg_name (i := 2) sc_law_nestedT.nd rfl (by first | exact Or.inl rfl | exact Or.inr rfl)) (pss_one (ps_set (i := 1) sc_law_nestedT.nd rfl (by first | exact Or.inl rfl | exact Or.inr rfl) (pe_ix ix_seq (pe_lst (pa_cons (pe_lst (pa_cons (pe_tup (pa_cons pe_str (pa_cons (pe_tup (pa_cons pe_str (pa_cons pe_int pa_nil))) (pa_cons (pv 1) pa_nil)))) pa_nil)) (pa_cons (pe_lst (pa_cons (pe_tup (pa_cons pe_str (pa_cons (pe_tup (pa_cons pe_str (pa_cons pe_int pa_nil))) (pa_cons (pe_lst pa_nil) (pa_cons (pv 1) pa_nil))))) pa_nil)) pa_nil))) (pe_op o_mod (pv 2) pe_int) (fun _ _ => rfl))))) (pss_one (ps_ret (pv 1))))), pure_law_nestedT K vs H Q E h⟩
theorem ok_law_twoT (T : Top K mg) : Cal P w K mg base 2 "_law_two" (sp_law_twoT K) := by
  have c_law_chainT : Cal P w K mg base 1 "_law_chain" (sp_law_chainT K) := ok_law_chainT T
  have c_law_nestedT : Cal P w K mg base 1 "_law_nested" (sp_law_nestedT K) := ok_law_nestedT T
  exact cal_of (k := 1) T.f_law_twoT sc_law_twoT (by intro vs H Q E h; repeat (first | (obtain ⟨rfl, _⟩ := h; rfl) | (obtain ⟨_, h⟩ := h))) fun f cdv A outer s H vs Q E hr h => ⟨t_law_twoT K, PSs.nox (pss_cons (ps_set (i := 1) sc_law_twoT.nd rfl (by first | exact Or.inl rfl | exact Or.inr rfl) (pe_f c_law_chainT hr (by decide) (pa_cons pe_str (pa_cons pe_int pa_nil)))) (pss_cons (ps_set (i := 2) sc_law_twoT.nd rfl (by first | exact Or.inl rfl | exact Or.inr rfl) (pe_lst (pa_cons (pe_tup (pa_cons (pe_tup (pa_cons pe_str (pa_cons pe_int (pa_cons (pe_f c_law_nestedT hr (by decide) (pa_cons pe_int pa_nil)) pa_nil)))) (pa_cons pe_str pa_nil))) (pa_cons (pe_tup (pa_cons (pe_tup (pa_cons pe_str (pa_cons (pv 1) (pa_cons (pe_lst (pa_cons pe_int pa_nil)) pa_nil)))) (pa_cons pe_str pa_nil))) (pa_cons (pe_tup (pa_cons (pe_tup (pa_cons pe_str (pa_cons (pv 1) (pa_cons (pe_lst pa_nil) (pa_cons pe_str pa_nil))))) (pa_cons pe_str pa_nil))) pa_nil))))) (pss_cons (ps_set (i := 2) sc_law_twoT.nd rfl (by first | exact Or.inl rfl | exact Or.inr rfl) (pe_op o_add (pv 2) (pe_lst (pa_cons (pe_tup (pa_cons (pe_tup (pa_cons pe_str (pa_cons (pe_tup (pa_cons pe_str (pa_cons (pv 1) (pa_cons pe_int pa_nil)))) pa_nil))) (pa_cons pe_str pa_nil))) (pa_cons (pe_tup (pa_cons (pe_tup (pa_cons pe_str (pa_cons (pe_tup (pa_cons pe_str (pa_cons pe_int (pa_cons (pv 1) pa_nil)))) pa_nil))) (pa_cons pe_str pa_nil))) (pa_cons (pe_tup (pa_cons (pe_tup (pa_cons pe_str (pa_cons pe_str (pa_cons (pv 1) pa_nil)))) (pa_cons pe_str pa_nil))) pa_nil)))))) (pss_cons (ps_set (i := 2) sc_law_twoT.nd rfl (by first | exact Or.inl rfl | exact Or.inr rfl) (pe_op o_add (pv 2) (pe_lst (pa_cons (pe_tup (pa_cons (pe_tup (pa_cons pe_str (pa_cons (pe_tup (pa_cons pe_str (pa_cons pe_int pa_nil))) (pa_cons (pe_lst (pa_cons (pe_tup (pa_cons pe_str (pa_cons pe_int pa_nil))) pa_nil)) (pa_cons (pe_f c_law_nestedT hr (by decide) (pa_cons pe_int pa_nil)) pa_nil))))) (pa_cons pe_str pa_nil))) (pa_cons (pe_tup (pa_cons (pe_tup (pa_cons pe_str (pa_cons (pv 1) (pa_cons pe_non pa_nil)))) (pa_cons pe_str pa_nil))) pa_nil))))) (pss_cons (ps_set (i := 2) sc_law_twoT.nd rfl (by first | exact Or.inl rfl | exact Or.inr rfl) (pe_op o_add (pv 2) (pe_lst (pa_cons (pe_tup (pa_cons (pe_tup (pa_cons pe_str (pa_cons (pe_tup (pa_cons pe_str (pa_cons pe_int pa_nil))) (pa_cons (pe_f c_law_nestedT hr (by decide) (pa_cons pe_int pa_nil)) (pa_cons (pe_lst (pa_cons pe_int pa_nil)) pa_nil))))) (pa_cons pe_str pa_nil))) (pa_cons (pe_tup (pa_cons (pe_tup (pa_cons pe_str (pa_cons (pv 1) (pa_cons pe_int pa_nil)))) (pa_cons pe_str pa_nil))) pa_nil))))) (pss_cons (ps_set (i := 3) sc_law_twoT.nd rfl (by first | exact Or.inl rfl | exact Or.inr rfl) pe_int) (pss_cons (ps_for PassesOwn.never rfl (pi_range1 (by rfl) T.z_range (pa_cons pe_int pa_nil)) (pg_name (i := 4) sc_law_twoT.nd rfl (by first | exact Or.inl rfl | exact Or.inr rfl)) (pss_one (ps_set (i := 3) sc_law_twoT.nd rfl (by first | exact Or.inl rfl | exact Or.inr rfl) (pe_tup (pa_cons pe_str (pa_cons (pe_tup (pa_cons pe_str (pa_cons pe_int pa_nil))) (pa_cons (pv 3) pa_nil))))))) (pss_cons (ps_set (i := 2) sc_law_twoT.nd rfl (by first | exact Or.inl rfl | exact Or.inr rfl) (pe_op o_add (pv 2) (pe_lst (pa_cons (pe_tup (pa_cons (pe_tup (pa_cons pe_str (pa_cons (pv 3) pa_nil))) (pa_cons pe_str pa_nil))) (pa_cons (pe_tup (pa_cons (pe_tup (pa_cons pe_str (pa_cons (pe_tup (pa_cons pe_str (pa_cons (pv 3) (pa_cons (pv 1) pa_nil)))) pa_nil))) (pa_cons pe_str pa_nil))) pa_nil))))) (pss_cons (ps_set (i := 2) sc_law_twoT.nd rfl (by first | exact Or.inl rfl | exact Or.inr rfl) (pe_op o_add (pv 2) (pe_lst (pa_cons (pe_tup (pa_cons (pe_tup (pa_cons pe_str (pa_cons (pe_tup (pa_cons pe_str (pa_cons (pe_tup (pa_cons pe_str (pa_cons (pv 1) (pa_cons pe_int pa_nil)))) (pa_cons pe_int pa_nil)))) pa_nil))) (pa_cons pe_str pa_nil))) pa_nil)))) (pss_cons (ps_set (i := 5) sc_law_twoT.nd rfl (by first | exact Or.inl rfl | exact Or.inr rfl) (pe_ix ix_seq (pv 2) (pe_op o_mod (pv 0) pe_int) (fun _ _ => rfl))) (pss_cons (ps_if (PW.pt (pw_and (pt_cmpR (o_eq hr.units) (pe_op o_mod (pe_op o_div (pv 0) pe_int) pe_int) pe_int (by first | exact nomark _ | rfl)) (pw_and (pt_cmpR (o_ne hr.units) (pe_ix ix_seq (pv 5) pe_int (fun _ _ => rfl)) (pe_tup (pa_cons pe_str (pa_cons (pv 1) (pa_cons (pe_lst pa_nil) (pa_cons pe_str pa_nil))))) (by first | exact nomark _ | rfl)) (pw_and1 (pt_cmpR (o_ne hr.units) (pe_ix ix_seq (pv 5) pe_int (fun _ _ => rfl)) (pe_tup (pa_cons pe_str (pa_cons (pv 1) (pa_cons pe_non pa_nil)))) (by first | exact nomark _ | rfl)))))) (pss_cons (ps_set (i := 6) sc_law_twoT.nd rfl (by first | exact Or.inl rfl | exact Or.inr rfl) (pe_ix ix_seq (pv 5) pe_int (fun _ _ => rfl))) (pss_one (ps_if (PW.pt (pw_or (PW.pt (pw_and (pt_cmpR (o_eq hr.units) (pe_ix ix_seq (pv 6) pe_int (fun _ _ => rfl)) pe_str (by first | exact nomark _ | rfl)) (pw_and1 (pt_cmpR (o_eq hr.units) (pe_callB o_len (by rfl) T.z_len (by decide +kernel) (pa_cons (pv 6) pa_nil)) pe_int (by first | exact nomark _ | rfl))))) (pw_or (pt_cmpR (o_eq hr.units) (pe_ix ix_seq (pv 6) pe_int (fun _ _ => rfl)) pe_str (by first | exact nomark _ | rfl)) (pw_or1 (pt_cmpR (o_eq hr.units) (pe_ix ix_seq (pv 6) pe_int (fun _ _ => rfl)) pe_str (by first | exact nomark _ | rfl)))))) (pss_cons (ps_for PassesOwn.never rfl (pi_range1 (by rfl) T.z_range (pa_cons pe_int pa_nil)) (pg_name (i := 4) sc_law_twoT.nd rfl (by first | exact Or.inl rfl | exact Or.inr rfl)) (pss_one (ps_set (i := 6) sc_law_twoT.nd rfl (by first | exact Or.inl rfl | exact Or.inr rfl) (pe_tup (pa_cons pe_str (pa_cons (pe_tup (pa_cons pe_str (pa_cons pe_int pa_nil))) (pa_cons (pe_lst (pa_cons (pv 6) pa_nil)) pa_nil))))))) (pss_one (ps_ret (pe_tup (pa_cons (pv 6) (pa_cons pe_str pa_nil)))))) pss_nil))) pss_nil) (pss_one (ps_ret (pv 5)))))))))))))), pure_law_twoT K vs H Q E h⟩
theorem ok_law_wrongT (T : Top K mg) : Cal P w K mg base 40 "_law_wrong" (sp_law_wrongT K) := by
  have c_law_refusedT : Cal P w K mg base 39 "_law_refused" (sp_law_refusedT K) := ok_law_refusedT T
  have c_law_wrong_rowT : Cal P w K mg base 1 "_law_wrong_row" (sp_law_wrong_rowT K) := ok_law_wrong_rowT T
  have c_law_mixed : Cal P w K mg base 1 "_law_mixed" (sp_law_mixed K) := ok_law_mixed T
  have c_law_chainT : Cal P w K mg base 1 "_law_chain" (sp_law_chainT K) := ok_law_chainT T
  have c_law_twoT : Cal P w K mg base 2 "_law_two" (sp_law_twoT K) := ok_law_twoT T
  have c_law_nestedT : Cal P w K mg base 1 "_law_nested" (sp_law_nestedT K) := ok_law_nestedT T
  exact cal_of (k := 39) T.f_law_wrongT sc_law_wrongT (by intro vs H Q E h; repeat (first | (obtain ⟨rfl, _⟩ := h; rfl) | (obtain ⟨_, h⟩ := h))) fun f cdv A outer s H vs Q E hr h => ⟨t_law_wrongT K, PSs.nox (pss_cons (ps_set (i := 3) sc_law_wrongT.nd rfl (by first | exact Or.inl rfl | exact Or.inr rfl) (pe_callTy (o_list rfl) (by rfl) T.z_list (by decide +kernel) (pa_cons (pv 1) pa_nil))) (pss_cons (ps_set (i := 4) sc_law_wrongT.nd rfl (by first | exact Or.inl rfl | exact Or.inr rfl) (pe_op o_mod (pe_op o_div (pv 2) pe_int) (pe_op o_add (pe_callB o_len (by rfl) T.z_len (by decide +kernel) (pa_cons (pv 3) pa_nil)) pe_int))) (pss_cons (ps_set (i := 5) sc_law_wrongT.nd rfl (by first | exact Or.inl rfl | exact Or.inr rfl) (pe_op o_div (pv 2) pe_int)) (pss_cons (ps_if (pt_cmpR (o_eq hr.units) (pe_op o_mod (pv 2) pe_int) pe_int (by first | exact nomark _ | rfl)) (pss_cons (ps_set (i := 6) sc_law_wrongT.nd rfl (by first | exact Or.inl rfl | exact Or.inr rfl) (pe_ix ix_seq (pe_lst (pa_cons pe_str (pa_cons pe_str (pa_cons pe_str (pa_cons pe_str (pa_cons pe_non (pa_cons pe_int (pa_cons pe_str (pa_cons pe_str pa_nil))))))))) (pe_op o_mod (pv 5) pe_int) (fun _ _ => rfl))) (pss_one (ps_ret (pe_cmpR (o_eq hr.units) (pe_f c_law_refusedT hr (by decide) (pa_cons (pe_lst (pa_cons (pe_ix ix_seq (pv 0) pe_int (fun _ _ => rfl)) (pa_cons (pv 6) pa_nil))) (pa_cons (pe_lst (pa_cons (pv 6) (pa_cons (pe_ix ix_seq (pv 0) pe_int (fun _ _ => rfl)) pa_nil))) (pa_cons (pv 3) pa_nil)))) pe_str (by first | exact nomark _ | rfl))))) pss_nil) (pss_cons (ps_if (pt_cmpR (o_eq hr.units) (pe_op o_mod (pv 2) pe_int) pe_int (by first | exact nomark _ | rfl)) (pss_cons (ps_set (i := 7) sc_law_wrongT.nd rfl (by first | exact Or.inl rfl | exact Or.inr rfl) (pe_lst (pa_cons (pe_lst (pa_cons (pe_lst (pa_cons (pe_ix ix_seq (pv 0) pe_int (fun _ _ => rfl)) (pa_cons (pe_ix ix_seq (pv 0) pe_int (fun _ _ => rfl)) pa_nil))) (pa_cons (pe_lst pa_nil) pa_nil))) (pa_cons (pe_lst (pa_cons (pe_lst (pa_cons (pe_ix ix_seq (pv 0) pe_int (fun _ _ => rfl)) pa_nil)) (pa_cons (pe_lst (pa_cons (pe_ix ix_seq (pv 0) pe_int (fun _ _ => rfl)) (pa_cons (pe_ix ix_seq (pv 0) pe_int (fun _ _ => rfl)) pa_nil))) pa_nil))) pa_nil)))) (pss_cons (ps_set (i := 7) sc_law_wrongT.nd rfl (by first | exact Or.inl rfl | exact Or.inr rfl) (pe_ix ix_seq (pe_op o_add (pv 7) (pe_lst (pa_cons (pe_lst (pa_cons (pe_lst pa_nil) (pa_cons (pe_lst (pa_cons (pe_ix ix_seq (pv 0) pe_int (fun _ _ => rfl)) (pa_cons (pe_ix ix_seq (pv 0) pe_int (fun _ _ => rfl)) (pa_cons pe_int pa_nil)))) pa_nil))) (pa_cons (pe_lst (pa_cons (pe_lst (pa_cons (pe_ix ix_seq (pv 0) pe_int (fun _ _ => rfl)) (pa_cons (pe_ix ix_seq (pv 0) pe_int (fun _ _ => rfl)) pa_nil))) (pa_cons pe_non pa_nil))) pa_nil)))) (pe_op o_mod (pv 5) pe_int) (fun _ _ => rfl))) (pss_one (ps_ret (pe_cmpR (o_eq hr.units) (pe_f c_law_refusedT hr (by decide) (pa_cons (pe_ix ix_seq (pv 7) pe_int (fun _ _ => rfl)) (pa_cons (pe_ix ix_seq (pv 7) pe_int (fun _ _ => rfl)) (pa_cons (pe_lst (pa_cons pe_int pa_nil)) pa_nil)))) pe_str (by first | exact nomark _ | rfl)))))) pss_nil) (pss_cons (ps_if (pt_cmpR (o_eq hr.units) (pe_op o_mod (pv 2) pe_int) pe_int (by first | exact nomark _ | rfl)) (pss_cons (ps_set (i := 7) sc_law_wrongT.nd rfl (by first | exact Or.inl rfl | exact Or.inr rfl) (pe_ix ix_seq (pe_lst (pa_cons (pe_lst (pa_cons pe_non (pa_cons (pe_lst pa_nil) pa_nil))) (pa_cons (pe_lst (pa_cons (pe_ix ix_seq (pv 0) pe_int (fun _ _ => rfl)) (pa_cons (pe_lst pa_nil) pa_nil))) (pa_cons (pe_lst (pa_cons (pe_lst pa_nil) (pa_cons (pe_ix ix_seq (pv 0) pe_int (fun _ _ => rfl)) pa_nil))) (pa_cons (pe_lst (pa_cons (pe_lst pa_nil) (pa_cons pe_int pa_nil))) pa_nil))))) (pe_op o_mod (pv 5) pe_int) (fun _ _ => rfl))) (pss_one (ps_ret (pe_cmpR (o_eq hr.units) (pe_f c_law_refusedT hr (by decide) (pa_cons (pe_ix ix_seq (pv 7) pe_int (fun _ _ => rfl)) (pa_cons (pe_ix ix_seq (pv 7) pe_int (fun _ _ => rfl)) (pa_cons (pe_lst (pa_cons pe_int pa_nil)) pa_nil)))) pe_str (by first | exact nomark _ | rfl))))) pss_nil) (pss_cons (ps_if (pt_cmpR o_lt (pe_op o_mod (pv 2) pe_int) pe_int (by first | exact nomark _ | rfl)) (pss_cons (ps_expr (pe_bm PySem.F.plainAttrs_list PySem.F.slot_list_insert PySem.F.type_list_insert mt_insert (pv 3) (pa_cons (pv 4) (pa_cons (pe_f c_law_wrong_rowT hr (by decide) (pa_cons (pv 0) (pa_cons (pe_f c_law_mixed hr (by decide) (pa_cons (pv 2) pa_nil)) pa_nil))) pa_nil)))) (pss_cons (ps_expr (pe_bm PySem.F.plainAttrs_list PySem.F.slot_list_append PySem.F.type_list_append mt_append (pv 3) (pa_cons (pe_tup (pa_cons pe_str (pa_cons (pe_f c_law_chainT hr (by decide) (pa_cons pe_str (pa_cons pe_int pa_nil))) pa_nil))) pa_nil))) (pss_cons (ps_if (pt_cmpR (o_ne hr.units) (pe_f c_law_refusedT hr (by decide) (pa_cons (pe_slice o_sl (pv 0) po_none (po_some pe_int)) (pa_cons (pe_slice o_sl (pv 0) (po_some pe_int) (po_some pe_int)) (pa_cons (pv 3) pa_nil)))) pe_str (by first | exact nomark _ | rfl)) (pss_one (ps_ret pe_bl)) pss_nil) (pss_cons (ps_expr (pe_bm PySem.F.plainAttrs_list PySem.F.slot_list_pop PySem.F.type_list_pop mt_popAt (pv 3) (pa_cons (pv 4) pa_nil))) (pss_cons (ps_if (pt_cmpR (o_ne hr.units) (pe_f c_law_refusedT hr (by decide) (pa_cons (pe_slice o_sl (pv 0) po_none (po_some pe_int)) (pa_cons (pe_slice o_sl (pv 0) (po_some pe_int) (po_some pe_int)) (pa_cons (pv 3) pa_nil)))) pe_str (by first | exact nomark _ | rfl)) (pss_one (ps_ret pe_bl)) pss_nil) (pss_cons (ps_expr (pe_bm0 PySem.F.plainAttrs_list PySem.F.slot_list_pop PySem.F.type_list_pop mt_pop (pv 3))) (pss_one (ps_ret (pe_cmpR (o_eq hr.units) (pe_f c_law_refusedT hr (by decide) (pa_cons (pe_slice o_sl (pv 0) po_none (po_some pe_int)) (pa_cons (pe_slice o_sl (pv 0) (po_some pe_int) (po_some pe_int)) (pa_cons (pv 3) pa_nil)))) pe_str (by first | exact nomark _ | rfl)))))))))) pss_nil) (pss_cons (ps_if (pt_cmpR (o_eq hr.units) (pe_op o_mod (pv 2) pe_int) pe_int (by first | exact nomark _ | rfl)) (pss_cons (ps_expr (pe_bm PySem.F.plainAttrs_list PySem.F.slot_list_insert PySem.F.type_list_insert mt_insert (pv 3) (pa_cons (pv 4) (pa_cons (pe_ix ix_seq (pe_lst (pa_cons (pe_tup (pa_cons pe_str (pa_cons (pe_f c_law_chainT hr (by decide) (pa_cons pe_str (pa_cons pe_int pa_nil))) pa_nil))) (pa_cons (pe_tup (pa_cons pe_str (pa_cons pe_str (pa_cons (pe_f c_law_chainT hr (by decide) (pa_cons pe_str (pa_cons pe_int pa_nil))) pa_nil)))) pa_nil))) (pe_op o_mod (pv 5) pe_int) (fun _ _ => rfl)) pa_nil)))) (pss_one (ps_ret (pe_cmpR (o_eq hr.units) (pe_f c_law_refusedT hr (by decide) (pa_cons (pe_slice o_sl (pv 0) po_none (po_some pe_int)) (pa_cons (pe_slice o_sl (pv 0) (po_some pe_int) (po_some pe_int)) (pa_cons (pe_op o_add (pv 3) (pe_lst (pa_cons pe_int pa_nil))) pa_nil)))) pe_str (by first | exact nomark _ | rfl))))) pss_nil) (pss_cons (ps_if (PW.pt (pw_and (pt_cmpR (o_eq hr.units) (pe_op o_mod (pv 2) pe_int) pe_int (by first | exact nomark _ | rfl)) (pw_and1 (pt_cmpR o_gt (pe_op o_mod (pv 5) pe_int) pe_int (by first | exact nomark _ | rfl))))) (pss_cons (ps_set (i := 8) sc_law_wrongT.nd rfl (by first | exact Or.inl rfl | exact Or.inr rfl) (pe_f c_law_twoT hr (by decide) (pa_cons (pe_op o_div (pv 5) pe_int) pa_nil))) (pss_cons (ps_expr (pe_bm PySem.F.plainAttrs_list PySem.F.slot_list_insert PySem.F.type_list_insert mt_insert (pv 3) (pa_cons (pv 4) (pa_cons (pe_ix ix_seq (pv 8) pe_int (fun _ _ => rfl)) pa_nil)))) (pss_one (ps_ret (pe_cmpR (o_eq hr.units) (pe_f c_law_refusedT hr (by decide) (pa_cons (pe_slice o_sl (pv 0) po_none (po_some pe_int)) (pa_cons (pe_slice o_sl (pv 0) (po_some pe_int) (po_some pe_int)) (pa_cons (pe_op o_add (pv 3) (pe_lst (pa_cons pe_int pa_nil))) pa_nil)))) (pe_ix ix_seq (pv 8) pe_int (fun _ _ => rfl)) (by first | exact nomark _ | rfl)))))) pss_nil) (pss_cons (ps_if (pt_cmpR (o_eq hr.units) (pe_op o_mod (pv 2) pe_int) pe_int (by first | exact nomark _ | rfl)) (pss_one (ps_ret (pe_cmpR (o_eq hr.units) (pe_f c_law_refusedT hr (by decide) (pa_cons (pe_lst pa_nil) (pa_cons (pe_lst pa_nil) (pa_cons (pe_op o_add (pe_op o_add (pv 3) (pe_f c_law_nestedT hr (by decide) (pa_cons (pe_op o_add pe_int (pe_op o_mod (pe_op o_div (pv 5) pe_int) pe_int)) pa_nil))) (pe_lst (pa_cons pe_int pa_nil))) pa_nil)))) pe_str (by first | exact nomark _ | rfl)))) pss_nil) (pss_cons (ps_if (pt_cmpR (o_ne hr.units) (pe_f c_law_refusedT hr (by decide) (pa_cons (pe_lst pa_nil) (pa_cons (pe_lst pa_nil) (pa_cons (pe_op o_add (pe_f c_law_nestedT hr (by decide) (pa_cons pe_int pa_nil)) (pe_lst (pa_cons (pe_tup (pa_cons pe_str (pa_cons (pe_f c_law_chainT hr (by decide) (pa_cons pe_str (pa_cons pe_int pa_nil))) pa_nil))) pa_nil))) pa_nil)))) pe_str (by first | exact nomark _ | rfl)) (pss_one (ps_ret pe_bl)) pss_nil) (pss_one (ps_ret (pe_cmpR (o_eq hr.units) (pe_f c_law_refusedT hr (by decide) (pa_cons (pe_lst pa_nil) (pa_cons (pe_lst pa_nil) (pa_cons (pe_ix ix_seq (pe_lst (pa_cons pe_non (pa_cons pe_str (pa_cons pe_int (pa_cons pe_dnewK pa_nil))))) (pe_op o_mod (pv 5) pe_int) (fun _ _ => rfl)) pa_nil)))) pe_str (by first | exact nomark _ | rfl))))))))))))))), pure_law_wrongT K vs H Q E h⟩
theorem ok_law_handedT (T : Top K mg) : ∀ n : Nat, Cal P w K mg base (0 + n) "_law_handed" (sp_law_handedT K n)
  | 0 => cal_none T.f_law_handedT no_law_handedT
  | n + 1 => by
    have c_law_handedT : Cal P w K mg base (0 + n) "_law_handed" (sp_law_handedT K n) := ok_law_handedT T n
    exact cal_of (k := 0 + n) T.f_law_handedT sc_law_handedT (by intro vs H Q E h; repeat (first | (obtain ⟨rfl, _⟩ := h; rfl) | (obtain ⟨_, h⟩ := h))) fun f cdv A outer s H vs Q E hr h => ⟨t_law_handedT K n, PSs.nox (pss_cons (ps_set (i := 2) sc_law_handedT.nd rfl (by first | exact Or.inl rfl | exact Or.inr rfl) (pe_lst pa_nil)) (pss_cons (ps_for PassesOwn.never rfl (pi_seq (pv 0)) (pg_name (i := 3) sc_law_handedT.nd rfl (by first | exact Or.inl rfl | exact Or.inr rfl)) (pss_cons (ps_if (pt_cmpR (o_eq hr.units) (pe_ix ix_seq (pv 3) pe_int (fun _ _ => rfl)) pe_str (by first | exact nomark _ | rfl)) (pss_one (ps_set (i := 3) sc_law_handedT.nd rfl (by first | exact Or.inl rfl | exact Or.inr rfl) (pe_tup (pa_cons pe_str (pa_cons (pe_ix ix_seq (pv 3) pe_int (fun _ _ => rfl)) (pa_cons (pe_f c_law_handedT hr (by omega) (pa_cons (pe_ix ix_seq (pv 3) pe_int (fun _ _ => rfl)) (pa_cons (pv 1) pa_nil))) (pa_cons (pe_f c_law_handedT hr (by omega) (pa_cons (pe_ix ix_seq (pv 3) pe_int (fun _ _ => rfl)) (pa_cons (pv 1) pa_nil))) pa_nil))))))) (pss_one (ps_if (pt_cmpR (o_eq hr.units) (pe_ix ix_seq (pv 3) pe_int (fun _ _ => rfl)) pe_str (by first | exact nomark _ | rfl)) (pss_one (ps_set (i := 3) sc_law_handedT.nd rfl (by first | exact Or.inl rfl | exact Or.inr rfl) (pe_tup (pa_cons pe_str (pa_cons (pe_ix ix_seq (pv 3) pe_int (fun _ _ => rfl)) (pa_cons (pe_f c_law_handedT hr (by omega) (pa_cons (pe_ix ix_seq (pv 3) pe_int (fun _ _ => rfl)) (pa_cons (pv 1) pa_nil))) pa_nil)))))) pss_nil))) (pss_one (ps_expr (pe_bm PySem.F.plainAttrs_list PySem.F.slot_list_append PySem.F.type_list_append mt_append (pv 2) (pa_cons (pv 3) pa_nil)))))) (pss_one (ps_ret (pe_ix ix_seq (pe_lst (pa_cons (pv 2) (pa_cons (pe_callTy o_tuple (by rfl) T.z_tuple (by decide +kernel) (pa_cons (pv 2) pa_nil)) pa_nil))) (pv 1) (fun _ _ => rfl)))))), pure_law_handedT K n vs H Q E h⟩
theorem ok_law_blocksT (T : Top K mg) : Cal P w K mg base 1 "_law_blocks" (sp_law_blocksT K) := by
  exact cal_of (k := 0) T.f_law_blocksT sc_law_blocksT (by intro vs H Q E h; repeat (first | (obtain ⟨rfl, _⟩ := h; rfl) | (obtain ⟨_, h⟩ := h))) fun f cdv A outer s H vs Q E hr h => ⟨t_law_blocksT K, PSs.nox (pss_cons (ps_if (pt_cmpR (o_eq hr.units) (pe_ix ix_seq (pv 0) pe_int (fun _ _ => rfl)) pe_str (by first | exact nomark _ | rfl)) (pss_one (ps_ret (pe_lst pa_nil))) pss_nil) (pss_one (ps_ret (pe_callTy (o_list rfl) (by rfl) T.z_list (by decide +kernel) (pa_cons (pe_slice o_sl (pv 0) (po_some pe_int) po_none) pa_nil))))), pure_law_blocksT K vs H Q E h⟩
theorem ok_law_block_namesT (T : Top K mg) : ∀ n : Nat, Cal P w K mg base (18 + n) "_law_block_names" (sp_law_block_namesT K n)
  | 0 => cal_none T.f_law_block_namesT no_law_block_namesT
  | n + 1 => by
    have c_law_block_namesT : Cal P w K mg base (18 + n) "_law_block_names" (sp_law_block_namesT K n) := ok_law_block_namesT T n
    have c_law_all_names : Cal P w K mg base 18 "_law_all_names" (sp_law_all_names K 18) := ok_law_all_names T 18
    have c_law_blocksT : Cal P w K mg base 1 "_law_blocks" (sp_law_blocksT K) := ok_law_blocksT T
    exact cal_of (k := 18 + n) T.f_law_block_namesT sc_law_block_namesT (by intro vs H Q E h; repeat (first | (obtain ⟨rfl, _⟩ := h; rfl) | (obtain ⟨_, h⟩ := h))) fun f cdv A outer s H vs Q E hr h => ⟨t_law_block_namesT K n, PSs.nox (pss_cons (ps_set (i := 1) sc_law_block_namesT.nd rfl (by first | exact Or.inl rfl | exact Or.inr rfl) (pe_lst pa_nil)) (pss_cons (ps_for PassesOwn.never rfl (pi_seq (pv 0)) (pg_name (i := 2) sc_law_block_namesT.nd rfl (by first | exact Or.inl rfl | exact Or.inr rfl)) (pss_cons (ps_if (pt_cmpR (o_eq hr.units) (pe_ix ix_seq (pv 2) pe_int (fun _ _ => rfl)) pe_str (by first | exact nomark _ | rfl)) (pss_one (ps_set (i := 1) sc_law_block_namesT.nd rfl (by first | exact Or.inl rfl | exact Or.inr rfl) (pe_op o_add (pe_op o_add (pv 1) (pe_lst (pa_cons (pe_ix ix_seq (pv 2) pe_int (fun _ _ => rfl)) pa_nil))) (pe_f c_law_all_names hr (by omega) (pa_cons (pe_ix ix_seq (pv 2) pe_int (fun _ _ => rfl)) pa_nil))))) (pss_one (ps_if (pt_cmpR (o_ne hr.units) (pe_ix ix_seq (pv 2) pe_int (fun _ _ => rfl)) pe_str (by first | exact nomark _ | rfl)) (pss_one (ps_set (i := 1) sc_law_block_namesT.nd rfl (by first | exact Or.inl rfl | exact Or.inr rfl) (pe_op o_add (pv 1) (pe_f c_law_all_names hr (by omega) (pa_cons (pe_ix ix_seq (pv 2) pe_int (fun _ _ => rfl)) pa_nil))))) pss_nil))) (pss_one (ps_for PassesOwn.never rfl (pi_seq (pe_f c_law_blocksT hr (by omega) (pa_cons (pv 2) pa_nil))) (pg_name (i := 3) sc_law_block_namesT.nd rfl (by first | exact Or.inl rfl | exact Or.inr rfl)) (pss_one (ps_set (i := 1) sc_law_block_namesT.nd rfl (by first | exact Or.inl rfl | exact Or.inr rfl) (pe_op o_add (pv 1) (pe_f c_law_block_namesT hr (by omega) (pa_cons (pv 3) pa_nil))))))))) (pss_one (ps_ret (pv 1))))), pure_law_block_namesT K n vs H Q E h⟩
theorem ok_all_names (T : Top K mg) : ∀ n : Nat, Cal P w K mg base (0 + n) "all_names" (sp_all_names K n)
  | 0 => cal_none T.f_all_names no_all_names
  | n + 1 => by
    have c_all_names : Cal P w K mg base (0 + n) "all_names" (sp_all_names K n) := ok_all_names T n
    exact cal_of (k := 0 + n) T.f_all_names sc_all_names (by intro vs H Q E h; repeat (first | (obtain ⟨rfl, _⟩ := h; rfl) | (obtain ⟨_, h⟩ := h))) fun f cdv A outer s H vs Q E hr h => ⟨t_all_names K n, PSs.nox (pss_cons (ps_if (pt_cmpR (o_eq hr.units) (pe_ix ix_seq (pv 0) pe_int (fun _ _ => rfl)) pe_str (by first | exact nomark _ | rfl)) (pss_one (ps_ret (pe_lst pa_nil))) pss_nil) (pss_cons (ps_if (pt_cmpR (o_eq hr.units) (pe_ix ix_seq (pv 0) pe_int (fun _ _ => rfl)) pe_str (by first | exact nomark _ | rfl)) (pss_one (ps_ret (pe_lst (pa_cons (pe_ix ix_seq (pv 0) pe_int (fun _ _ => rfl)) pa_nil)))) pss_nil) (pss_one (ps_ret (pe_op o_add (pe_f c_all_names hr (by omega) (pa_cons (pe_ix ix_seq (pv 0) pe_int (fun _ _ => rfl)) pa_nil)) (pe_f c_all_names hr (by omega) (pa_cons (pe_ix ix_seq (pv 0) pe_int (fun _ _ => rfl)) pa_nil))))))), pure_all_names K n vs H Q E h⟩
theorem ok_names_in (T : Top K mg) : Cal P w K mg base 19 "names_in" (sp_names_in K) := by
  have c_all_names : Cal P w K mg base 18 "all_names" (sp_all_names K 18) := ok_all_names T 18
  exact cal_of (k := 18) T.f_names_in sc_names_in (by intro vs H Q E h; repeat (first | (obtain ⟨rfl, _⟩ := h; rfl) | (obtain ⟨_, h⟩ := h))) fun f cdv A outer s H vs Q E hr h => ⟨t_names_in K, PSs.nox (pss_one (ps_ret (pe_sortSet rfl (by rfl) T.z_sorted (by rfl) T.z_set (pe_f c_all_names hr (by decide) (pa_cons (pv 0) pa_nil))))), pure_names_in K vs H Q E h⟩
theorem ok_all_in (T : Top K mg) : ∀ n : Nat, Cal P w K mg base (19 + n) "all_in" (sp_all_in K n)
  | 0 => cal_none T.f_all_in no_all_in
  | n + 1 => by
    have c_all_in : Cal P w K mg base (19 + n) "all_in" (sp_all_in K n) := ok_all_in T n
    have c_names_in : Cal P w K mg base 19 "names_in" (sp_names_in K) := ok_names_in T
    have c_formula_ofT : Cal P w K mg base 1 "formula_of" (sp_formula_of K) := (ok_formula_ofT T).imp (imp_formula_of K)
    have c_blocks_ofT : Cal P w K mg base 1 "blocks_of" (sp_blocks_of K) := (ok_blocks_ofT T).imp (imp_blocks_of K)
    exact cal_of (k := 19 + n) T.f_all_in sc_all_in (by intro vs H Q E h; repeat (first | (obtain ⟨rfl, _⟩ := h; rfl) | (obtain ⟨_, h⟩ := h))) fun f cdv A outer s H vs Q E hr h => ⟨t_all_in K n, PSs.nox (pss_cons (ps_set (i := 1) sc_all_in.nd rfl (by first | exact Or.inl rfl | exact Or.inr rfl) (pe_lst pa_nil)) (pss_cons (ps_for PassesOwn.never rfl (pi_seq (pv 0)) (pg_name (i := 2) sc_all_in.nd rfl (by first | exact Or.inl rfl | exact Or.inr rfl)) (pss_cons (ps_if (pt_cmpR (o_eq hr.units) (pe_ix ix_seq (pv 2) pe_int (fun _ _ => rfl)) pe_str (by first | exact nomark _ | rfl)) (pss_one (ps_expr (pe_bm PySem.F.plainAttrs_list PySem.F.slot_list_append PySem.F.type_list_append mt_append (pv 1) (pa_cons (pe_ix ix_seq (pv 2) pe_int (fun _ _ => rfl)) pa_nil)))) pss_nil) (pss_cons (ps_if (pt_cmpR (o_ne hr.units) (pe_ix ix_seq (pv 2) pe_int (fun _ _ => rfl)) pe_str (by first | exact nomark _ | rfl)) (pss_one (ps_set (i := 1) sc_all_in.nd rfl (by first | exact Or.inl rfl | exact Or.inr rfl) (pe_op o_add (pv 1) (pe_f c_names_in hr (by omega) (pa_cons (pe_f c_formula_ofT hr (by omega) (pa_cons (pv 2) pa_nil)) pa_nil))))) pss_nil) (pss_one (ps_for PassesOwn.never rfl (pi_seq (pe_f c_blocks_ofT hr (by omega) (pa_cons (pv 2) pa_nil))) (pg_name (i := 3) sc_all_in.nd rfl (by first | exact Or.inl rfl | exact Or.inr rfl)) (pss_one (ps_set (i := 1) sc_all_in.nd rfl (by first | exact Or.inl rfl | exact Or.inr rfl) (pe_op o_add (pv 1) (pe_f c_all_in hr (by omega) (pa_cons (pv 3) pa_nil)))))))))) (pss_one (ps_ret (pv 1))))), pure_all_in K n vs H Q E h⟩
theorem ok_Program_names (T : Top K mg) : CalM P w K mg base 29 "Program" as_Program "names" (sp_Program_names K) := by
  obtain ⟨C, cc, hm, hi, h_names, h_told, h_block, h_many, h_kind⟩ := T.c_Program
  have c_all_in : Cal P w K mg base 28 "all_in" (sp_all_in K 9) := ok_all_in T 9
  exact calM_of (k := 28) cc h_names sc_Program_names (by intro vs H Q E h; repeat (first | (obtain ⟨rfl, _⟩ := h; rfl) | (obtain ⟨_, h⟩ := h))) fun f cdv A outer s H vs Q E hr h => ⟨t_Program_names K, PSs.nox (pss_one (ps_ret (pe_sortSet rfl (by rfl) T.z_sorted (by rfl) T.z_set (pe_op o_add (pe_op o_add (pe_fld (pv 0) rfl) (pe_fld (pv 0) rfl)) (pe_f c_all_in hr (by decide) (pa_cons (pe_fld (pv 0) rfl) pa_nil)))))), pure_Program_names K vs H Q E h⟩
theorem ok_Program_told (T : Top K mg) : CalM P w K mg base 1 "Program" as_Program "told" (sp_Program_told K) := by
  obtain ⟨C, cc, hm, hi, h_names, h_told, h_block, h_many, h_kind⟩ := T.c_Program
  exact calM_of (k := 0) cc h_told sc_Program_told (by intro vs H Q E h; repeat (first | (obtain ⟨rfl, _⟩ := h; rfl) | (obtain ⟨_, h⟩ := h))) fun f cdv A outer s H vs Q E hr h => ⟨t_Program_told K, PSs.nox (pss_one (ps_ret (pe_tup (pa_cons (pe_callTy (o_list rfl) (by rfl) T.z_list (by decide +kernel) (pa_cons (pe_fld (pv 0) rfl) pa_nil)) (pa_cons (pe_callTy (o_list rfl) (by rfl) T.z_list (by decide +kernel) (pa_cons (pe_fld (pv 0) rfl) pa_nil)) pa_nil))))), pure_Program_told K vs H Q E h⟩
theorem ok_Program_block (T : Top K mg) : CalM P w K mg base 1 "Program" as_Program "block" (sp_Program_block K) := by
  obtain ⟨C, cc, hm, hi, h_names, h_told, h_block, h_many, h_kind⟩ := T.c_Program
  exact calM_of (k := 0) cc h_block sc_Program_block (by intro vs H Q E h; repeat (first | (obtain ⟨rfl, _⟩ := h; rfl) | (obtain ⟨_, h⟩ := h))) fun f cdv A outer s H vs Q E hr h => ⟨t_Program_block K, PSs.nox (pss_one (ps_ret (pe_fld (pv 0) rfl))), pure_Program_block K vs H Q E h⟩
theorem ok_many_in_of (T : Top K mg) {n j : Nat} (hj : 1 ≤ j) (c_size_of : Cal P w K mg base j "size_of" (sp_size_of K n)) : Cal P w K mg base (j + 1) "many_in" (sp_many_in K n) := by
  exact cal_of (k := j) T.f_many_in sc_many_in (by intro vs H Q E h; repeat (first | (obtain ⟨rfl, _⟩ := h; rfl) | (obtain ⟨_, h⟩ := h))) fun f cdv A outer s H vs Q E hr h => ⟨t_many_in K n, PSs.nox (pss_one (ps_ret (pe_callB (cr_sum rfl) (by rfl) T.z_sum (by decide +kernel) (pa_cons (pe_lc (own := [("row", 1)]) (g := (gName 1)) (tt := tYes) rfl sc_many_in.nd (pi_seq (pv 0)) (blkOk_by (own := [("row", 1)]) (N := M_many_in) (sc := defScope s_many_in) (by decide +kernel)) (fun _ _ _ _ _ => (pg_name (i := 1) sc_many_in.nd rfl (by first | exact Or.inl rfl | exact Or.inr rfl))) (fun _ _ _ _ _ => pts_nil) (fun _ _ _ _ _ => (pe_f c_size_of hr (by omega) (pa_cons (pv 1) pa_nil)))) pa_nil)))), pure_many_in K n vs H Q E h⟩
theorem ok_size_of (T : Top K mg) : ∀ n : Nat, Cal P w K mg base (1 + 2 * n) "size_of" (sp_size_of K n)
  | 0 => cal_none T.f_size_of no_size_of
  | n + 1 => by
    have c_many_in : Cal P w K mg base (1 + 2 * n + 1) "many_in" (sp_many_in K n) := ok_many_in_of T (by omega) (ok_size_of T n)
    have c_blocks_ofT : Cal P w K mg base 1 "blocks_of" (sp_blocks_of K) := (ok_blocks_ofT T).imp (imp_blocks_of K)
    exact (cal_of (k := 1 + 2 * n + 1) T.f_size_of sc_size_of (by intro vs H Q E h; repeat (first | (obtain ⟨rfl, _⟩ := h; rfl) | (obtain ⟨_, h⟩ := h))) fun f cdv A outer s H vs Q E hr h => ⟨t_size_of K n, PSs.nox (pss_one (ps_ret (pe_op o_add pe_int (pe_callB (cr_sum rfl) (by rfl) T.z_sum (by decide +kernel) (pa_cons (pe_lc (own := [("block", 1)]) (g := (gName 1)) (tt := tYes) rfl sc_size_of.nd (pi_seq (pe_f c_blocks_ofT hr (by omega) (pa_cons (pv 0) pa_nil))) (blkOk_by (own := [("block", 1)]) (N := M_size_of) (sc := defScope s_size_of) (by decide +kernel)) (fun _ _ _ _ _ => (pg_name (i := 1) sc_size_of.nd rfl (by first | exact Or.inl rfl | exact Or.inr rfl))) (fun _ _ _ _ _ => pts_nil) (fun _ _ _ _ _ => (pe_f c_many_in hr (by omega) (pa_cons (pv 1) pa_nil)))) pa_nil))))), pure_size_of K n vs H Q E h⟩).mono (by omega)
theorem ok_many_in (T : Top K mg) (n : Nat) : Cal P w K mg base (1 + 2 * n + 1) "many_in" (sp_many_in K n) := ok_many_in_of T (by omega) (ok_size_of T n)
theorem ok_Program_many (T : Top K mg) : CalM P w K mg base 19 "Program" as_Program "many" (sp_Program_many K) := by
  obtain ⟨C, cc, hm, hi, h_names, h_told, h_block, h_many, h_kind⟩ := T.c_Program
  have c_many_in : Cal P w K mg base 18 "many_in" (sp_many_in K 8) := ok_many_in T 8
  exact calM_of (k := 18) cc h_many sc_Program_many (by intro vs H Q E h; repeat (first | (obtain ⟨rfl, _⟩ := h; rfl) | (obtain ⟨_, h⟩ := h))) fun f cdv A outer s H vs Q E hr h => ⟨t_Program_many K, PSs.nox (pss_one (ps_ret (pe_f c_many_in hr (by decide) (pa_cons (pe_fld (pv 0) rfl) pa_nil)))), pure_Program_many K vs H Q E h⟩
theorem ok_Program_kind (T : Top K mg) : CalM P w K mg base 1 "Program" as_Program "kind" (sp_Program_kind K) := by
  obtain ⟨C, cc, hm, hi, h_names, h_told, h_block, h_many, h_kind⟩ := T.c_Program
  exact calM_of (k := 0) cc h_kind sc_Program_kind (by intro vs H Q E h; repeat (first | (obtain ⟨rfl, _⟩ := h; rfl) | (obtain ⟨_, h⟩ := h))) fun f cdv A outer s H vs Q E hr h => ⟨t_Program_kind K, PSs.nox (pss_cons (ps_if (pt_cmpR o_in (pv 1) (pe_fld (pv 0) rfl) (by first | exact nomark _ | rfl)) (pss_one (ps_ret pe_str)) pss_nil) (pss_cons (ps_if (pt_cmpR o_in (pv 1) (pe_fld (pv 0) rfl) (by first | exact nomark _ | rfl)) (pss_one (ps_ret pe_str)) pss_nil) (pss_one (ps_ret pe_str)))), pure_Program_kind K vs H Q E h⟩
theorem ok_law_whole (T : Top K mg) : Cal P w K mg base 1 "_law_whole" (sp_law_whole K) := by
  exact cal_of (k := 0) T.f_law_whole sc_law_whole (by intro vs H Q E h; repeat (first | (obtain ⟨rfl, _⟩ := h; rfl) | (obtain ⟨_, h⟩ := h))) fun f cdv A outer s H vs Q E hr h => ⟨t_law_whole K, PSs.nox (pss_one (ps_ret (pe_and (pe_callB o_isi (by rfl) T.z_isinstance (by decide +kernel) (pa_cons (pv 0) (pa_cons (pe_bltn (by rfl) T.z_int (by decide +kernel) rfl) pa_nil))) (pe_one (pe_not (pe_callB o_isi (by rfl) T.z_isinstance (by decide +kernel) (pa_cons (pv 0) (pa_cons (pe_bltn (by rfl) T.z_bool (by decide +kernel) rfl) pa_nil)))))))), pure_law_whole K vs H Q E h⟩
theorem ok_law_manyT (T : Top K mg) : ∀ n : Nat, Cal P w K mg base (1 + n) "_law_many" (sp_law_manyT K n)
  | 0 => cal_none T.f_law_manyT no_law_manyT
  | n + 1 => by
    have c_law_manyT : Cal P w K mg base (1 + n) "_law_many" (sp_law_manyT K n) := ok_law_manyT T n
    have c_law_blocksT : Cal P w K mg base 1 "_law_blocks" (sp_law_blocksT K) := ok_law_blocksT T
    exact cal_of (k := 1 + n) T.f_law_manyT sc_law_manyT (by intro vs H Q E h; repeat (first | (obtain ⟨rfl, _⟩ := h; rfl) | (obtain ⟨_, h⟩ := h))) fun f cdv A outer s H vs Q E hr h => ⟨t_law_manyT K n, PSs.nox (pss_one (ps_ret (pe_callB (cr_sum rfl) (by rfl) T.z_sum (by decide +kernel) (pa_cons (pe_lc (own := [("_law_row", 1)]) (g := (gName 1)) (tt := tYes) rfl sc_law_manyT.nd (pi_seq (pv 0)) (blkOk_by (own := [("_law_row", 1)]) (N := M_law_manyT) (sc := defScope s_law_manyT) (by decide +kernel)) (fun _ _ _ _ _ => (pg_name (i := 1) sc_law_manyT.nd rfl (by first | exact Or.inl rfl | exact Or.inr rfl))) (fun _ _ _ _ _ => pts_nil) (fun _ _ _ _ _ => (pe_op o_add pe_int (pe_callB (cr_sum rfl) (by rfl) T.z_sum (by decide +kernel) (pa_cons (pe_lc (own := [("_law_inner", 2)]) (g := (gName 2)) (tt := tYes) rfl sc_law_manyT.nd (pi_seq (pe_f c_law_blocksT hr (by omega) (pa_cons (pv 1) pa_nil))) (blkOk_by (own := [("_law_inner", 2)]) (N := M_law_manyT) (by rfl)) (fun _ _ _ _ _ => (pg_name (i := 2) sc_law_manyT.nd rfl (by first | exact Or.inl rfl | exact Or.inr rfl))) (fun _ _ _ _ _ => pts_nil) (fun _ _ _ _ _ => (pe_f c_law_manyT hr (by omega) (pa_cons (pv 2) pa_nil)))) pa_nil))))) pa_nil)))), pure_law_manyT K n vs H Q E h⟩
theorem ok_law_askedT (T : Top K mg) : Cal P w K mg base 30 "_law_asked" (sp_law_askedT K) := by
  have c_law_block_namesT : Cal P w K mg base 27 "_law_block_names" (sp_law_block_namesT K 9) := ok_law_block_namesT T 9
  have c_Program_names : CalM P w K mg base 29 "Program" as_Program "names" (sp_Program_names K) := ok_Program_names T
  have c_Program_told : CalM P w K mg base 1 "Program" as_Program "told" (sp_Program_told K) := ok_Program_told T
  have c_Program_block : CalM P w K mg base 1 "Program" as_Program "block" (sp_Program_block K) := ok_Program_block T
  have c_Program_many : CalM P w K mg base 19 "Program" as_Program "many" (sp_Program_many K) := ok_Program_many T
  have c_Program_kind : CalM P w K mg base 1 "Program" as_Program "kind" (sp_Program_kind K) := ok_Program_kind T
  have c_law_whole : Cal P w K mg base 1 "_law_whole" (sp_law_whole K) := ok_law_whole T
  have c_law_manyT : Cal P w K mg base 10 "_law_many" (sp_law_manyT K 9) := ok_law_manyT T 9
  exact cal_of (k := 29) T.f_law_askedT sc_law_askedT (by intro vs H Q E h; repeat (first | (obtain ⟨rfl, _⟩ := h; rfl) | (obtain ⟨_, h⟩ := h))) fun f cdv A outer s H vs Q E hr h => ⟨t_law_askedT K, PSs.nox (pss_cons (ps_set (i := 5) sc_law_askedT.nd rfl (by first | exact Or.inl rfl | exact Or.inr rfl) (pe_sortSet rfl (by rfl) T.z_sorted (by rfl) T.z_set (pe_op o_add (pe_op o_add (pe_ix ix_seq (pv 2) pe_int (fun _ _ => rfl)) (pe_ix ix_seq (pv 2) pe_int (fun _ _ => rfl))) (pe_f c_law_block_namesT hr (by decide) (pa_cons (pv 3) pa_nil))))) (pss_cons (ps_set (i := 6) sc_law_askedT.nd rfl (by first | exact Or.inl rfl | exact Or.inr rfl) (pe_lst (pa_cons pe_non (pa_cons pe_non (pa_cons pe_non (pa_cons pe_non (pa_cons pe_non pa_nil))))))) (pss_cons (ps_for PassesOwn.never rfl (pi_range1 (by rfl) T.z_range (pa_cons pe_int pa_nil)) (pg_name (i := 7) sc_law_askedT.nd rfl (by first | exact Or.inl rfl | exact Or.inr rfl)) (pss_cons (ps_set (i := 8) sc_law_askedT.nd rfl (by first | exact Or.inl rfl | exact Or.inr rfl) (pe_op o_mod (pe_op o_add (pv 4) (pe_op o_mul (pv 7) (pe_op o_add pe_int (pe_op o_mod (pe_op o_div (pv 4) pe_int) pe_int)))) pe_int)) (pss_one (ps_if (pt_cmpR (o_eq hr.units) (pv 8) pe_int (by first | exact nomark _ | rfl)) (pss_one (ps_asg (pe_m0 c_Program_names hr (by decide) (pv 0)) (pg_sub (pv 6) pe_int set_list))) (pss_one (ps_if (pt_cmpR (o_eq hr.units) (pv 8) pe_int (by first | exact nomark _ | rfl)) (pss_one (ps_asg (pe_m0 c_Program_told hr (by decide) (pv 0)) (pg_sub (pv 6) pe_int set_list))) (pss_one (ps_if (pt_cmpR (o_eq hr.units) (pv 8) pe_int (by first | exact nomark _ | rfl)) (pss_one (ps_asg (pe_m0 c_Program_block hr (by decide) (pv 0)) (pg_sub (pv 6) pe_int set_list))) (pss_one (ps_if (pt_cmpR (o_eq hr.units) (pv 8) pe_int (by first | exact nomark _ | rfl)) (pss_one (ps_asg (pe_m0 c_Program_many hr (by decide) (pv 0)) (pg_sub (pv 6) pe_int set_list))) (pss_one (ps_asg (pe_lc (own := [("_law_name", 9)]) (g := (gName 9)) (tt := tYes) rfl sc_law_askedT.nd (pi_seq (pe_op o_add (pe_op o_add (pe_ix ix_seq (pv 2) pe_int (fun _ _ => rfl)) (pe_ix ix_seq (pv 2) pe_int (fun _ _ => rfl))) (pe_slice o_sl (pv 1) (po_some pe_int) po_none))) (blkOk_by (own := [("_law_name", 9)]) (N := M_law_askedT) (sc := defScope s_law_askedT) (by decide +kernel)) (fun _ _ _ _ _ => (pg_name (i := 9) sc_law_askedT.nd rfl (by first | exact Or.inl rfl | exact Or.inr rfl))) (fun _ _ _ _ _ => pts_nil) (fun _ _ _ _ _ => (pe_m c_Program_kind hr (by decide) (pv 0) (pa_cons (pv 9) pa_nil)))) (pg_sub (pv 6) pe_int set_list))))))))))))) (pss_cons (ps_if (PW.pt (pw_or (pt_not (pt_val (pe_callB o_isi (by rfl) T.z_isinstance (by decide +kernel) (pa_cons (pe_ix ix_seq (pv 6) pe_int (fun _ _ => rfl)) (pa_cons (pe_bltn (by rfl) T.z_list (by decide +kernel) rfl) pa_nil))))) (pw_or (pt_cmpR (o_ne hr.units) (pe_ix ix_seq (pv 6) pe_int (fun _ _ => rfl)) (pv 5) (by first | exact nomark _ | rfl)) (pw_or1 (pt_not (pt_val (pe_callB o_isi (by rfl) T.z_isinstance (by decide +kernel) (pa_cons (pe_ix ix_seq (pv 6) pe_int (fun _ _ => rfl)) (pa_cons (pe_bltn (by rfl) T.z_tuple (by decide +kernel) rfl) pa_nil))))))))) (pss_one (ps_ret pe_bl)) pss_nil) (pss_cons (ps_if (PW.pt (pw_or (pt_cmpR (o_ne hr.units) (pe_ix ix_seq (pv 6) pe_int (fun _ _ => rfl)) (pe_tup (pa_cons (pe_ix ix_seq (pv 2) pe_int (fun _ _ => rfl)) (pa_cons (pe_ix ix_seq (pv 2) pe_int (fun _ _ => rfl)) pa_nil))) (by first | exact nomark _ | rfl)) (pw_or (pt_not (pt_val (pe_callB o_isi (by rfl) T.z_isinstance (by decide +kernel) (pa_cons (pe_ix ix_seq (pv 6) pe_int (fun _ _ => rfl)) (pa_cons (pe_bltn (by rfl) T.z_tuple (by decide +kernel) rfl) pa_nil))))) (pw_or1 (pt_cmpR (o_ne hr.units) (pe_ix ix_seq (pv 6) pe_int (fun _ _ => rfl)) (pv 3) (by first | exact nomark _ | rfl)))))) (pss_one (ps_ret pe_bl)) pss_nil) (pss_cons (ps_set (i := 10) sc_law_askedT.nd rfl (by first | exact Or.inl rfl | exact Or.inr rfl) (pe_lst (pa_cons (pe_op o_add (pe_lst (pa_cons pe_str pa_nil)) (pe_ix ix_seq (pv 6) pe_int (fun _ _ => rfl))) (pa_cons (pe_op o_add (pe_lst (pa_cons pe_str pa_nil)) (pe_ix ix_seq (pe_ix ix_seq (pv 6) pe_int (fun _ _ => rfl)) pe_int (fun _ _ => rfl))) (pa_cons (pe_op o_add (pe_lst (pa_cons pe_str pa_nil)) (pe_ix ix_seq (pe_ix ix_seq (pv 6) pe_int (fun _ _ => rfl)) pe_int (fun _ _ => rfl))) pa_nil))))) (pss_cons (ps_for PassesOwn.never rfl (pi_seq (pe_lst (pa_cons (pe_ix ix_seq (pv 6) pe_int (fun _ _ => rfl)) (pa_cons (pe_ix ix_seq (pe_ix ix_seq (pv 6) pe_int (fun _ _ => rfl)) pe_int (fun _ _ => rfl)) (pa_cons (pe_ix ix_seq (pe_ix ix_seq (pv 6) pe_int (fun _ _ => rfl)) pe_int (fun _ _ => rfl)) pa_nil))))) (pg_name (i := 11) sc_law_askedT.nd rfl (by first | exact Or.inl rfl | exact Or.inr rfl)) (pss_one (ps_expr (pe_bm PySem.F.plainAttrs_list PySem.F.slot_list_insert PySem.F.type_list_insert mt_insert (pv 11) (pa_cons pe_int (pa_cons pe_str pa_nil)))))) (pss_cons (ps_set (i := 12) sc_law_askedT.nd rfl (by first | exact Or.inl rfl | exact Or.inr rfl) (pe_op o_add (pe_op o_mul (pe_lst (pa_cons pe_str pa_nil)) (pe_callB o_len (by rfl) T.z_len (by decide +kernel) (pa_cons (pe_ix ix_seq (pv 2) pe_int (fun _ _ => rfl)) pa_nil))) (pe_op o_mul (pe_lst (pa_cons pe_str pa_nil)) (pe_callB o_len (by rfl) T.z_len (by decide +kernel) (pa_cons (pe_ix ix_seq (pv 2) pe_int (fun _ _ => rfl)) pa_nil))))) (pss_cons (ps_if (pt_cmpR (o_ne hr.units) (pe_ix ix_seq (pv 6) pe_int (fun _ _ => rfl)) (pe_op o_add (pv 12) (pe_op o_mul (pe_lst (pa_cons pe_str pa_nil)) (pe_callB o_len (by rfl) T.z_len (by decide +kernel) (pa_cons (pe_slice o_sl (pv 1) (po_some pe_int) po_none) pa_nil)))) (by first | exact nomark _ | rfl)) (pss_one (ps_ret pe_bl)) pss_nil) (pss_cons (ps_if (PW.pt (pw_or (pt_not (pt_val (pe_f c_law_whole hr (by decide) (pa_cons (pe_ix ix_seq (pv 6) pe_int (fun _ _ => rfl)) pa_nil)))) (pw_or1 (pt_cmpR (o_ne hr.units) (pe_ix ix_seq (pv 6) pe_int (fun _ _ => rfl)) (pe_f c_law_manyT hr (by decide) (pa_cons (pv 3) pa_nil)) (by first | exact nomark _ | rfl))))) (pss_one (ps_ret pe_bl)) pss_nil) (pss_cons (ps_if (PW.pt (pw_or (pt_cmpR (o_ne hr.units) (pe_m0 c_Program_names hr (by decide) (pv 0)) (pv 5) (by first | exact nomark _ | rfl)) (pw_or1 (pt_cmpR (o_ne hr.units) (pe_m0 c_Program_told hr (by decide) (pv 0)) (pe_tup (pa_cons (pe_ix ix_seq (pv 2) pe_int (fun _ _ => rfl)) (pa_cons (pe_ix ix_seq (pv 2) pe_int (fun _ _ => rfl)) pa_nil))) (by first | exact nomark _ | rfl))))) (pss_one (ps_ret pe_bl)) pss_nil) (pss_one (ps_ret (pe_cmpR (o_eq hr.units) (pe_lst (pa_cons (pe_ix ix_seq (pv 6) pe_int (fun _ _ => rfl)) (pa_cons (pe_ix ix_seq (pe_ix ix_seq (pv 6) pe_int (fun _ _ => rfl)) pe_int (fun _ _ => rfl)) (pa_cons (pe_ix ix_seq (pe_ix ix_seq (pv 6) pe_int (fun _ _ => rfl)) pe_int (fun _ _ => rfl)) pa_nil)))) (pv 10) (by first | exact nomark _ | rfl))))))))))))))), pure_law_askedT K vs H Q E h⟩
theorem ok_law_changedT (T : Top K mg) : ∀ n : Nat, Cal P w K mg base (0 + n) "_law_changed" (sp_law_changedT K n)
  | 0 => cal_none T.f_law_changedT no_law_changedT
  | n + 1 => by
    have c_law_changedT : Cal P w K mg base (0 + n) "_law_changed" (sp_law_changedT K n) := ok_law_changedT T n
    exact cal_of (k := 0 + n) T.f_law_changedT sc_law_changedT (by intro vs H Q E h; repeat (first | (obtain ⟨rfl, _⟩ := h; rfl) | (obtain ⟨_, h⟩ := h))) fun f cdv A outer s H vs Q E hr h => ⟨t_law_changedT K n, PSs.nox (pss_cons (ps_for PassesOwn.never rfl (pi_seq (pv 0)) (pg_name (i := 1) sc_law_changedT.nd rfl (by first | exact Or.inl rfl | exact Or.inr rfl)) (pss_one (ps_for PassesOwn.never rfl (pi_seq (pe_slice o_sl (pv 1) (po_some pe_int) po_none)) (pg_name (i := 2) sc_law_changedT.nd rfl (by first | exact Or.inl rfl | exact Or.inr rfl)) (pss_one (ps_if (pt_val (pe_callB o_isi (by rfl) T.z_isinstance (by decide +kernel) (pa_cons (pv 2) (pa_cons (pe_bltn (by rfl) T.z_list (by decide +kernel) rfl) pa_nil)))) (pss_one (ps_expr (pe_f c_law_changedT hr (by omega) (pa_cons (pv 2) pa_nil)))) pss_nil))))) (pss_one (ps_expr (pe_bm PySem.F.plainAttrs_list PySem.F.slot_list_append PySem.F.type_list_append mt_append (pv 0) (pa_cons (pe_tup (pa_cons pe_str pa_nil)) pa_nil))))), pure_law_changedT K n vs H Q E h⟩
theorem ok_law {fa : Addr} {fd : FuncData} (T : Top K mg) (F : Fun K "law" "law" s_k05 fa fd) : FnOk P w K mg base CX0 41 fa fd ["_law_script"] (sp_k05 K) := by
  have c_law_names : Cal P w K mg base 3 "_law_names" (sp_law_names K) := ok_law_names T
  have c_law_cell_at : Cal P w K mg base 1 "_law_cell_at" (sp_law_cell_at K) := ok_law_cell_at T
  have c_law_block_by : Cal P w K mg base 21 "_law_block_by" (sp_law_block_by K) := ok_law_block_by T
  have c_law_mixed : Cal P w K mg base 1 "_law_mixed" (sp_law_mixed K) := ok_law_mixed T
  have c_law_wrongT : Cal P w K mg base 40 "_law_wrong" (sp_law_wrongT K) := ok_law_wrongT T
  have c_law_handedT : Cal P w K mg base 9 "_law_handed" (sp_law_handedT K 9) := ok_law_handedT T 9
  have c_Program___init__T : CalCX P w K mg base 37 "Program" as_Program (sp_Program___init__T K) := ok_Program___init__T T
  have c_law_askedT : Cal P w K mg base 30 "_law_asked" (sp_law_askedT K) := ok_law_askedT T
  have c_law_changedT : Cal P w K mg base 9 "_law_changed" (sp_law_changedT K 9) := ok_law_changedT T 9
  exact F.ok sc_k05 (by intro vs H Q E h; repeat (first | (obtain ⟨rfl, _⟩ := h; rfl) | (obtain ⟨_, h⟩ := h))) fun cdv A outer s H vs Q E hr h => ⟨t_k05 K, PSs.nox (pss_cons (ps_set (i := 1) sc_k05.nd rfl (by first | exact Or.inl rfl | exact Or.inr rfl) (pe_f c_law_names hr (by decide) (pa_cons (pe_f c_law_cell_at hr (by decide) (pa_cons (pv 0) (pa_cons pe_int pa_nil))) (pa_cons (pe_f c_law_cell_at hr (by decide) (pa_cons (pv 0) (pa_cons pe_int pa_nil))) pa_nil)))) (pss_cons (ps_set (i := 2) sc_k05.nd rfl (by first | exact Or.inl rfl | exact Or.inr rfl) (pe_callTy o_tuple (by rfl) T.z_tuple (by decide +kernel) (pa_cons (pe_f c_law_block_by hr (by decide) (pa_cons (pe_slice o_sl (pv 0) (po_some pe_int) (po_some pe_int)) (pa_cons (pv 1) (pa_cons pe_int pa_nil)))) pa_nil))) (pss_cons (ps_set (i := 3) sc_k05.nd rfl (by first | exact Or.inl rfl | exact Or.inr rfl) (pe_f c_law_cell_at hr (by decide) (pa_cons (pv 0) (pa_cons pe_int pa_nil)))) (pss_cons (ps_set (i := 4) sc_k05.nd rfl (by first | exact Or.inl rfl | exact Or.inr rfl) (pe_f c_law_mixed hr (by decide) (pa_cons (pe_op o_add (pe_op o_div (pv 3) pe_int) (pe_op o_mul pe_int (pe_op o_mod (pe_f c_law_cell_at hr (by decide) (pa_cons (pv 0) (pa_cons pe_int pa_nil))) (pe_op o_pow pe_int pe_int)))) pa_nil))) (pss_cons (ps_if (pt_cmpR o_gt (pe_op o_mod (pv 3) pe_int) pe_int (by first | exact nomark _ | rfl)) (pss_one (ps_ret (pe_f c_law_wrongT hr (by decide) (pa_cons (pv 1) (pa_cons (pv 2) (pa_cons (pe_f c_law_mixed hr (by decide) (pa_cons (pv 4) pa_nil)) pa_nil)))))) pss_nil) (pss_cons (ps_set (i := 5) sc_k05.nd rfl (by first | exact Or.inl rfl | exact Or.inr rfl) (pe_f c_law_handedT hr (by decide) (pa_cons (pv 2) (pa_cons (pe_op o_mod (pv 4) pe_int) pa_nil)))) (pss_cons (ps_set (i := 6) sc_k05.nd rfl (by first | exact Or.inl rfl | exact Or.inr rfl) (pe_lst (pa_cons (pe_slice o_sl (pv 1) po_none (po_some pe_int)) (pa_cons (pe_slice o_sl (pv 1) (po_some pe_int) (po_some pe_int)) pa_nil)))) (pss_cons (ps_if (pt_cmpR (o_eq hr.units) (pe_op o_mod (pe_op o_div (pv 4) pe_int) pe_int) pe_int (by first | exact nomark _ | rfl)) (pss_cons (ps_set (i := 7) sc_k05.nd rfl (by first | exact Or.inl rfl | exact Or.inr rfl) (pe_lc (own := [("_law_k", 8)]) (g := (gName 8)) (tt := tYes) rfl sc_k05.nd (pi_range1 (by rfl) T.z_range (pa_cons pe_int pa_nil)) (blkOk_by (own := [("_law_k", 8)]) (N := M_k05) (sc := defScope s_k05) (by decide +kernel)) (fun _ _ _ _ _ => (pg_name (i := 8) sc_k05.nd rfl (by first | exact Or.inl rfl | exact Or.inr rfl))) (fun _ _ _ _ _ => pts_nil) (fun _ _ _ _ _ => (pe_lc (own := [("_law_j", 9)]) (g := (gName 9)) (tt := tYes) rfl sc_k05.nd (pi_range1 (by rfl) T.z_range (pa_cons (pe_op o_mod (pe_op o_div (pv 4) pe_int) pe_int) pa_nil)) (blkOk_by (own := [("_law_j", 9)]) (N := M_k05) (by rfl)) (fun _ _ _ _ _ => (pg_name (i := 9) sc_k05.nd rfl (by first | exact Or.inl rfl | exact Or.inr rfl))) (fun _ _ _ _ _ => pts_nil) (fun _ _ _ _ _ => (pe_op o_add (pe_op o_add pe_str (pe_callTy o_str (by rfl) T.z_str (by decide +kernel) (pa_cons (pv 8) pa_nil))) (pe_callTy o_str (by rfl) T.z_str (by decide +kernel) (pa_cons (pv 9) pa_nil)))))))) (pss_one (ps_set (i := 6) sc_k05.nd rfl (by first | exact Or.inl rfl | exact Or.inr rfl) (pe_lc (own := [("_law_k", 8)]) (g := (gName 8)) (tt := tYes) rfl sc_k05.nd (pi_range1 (by rfl) T.z_range (pa_cons pe_int pa_nil)) (blkOk_by (own := [("_law_k", 8)]) (N := M_k05) (sc := defScope s_k05) (by decide +kernel)) (fun _ _ _ _ _ => (pg_name (i := 8) sc_k05.nd rfl (by first | exact Or.inl rfl | exact Or.inr rfl))) (fun _ _ _ _ _ => pts_nil) (fun _ _ _ _ _ => (pe_op o_add (pe_ix ix_seq (pv 6) (pv 8) (fun _ _ => rfl)) (pe_lc (own := [("_law_name", 10)]) (g := (gName 10)) (tt := (tTest (tOp (rIn2 K true) (tVar 10) (tVar 1)))) rfl sc_k05.nd (pi_seq (pe_ix ix_seq (pv 7) (pv 8) (fun _ _ => rfl))) (blkOk_by (own := [("_law_name", 10)]) (N := M_k05) (by rfl)) (fun _ _ _ _ _ => (pg_name (i := 10) sc_k05.nd rfl (by first | exact Or.inl rfl | exact Or.inr rfl))) (fun _ _ _ _ _ => (pts_one (pt_cmpR o_nin (pv 10) (pv 1) (by first | exact nomark _ | rfl)))) (fun _ _ _ _ _ => (pv 10))))))))) pss_nil) (pss_cons (ps_set (i := 11) sc_k05.nd rfl (by first | exact Or.inl rfl | exact Or.inr rfl) (pe_ix ix_seq (pe_lst (pa_cons (pe_callTy (o_list rfl) (by rfl) T.z_list (by decide +kernel) (pa_cons (pe_ix ix_seq (pv 6) pe_int (fun _ _ => rfl)) pa_nil)) (pa_cons (pe_callTy o_tuple (by rfl) T.z_tuple (by decide +kernel) (pa_cons (pe_ix ix_seq (pv 6) pe_int (fun _ _ => rfl)) pa_nil)) pa_nil))) (pe_op o_mod (pe_op o_div (pv 4) pe_int) pe_int) (fun _ _ => rfl))) (pss_cons (ps_set (i := 12) sc_k05.nd rfl (by first | exact Or.inl rfl | exact Or.inr rfl) (pe_ix ix_seq (pe_lst (pa_cons (pe_callTy (o_list rfl) (by rfl) T.z_list (by decide +kernel) (pa_cons (pe_ix ix_seq (pv 6) pe_int (fun _ _ => rfl)) pa_nil)) (pa_cons (pe_callTy o_tuple (by rfl) T.z_tuple (by decide +kernel) (pa_cons (pe_ix ix_seq (pv 6) pe_int (fun _ _ => rfl)) pa_nil)) pa_nil))) (pe_op o_mod (pe_op o_div (pv 4) pe_int) pe_int) (fun _ _ => rfl))) (pss_cons (ps_set (i := 13) sc_k05.nd rfl (by first | exact Or.inl rfl | exact Or.inr rfl) (pe_cX c_Program___init__T hr (by decide) takesNo rfl (pa_cons (pv 11) (pa_cons (pv 12) (pa_cons (pv 5) pa_nil))))) (pss_cons (ps_if (pt_not (pt_val (pe_f c_law_askedT hr (by decide) (pa_cons (pv 13) (pa_cons (pv 1) (pa_cons (pv 6) (pa_cons (pv 2) (pa_cons (pe_op o_div (pv 4) pe_int) pa_nil)))))))) (pss_one (ps_ret pe_bl)) pss_nil) (pss_cons (ps_if (pt_val (pe_callB o_isi (by rfl) T.z_isinstance (by decide +kernel) (pa_cons (pv 5) (pa_cons (pe_bltn (by rfl) T.z_list (by decide +kernel) rfl) pa_nil)))) (pss_one (ps_expr (pe_f c_law_changedT hr (by decide) (pa_cons (pv 5) pa_nil)))) pss_nil) (pss_cons (ps_if (pt_val (pe_callB o_isi (by rfl) T.z_isinstance (by decide +kernel) (pa_cons (pv 11) (pa_cons (pe_bltn (by rfl) T.z_list (by decide +kernel) rfl) pa_nil)))) (pss_one (ps_expr (pe_bm PySem.F.plainAttrs_list PySem.F.slot_list_append PySem.F.type_list_append mt_append (pv 11) (pa_cons (pe_ix ix_seq (pv 1) pe_int (fun _ _ => rfl)) pa_nil)))) pss_nil) (pss_cons (ps_if (pt_val (pe_callB o_isi (by rfl) T.z_isinstance (by decide +kernel) (pa_cons (pv 12) (pa_cons (pe_bltn (by rfl) T.z_list (by decide +kernel) rfl) pa_nil)))) (pss_one (ps_expr (pe_bm0 PySem.F.plainAttrs_list PySem.F.slot_list_clear PySem.F.type_list_clear mt_clear (pv 12)))) pss_nil) (pss_one (ps_ret (pe_f c_law_askedT hr (by decide) (pa_cons (pv 13) (pa_cons (pv 1) (pa_cons (pv 6) (pa_cons (pv 2) (pa_cons (pe_op o_div (pv 4) pe_int) pa_nil))))))))))))))))))))))), pure_k05 K vs H Q E h⟩
end
theorem all_mk {P : Program} {w : World} {K : PySem.W.Frag} {h : Heap} {mg : Str → Option Value} {fa : Addr} (X : K.In h) (G : h.Ns mainGlobals mg) (hfa : mg "law" = some (.ref fa))
    {f0 f1 f2 f3 f4 f5 f6 f7 f8 f9 f10 f11 f12 f13 f14 f15 f16 f17 f18 f19 f20 f21 f22 f23 f24 f25 f26 f27 f28 f29 f30 f31 f32 f33 f34 f35 f36 f37 f38 f39 f40 f41 f42 f43 f44 f45 f46 f47 f48 f49 f50 : Addr} {od0 an0 od1 an1 od2 an2 od3 an3 od4 an4 od5 an5 od6 an6 od7 an7 od8 an8 od9 an9 od10 an10 od11 an11 od12 an12 od13 an13 od14 an14 od15 an15 od16 an16 od17 an17 od18 an18 od19 an19 od20 an20 od21 an21 od22 an22 od23 an23 od24 an24 od25 an25 od26 an26 od27 an27 od28 an28 od29 an29 od30 an30 od31 an31 od32 an32 od33 an33 od34 an34 od35 an35 od36 an36 od37 an37 od38 an38 od39 an39 od40 an40 od41 an41 od42 an42 od43 an43 od44 an44 od45 an45 od46 an46 od47 an47 od48 an48 od49 an49 od50 an50 : Option Addr} {sl0 sl1 sl2 sl3 sl4 sl5 sl6 sl7 sl8 sl9 sl10 sl11 sl12 sl13 sl14 sl15 sl16 sl17 sl18 sl19 sl20 sl21 sl22 sl23 sl24 sl25 sl26 sl27 sl28 sl29 sl30 sl31 sl32 sl33 sl34 sl35 sl36 sl37 sl38 sl39 sl40 sl41 sl42 sl43 sl44 sl45 sl46 sl47 sl48 sl49 sl50 : Array (Option Value)} {oc0 kV0 dc0 pm0 cd0 ct0 oc1 kV1 dc1 pm1 cd1 ct1 oc2 kV2 dc2 pm2 cd2 ct2 oc3 kV3 dc3 pm3 cd3 ct3 oc4 kV4 dc4 pm4 cd4 ct4 oc5 kV5 dc5 pm5 cd5 ct5 oc6 kV6 dc6 pm6 cd6 ct6 oc7 kV7 dc7 pm7 cd7 ct7 oc8 kV8 dc8 pm8 cd8 ct8 oc9 kV9 dc9 pm9 cd9 ct9 oc10 kV10 dc10 pm10 cd10 ct10 oc11 kV11 dc11 pm11 cd11 ct11 oc12 kV12 dc12 pm12 cd12 ct12 oc13 kV13 dc13 pm13 cd13 ct13 oc14 kV14 dc14 pm14 cd14 ct14 oc15 kV15 dc15 pm15 cd15 ct15 oc16 kV16 dc16 pm16 cd16 ct16 oc17 kV17 dc17 pm17 cd17 ct17 oc18 kV18 dc18 pm18 cd18 ct18 oc19 kV19 dc19 pm19 cd19 ct19 oc20 kV20 dc20 pm20 cd20 ct20 oc21 kV21 dc21 pm21 cd21 ct21 oc22 kV22 dc22 pm22 cd22 ct22 oc23 kV23 dc23 pm23 cd23 ct23 oc24 kV24 dc24 pm24 cd24 ct24 oc25 kV25 dc25 pm25 cd25 ct25 oc26 kV26 dc26 pm26 cd26 ct26 oc27 kV27 dc27 pm27 cd27 ct27 oc28 kV28 dc28 pm28 cd28 ct28 oc29 kV29 dc29 pm29 cd29 ct29 oc30 kV30 dc30 pm30 cd30 ct30 oc31 kV31 dc31 pm31 cd31 ct31 oc32 kV32 dc32 pm32 cd32 ct32 oc33 kV33 dc33 pm33 cd33 ct33 oc34 kV34 dc34 pm34 cd34 ct34 oc35 kV35 dc35 pm35 cd35 ct35 oc36 kV36 dc36 pm36 cd36 ct36 oc37 kV37 dc37 pm37 cd37 ct37 oc38 kV38 dc38 pm38 cd38 ct38 oc39 kV39 dc39 pm39 cd39 ct39 oc40 kV40 dc40 pm40 cd40 ct40 oc41 kV41 dc41 pm41 cd41 ct41 oc42 kV42 dc42 pm42 cd42 ct42 oc43 kV43 dc43 pm43 cd43 ct43 oc44 kV44 dc44 pm44 cd44 ct44 oc45 kV45 dc45 pm45 cd45 ct45 oc46 kV46 dc46 pm46 cd46 ct46 oc47 kV47 dc47 pm47 cd47 ct47 oc48 kV48 dc48 pm48 cd48 ct48 oc49 kV49 dc49 pm49 cd49 ct49 oc50 kV50 dc50 pm50 cd50 ct50 : Value}
    {C_Program : Addr}
    (aC_Program : PySem.W.nsIn K mainGlobals "Program" = some (some (.ref C_Program))) (pg_Program : PySem.W.plainGet K C_Program Str.empty = true) (hd_Program : PySem.W.hasDictIn K C_Program = true) (po_Program : PySem.W.plainOver K C_Program = true) (sa_Program : PySem.W.findIn K (.ref C_Program) "__setattr__" = some (some (.builtin "object.__setattr__"))) (mk_Program : PySem.W.makesIn K C_Program = true) (kc_Program : PySem.W.keepIn K (.ref C_Program) = true)
    (n_Program_opened : PySem.W.findIn K (.ref C_Program) "opened" = some none)
    (n_Program_hidden : PySem.W.findIn K (.ref C_Program) "hidden" = some none)
    (n_Program_inner : PySem.W.findIn K (.ref C_Program) "inner" = some none)
    (a0 : PySem.W.nsIn K mainGlobals "_law_mixed" = some (some (.ref f0))) (l0 : K.lookup f0 = some ⟨oc0, od0, .func (PySem.W.fnOf "_law_mixed" "_law_mixed" (defArgs s_law_mixed) (defBody s_law_mixed) (defScope s_law_mixed) .none kV0 dc0 pm0 an0 cd0 ct0), sl0⟩) (c0 : PySem.W.codeIn K cd0 "_law_mixed" = true) (k0 : PySem.W.keepIn K (.ref f0) = true)
    (a1 : PySem.W.nsIn K mainGlobals "_law_name_by" = some (some (.ref f1))) (l1 : K.lookup f1 = some ⟨oc1, od1, .func (PySem.W.fnOf "_law_name_by" "_law_name_by" (defArgs s_law_name_by) (defBody s_law_name_by) (defScope s_law_name_by) .none kV1 dc1 pm1 an1 cd1 ct1), sl1⟩) (c1 : PySem.W.codeIn K cd1 "_law_name_by" = true) (k1 : PySem.W.keepIn K (.ref f1) = true)
    (a2 : PySem.W.nsIn K mainGlobals "_law_twin" = some (some (.ref f2))) (l2 : K.lookup f2 = some ⟨oc2, od2, .func (PySem.W.fnOf "_law_twin" "_law_twin" (defArgs s_law_twin) (defBody s_law_twin) (defScope s_law_twin) .none kV2 dc2 pm2 an2 cd2 ct2), sl2⟩) (c2 : PySem.W.codeIn K cd2 "_law_twin" = true) (k2 : PySem.W.keepIn K (.ref f2) = true)
    (a3 : PySem.W.nsIn K mainGlobals "_law_names" = some (some (.ref f3))) (l3 : K.lookup f3 = some ⟨oc3, od3, .func (PySem.W.fnOf "_law_names" "_law_names" (defArgs s_law_names) (defBody s_law_names) (defScope s_law_names) .none kV3 dc3 pm3 an3 cd3 ct3), sl3⟩) (c3 : PySem.W.codeIn K cd3 "_law_names" = true) (k3 : PySem.W.keepIn K (.ref f3) = true)
    (a4 : PySem.W.nsIn K mainGlobals "_law_cell_at" = some (some (.ref f4))) (l4 : K.lookup f4 = some ⟨oc4, od4, .func (PySem.W.fnOf "_law_cell_at" "_law_cell_at" (defArgs s_law_cell_at) (defBody s_law_cell_at) (defScope s_law_cell_at) .none kV4 dc4 pm4 an4 cd4 ct4), sl4⟩) (c4 : PySem.W.codeIn K cd4 "_law_cell_at" = true) (k4 : PySem.W.keepIn K (.ref f4) = true)
    (a5 : PySem.W.nsIn K mainGlobals "_law_end_by" = some (some (.ref f5))) (l5 : K.lookup f5 = some ⟨oc5, od5, .func (PySem.W.fnOf "_law_end_by" "_law_end_by" (defArgs s_law_end_by) (defBody s_law_end_by) (defScope s_law_end_by) .none kV5 dc5 pm5 an5 cd5 ct5), sl5⟩) (c5 : PySem.W.codeIn K cd5 "_law_end_by" = true) (k5 : PySem.W.keepIn K (.ref f5) = true)
    (a6 : PySem.W.nsIn K mainGlobals "_law_formula_by" = some (some (.ref f6))) (l6 : K.lookup f6 = some ⟨oc6, od6, .func (PySem.W.fnOf "_law_formula_by" "_law_formula_by" (defArgs s_law_formula_by) (defBody s_law_formula_by) (defScope s_law_formula_by) .none kV6 dc6 pm6 an6 cd6 ct6), sl6⟩) (c6 : PySem.W.codeIn K cd6 "_law_formula_by" = true) (k6 : PySem.W.keepIn K (.ref f6) = true)
    (a7 : PySem.W.nsIn K mainGlobals "_law_all_names" = some (some (.ref f7))) (l7 : K.lookup f7 = some ⟨oc7, od7, .func (PySem.W.fnOf "_law_all_names" "_law_all_names" (defArgs s_law_all_names) (defBody s_law_all_names) (defScope s_law_all_names) .none kV7 dc7 pm7 an7 cd7 ct7), sl7⟩) (c7 : PySem.W.codeIn K cd7 "_law_all_names" = true) (k7 : PySem.W.keepIn K (.ref f7) = true)
    (a8 : PySem.W.nsIn K mainGlobals "_law_row_by" = some (some (.ref f8))) (l8 : K.lookup f8 = some ⟨oc8, od8, .func (PySem.W.fnOf "_law_row_by" "_law_row_by" (defArgs s_law_row_by) (defBody s_law_row_by) (defScope s_law_row_by) .none kV8 dc8 pm8 an8 cd8 ct8), sl8⟩) (c8 : PySem.W.codeIn K cd8 "_law_row_by" = true) (k8 : PySem.W.keepIn K (.ref f8) = true)
    (a9 : PySem.W.nsIn K mainGlobals "_law_closed" = some (some (.ref f9))) (l9 : K.lookup f9 = some ⟨oc9, od9, .func (PySem.W.fnOf "_law_closed" "_law_closed" (defArgs s_law_closed) (defBody s_law_closed) (defScope s_law_closed) .none kV9 dc9 pm9 an9 cd9 ct9), sl9⟩) (c9 : PySem.W.codeIn K cd9 "_law_closed" = true) (k9 : PySem.W.keepIn K (.ref f9) = true)
    (a10 : PySem.W.nsIn K mainGlobals "_law_put" = some (some (.ref f10))) (l10 : K.lookup f10 = some ⟨oc10, od10, .func (PySem.W.fnOf "_law_put" "_law_put" (defArgs s_law_put) (defBody s_law_put) (defScope s_law_put) .none kV10 dc10 pm10 an10 cd10 ct10), sl10⟩) (c10 : PySem.W.codeIn K cd10 "_law_put" = true) (k10 : PySem.W.keepIn K (.ref f10) = true)
    (a11 : PySem.W.nsIn K mainGlobals "_law_block_by" = some (some (.ref f11))) (l11 : K.lookup f11 = some ⟨oc11, od11, .func (PySem.W.fnOf "_law_block_by" "_law_block_by" (defArgs s_law_block_by) (defBody s_law_block_by) (defScope s_law_block_by) .none kV11 dc11 pm11 an11 cd11 ct11), sl11⟩) (c11 : PySem.W.codeIn K cd11 "_law_block_by" = true) (k11 : PySem.W.keepIn K (.ref f11) = true)
    (a12 : PySem.W.nsIn K mainGlobals "is_list" = some (some (.ref f12))) (l12 : K.lookup f12 = some ⟨oc12, od12, .func (PySem.W.fnOf "is_list" "is_list" (defArgs s_is_listT) (defBody s_is_listT) (defScope s_is_listT) .none kV12 dc12 pm12 an12 cd12 ct12), sl12⟩) (c12 : PySem.W.codeIn K cd12 "is_list" = true) (k12 : PySem.W.keepIn K (.ref f12) = true)
    (a13 : PySem.W.nsIn K mainGlobals "is_name" = some (some (.ref f13))) (l13 : K.lookup f13 = some ⟨oc13, od13, .func (PySem.W.fnOf "is_name" "is_name" (defArgs s_is_nameT) (defBody s_is_nameT) (defScope s_is_nameT) .none kV13 dc13 pm13 an13 cd13 ct13), sl13⟩) (c13 : PySem.W.codeIn K cd13 "is_name" = true) (k13 : PySem.W.keepIn K (.ref f13) = true)
    (a14 : PySem.W.nsIn K mainGlobals "need_names" = some (some (.ref f14))) (l14 : K.lookup f14 = some ⟨oc14, od14, .func (PySem.W.fnOf "need_names" "need_names" (defArgs s_need_namesT) (defBody s_need_namesT) (defScope s_need_namesT) .none kV14 dc14 pm14 an14 cd14 ct14), sl14⟩) (c14 : PySem.W.codeIn K cd14 "need_names" = true) (k14 : PySem.W.keepIn K (.ref f14) = true)
    (a15 : PySem.W.nsIn K mainGlobals "things_of" = some (some (.ref f15))) (l15 : K.lookup f15 = some ⟨oc15, od15, .func (PySem.W.fnOf "things_of" "things_of" (defArgs s_things_ofT) (defBody s_things_ofT) (defScope s_things_ofT) .none kV15 dc15 pm15 an15 cd15 ct15), sl15⟩) (c15 : PySem.W.codeIn K cd15 "things_of" = true) (k15 : PySem.W.keepIn K (.ref f15) = true)
    (a16 : PySem.W.nsIn K mainGlobals "blocks_of" = some (some (.ref f16))) (l16 : K.lookup f16 = some ⟨oc16, od16, .func (PySem.W.fnOf "blocks_of" "blocks_of" (defArgs s_blocks_ofT) (defBody s_blocks_ofT) (defScope s_blocks_ofT) .none kV16 dc16 pm16 an16 cd16 ct16), sl16⟩) (c16 : PySem.W.codeIn K cd16 "blocks_of" = true) (k16 : PySem.W.keepIn K (.ref f16) = true)
    (a17 : PySem.W.nsIn K mainGlobals "need_form" = some (some (.ref f17))) (l17 : K.lookup f17 = some ⟨oc17, od17, .func (PySem.W.fnOf "need_form" "need_form" (defArgs s_need_formT) (defBody s_need_formT) (defScope s_need_formT) .none kV17 dc17 pm17 an17 cd17 ct17), sl17⟩) (c17 : PySem.W.codeIn K cd17 "need_form" = true) (k17 : PySem.W.keepIn K (.ref f17) = true)
    (a18 : PySem.W.nsIn K mainGlobals "is_whole" = some (some (.ref f18))) (l18 : K.lookup f18 = some ⟨oc18, od18, .func (PySem.W.fnOf "is_whole" "is_whole" (defArgs s_is_wholeT) (defBody s_is_wholeT) (defScope s_is_wholeT) .none kV18 dc18 pm18 an18 cd18 ct18), sl18⟩) (c18 : PySem.W.codeIn K cd18 "is_whole" = true) (k18 : PySem.W.keepIn K (.ref f18) = true)
    (a19 : PySem.W.nsIn K mainGlobals "is_number" = some (some (.ref f19))) (l19 : K.lookup f19 = some ⟨oc19, od19, .func (PySem.W.fnOf "is_number" "is_number" (defArgs s_is_numberT) (defBody s_is_numberT) (defScope s_is_numberT) .none kV19 dc19 pm19 an19 cd19 ct19), sl19⟩) (c19 : PySem.W.codeIn K cd19 "is_number" = true) (k19 : PySem.W.keepIn K (.ref f19) = true)
    (a20 : PySem.W.nsIn K mainGlobals "is_end" = some (some (.ref f20))) (l20 : K.lookup f20 = some ⟨oc20, od20, .func (PySem.W.fnOf "is_end" "is_end" (defArgs s_is_endT) (defBody s_is_endT) (defScope s_is_endT) .none kV20 dc20 pm20 an20 cd20 ct20), sl20⟩) (c20 : PySem.W.codeIn K cd20 "is_end" = true) (k20 : PySem.W.keepIn K (.ref f20) = true)
    (a21 : PySem.W.nsIn K mainGlobals "need_formula" = some (some (.ref f21))) (l21 : K.lookup f21 = some ⟨oc21, od21, .func (PySem.W.fnOf "need_formula" "need_formula" (defArgs s_need_formulaT) (defBody s_need_formulaT) (defScope s_need_formulaT) .none kV21 dc21 pm21 an21 cd21 ct21), sl21⟩) (c21 : PySem.W.codeIn K cd21 "need_formula" = true) (k21 : PySem.W.keepIn K (.ref f21) = true)
    (a22 : PySem.W.nsIn K mainGlobals "formula_of" = some (some (.ref f22))) (l22 : K.lookup f22 = some ⟨oc22, od22, .func (PySem.W.fnOf "formula_of" "formula_of" (defArgs s_formula_ofT) (defBody s_formula_ofT) (defScope s_formula_ofT) .none kV22 dc22 pm22 an22 cd22 ct22), sl22⟩) (c22 : PySem.W.codeIn K cd22 "formula_of" = true) (k22 : PySem.W.keepIn K (.ref f22) = true)
    (a23 : PySem.W.nsIn K mainGlobals "need_row" = some (some (.ref f23))) (l23 : K.lookup f23 = some ⟨oc23, od23, .func (PySem.W.fnOf "need_row" "need_row" (defArgs s_need_rowT) (defBody s_need_rowT) (defScope s_need_rowT) .none kV23 dc23 pm23 an23 cd23 ct23), sl23⟩) (c23 : PySem.W.codeIn K cd23 "need_row" = true) (k23 : PySem.W.keepIn K (.ref f23) = true)
    (a24 : PySem.W.nsIn K mainGlobals "need_block" = some (some (.ref f24))) (l24 : K.lookup f24 = some ⟨oc24, od24, .func (PySem.W.fnOf "need_block" "need_block" (defArgs s_need_blockT) (defBody s_need_blockT) (defScope s_need_blockT) .none kV24 dc24 pm24 an24 cd24 ct24), sl24⟩) (c24 : PySem.W.codeIn K cd24 "need_block" = true) (k24 : PySem.W.keepIn K (.ref f24) = true)
    (a25 : PySem.W.nsIn K mainGlobals "_law_alone" = some (some (.ref f25))) (l25 : K.lookup f25 = some ⟨oc25, od25, .func (PySem.W.fnOf "_law_alone" "_law_alone" (defArgs s_law_alone) (defBody s_law_alone) (defScope s_law_alone) .none kV25 dc25 pm25 an25 cd25 ct25), sl25⟩) (c25 : PySem.W.codeIn K cd25 "_law_alone" = true) (k25 : PySem.W.keepIn K (.ref f25) = true)
    (a26 : PySem.W.nsIn K mainGlobals "_law_refused" = some (some (.ref f26))) (l26 : K.lookup f26 = some ⟨oc26, od26, .func (PySem.W.fnOf "_law_refused" "_law_refused" (defArgs s_law_refusedT) (defBody s_law_refusedT) (defScope s_law_refusedT) .none kV26 dc26 pm26 an26 cd26 ct26), sl26⟩) (c26 : PySem.W.codeIn K cd26 "_law_refused" = true) (k26 : PySem.W.keepIn K (.ref f26) = true)
    (a27 : PySem.W.nsIn K mainGlobals "_law_wrong_row" = some (some (.ref f27))) (l27 : K.lookup f27 = some ⟨oc27, od27, .func (PySem.W.fnOf "_law_wrong_row" "_law_wrong_row" (defArgs s_law_wrong_rowT) (defBody s_law_wrong_rowT) (defScope s_law_wrong_rowT) .none kV27 dc27 pm27 an27 cd27 ct27), sl27⟩) (c27 : PySem.W.codeIn K cd27 "_law_wrong_row" = true) (k27 : PySem.W.keepIn K (.ref f27) = true)
    (a28 : PySem.W.nsIn K mainGlobals "_law_chain" = some (some (.ref f28))) (l28 : K.lookup f28 = some ⟨oc28, od28, .func (PySem.W.fnOf "_law_chain" "_law_chain" (defArgs s_law_chainT) (defBody s_law_chainT) (defScope s_law_chainT) .none kV28 dc28 pm28 an28 cd28 ct28), sl28⟩) (c28 : PySem.W.codeIn K cd28 "_law_chain" = true) (k28 : PySem.W.keepIn K (.ref f28) = true)
    (a29 : PySem.W.nsIn K mainGlobals "_law_nested" = some (some (.ref f29))) (l29 : K.lookup f29 = some ⟨oc29, od29, .func (PySem.W.fnOf "_law_nested" "_law_nested" (defArgs s_law_nestedT) (defBody s_law_nestedT) (defScope s_law_nestedT) .none kV29 dc29 pm29 an29 cd29 ct29), sl29⟩) (c29 : PySem.W.codeIn K cd29 "_law_nested" = true) (k29 : PySem.W.keepIn K (.ref f29) = true)
    (a30 : PySem.W.nsIn K mainGlobals "_law_two" = some (some (.ref f30))) (l30 : K.lookup f30 = some ⟨oc30, od30, .func (PySem.W.fnOf "_law_two" "_law_two" (defArgs s_law_twoT) (defBody s_law_twoT) (defScope s_law_twoT) .none kV30 dc30 pm30 an30 cd30 ct30), sl30⟩) (c30 : PySem.W.codeIn K cd30 "_law_two" = true) (k30 : PySem.W.keepIn K (.ref f30) = true)
    (a31 : PySem.W.nsIn K mainGlobals "_law_wrong" = some (some (.ref f31))) (l31 : K.lookup f31 = some ⟨oc31, od31, .func (PySem.W.fnOf "_law_wrong" "_law_wrong" (defArgs s_law_wrongT) (defBody s_law_wrongT) (defScope s_law_wrongT) .none kV31 dc31 pm31 an31 cd31 ct31), sl31⟩) (c31 : PySem.W.codeIn K cd31 "_law_wrong" = true) (k31 : PySem.W.keepIn K (.ref f31) = true)
    (a32 : PySem.W.nsIn K mainGlobals "_law_handed" = some (some (.ref f32))) (l32 : K.lookup f32 = some ⟨oc32, od32, .func (PySem.W.fnOf "_law_handed" "_law_handed" (defArgs s_law_handedT) (defBody s_law_handedT) (defScope s_law_handedT) .none kV32 dc32 pm32 an32 cd32 ct32), sl32⟩) (c32 : PySem.W.codeIn K cd32 "_law_handed" = true) (k32 : PySem.W.keepIn K (.ref f32) = true)
    (a33 : PySem.W.nsIn K mainGlobals "_law_blocks" = some (some (.ref f33))) (l33 : K.lookup f33 = some ⟨oc33, od33, .func (PySem.W.fnOf "_law_blocks" "_law_blocks" (defArgs s_law_blocksT) (defBody s_law_blocksT) (defScope s_law_blocksT) .none kV33 dc33 pm33 an33 cd33 ct33), sl33⟩) (c33 : PySem.W.codeIn K cd33 "_law_blocks" = true) (k33 : PySem.W.keepIn K (.ref f33) = true)
    (a34 : PySem.W.nsIn K mainGlobals "_law_block_names" = some (some (.ref f34))) (l34 : K.lookup f34 = some ⟨oc34, od34, .func (PySem.W.fnOf "_law_block_names" "_law_block_names" (defArgs s_law_block_namesT) (defBody s_law_block_namesT) (defScope s_law_block_namesT) .none kV34 dc34 pm34 an34 cd34 ct34), sl34⟩) (c34 : PySem.W.codeIn K cd34 "_law_block_names" = true) (k34 : PySem.W.keepIn K (.ref f34) = true)
    (a35 : PySem.W.nsIn K mainGlobals "all_names" = some (some (.ref f35))) (l35 : K.lookup f35 = some ⟨oc35, od35, .func (PySem.W.fnOf "all_names" "all_names" (defArgs s_all_names) (defBody s_all_names) (defScope s_all_names) .none kV35 dc35 pm35 an35 cd35 ct35), sl35⟩) (c35 : PySem.W.codeIn K cd35 "all_names" = true) (k35 : PySem.W.keepIn K (.ref f35) = true)
    (a36 : PySem.W.nsIn K mainGlobals "names_in" = some (some (.ref f36))) (l36 : K.lookup f36 = some ⟨oc36, od36, .func (PySem.W.fnOf "names_in" "names_in" (defArgs s_names_in) (defBody s_names_in) (defScope s_names_in) .none kV36 dc36 pm36 an36 cd36 ct36), sl36⟩) (c36 : PySem.W.codeIn K cd36 "names_in" = true) (k36 : PySem.W.keepIn K (.ref f36) = true)
    (a37 : PySem.W.nsIn K mainGlobals "all_in" = some (some (.ref f37))) (l37 : K.lookup f37 = some ⟨oc37, od37, .func (PySem.W.fnOf "all_in" "all_in" (defArgs s_all_in) (defBody s_all_in) (defScope s_all_in) .none kV37 dc37 pm37 an37 cd37 ct37), sl37⟩) (c37 : PySem.W.codeIn K cd37 "all_in" = true) (k37 : PySem.W.keepIn K (.ref f37) = true)
    (a38 : PySem.W.nsIn K mainGlobals "size_of" = some (some (.ref f38))) (l38 : K.lookup f38 = some ⟨oc38, od38, .func (PySem.W.fnOf "size_of" "size_of" (defArgs s_size_of) (defBody s_size_of) (defScope s_size_of) .none kV38 dc38 pm38 an38 cd38 ct38), sl38⟩) (c38 : PySem.W.codeIn K cd38 "size_of" = true) (k38 : PySem.W.keepIn K (.ref f38) = true)
    (a39 : PySem.W.nsIn K mainGlobals "many_in" = some (some (.ref f39))) (l39 : K.lookup f39 = some ⟨oc39, od39, .func (PySem.W.fnOf "many_in" "many_in" (defArgs s_many_in) (defBody s_many_in) (defScope s_many_in) .none kV39 dc39 pm39 an39 cd39 ct39), sl39⟩) (c39 : PySem.W.codeIn K cd39 "many_in" = true) (k39 : PySem.W.keepIn K (.ref f39) = true)
    (a40 : PySem.W.nsIn K mainGlobals "_law_whole" = some (some (.ref f40))) (l40 : K.lookup f40 = some ⟨oc40, od40, .func (PySem.W.fnOf "_law_whole" "_law_whole" (defArgs s_law_whole) (defBody s_law_whole) (defScope s_law_whole) .none kV40 dc40 pm40 an40 cd40 ct40), sl40⟩) (c40 : PySem.W.codeIn K cd40 "_law_whole" = true) (k40 : PySem.W.keepIn K (.ref f40) = true)
    (a41 : PySem.W.nsIn K mainGlobals "_law_many" = some (some (.ref f41))) (l41 : K.lookup f41 = some ⟨oc41, od41, .func (PySem.W.fnOf "_law_many" "_law_many" (defArgs s_law_manyT) (defBody s_law_manyT) (defScope s_law_manyT) .none kV41 dc41 pm41 an41 cd41 ct41), sl41⟩) (c41 : PySem.W.codeIn K cd41 "_law_many" = true) (k41 : PySem.W.keepIn K (.ref f41) = true)
    (a42 : PySem.W.nsIn K mainGlobals "_law_asked" = some (some (.ref f42))) (l42 : K.lookup f42 = some ⟨oc42, od42, .func (PySem.W.fnOf "_law_asked" "_law_asked" (defArgs s_law_askedT) (defBody s_law_askedT) (defScope s_law_askedT) .none kV42 dc42 pm42 an42 cd42 ct42), sl42⟩) (c42 : PySem.W.codeIn K cd42 "_law_asked" = true) (k42 : PySem.W.keepIn K (.ref f42) = true)
    (a43 : PySem.W.nsIn K mainGlobals "_law_changed" = some (some (.ref f43))) (l43 : K.lookup f43 = some ⟨oc43, od43, .func (PySem.W.fnOf "_law_changed" "_law_changed" (defArgs s_law_changedT) (defBody s_law_changedT) (defScope s_law_changedT) .none kV43 dc43 pm43 an43 cd43 ct43), sl43⟩) (c43 : PySem.W.codeIn K cd43 "_law_changed" = true) (k43 : PySem.W.keepIn K (.ref f43) = true)
    (a44 : PySem.W.nsIn K mainGlobals "law" = some (some (.ref f44))) (l44 : K.lookup f44 = some ⟨oc44, od44, .func (PySem.W.fnOf "law" "law" (defArgs s_k05) (defBody s_k05) (defScope s_k05) .none kV44 dc44 pm44 an44 cd44 ct44), sl44⟩) (c44 : PySem.W.codeIn K cd44 "law" = true) (k44 : PySem.W.keepIn K (.ref f44) = true)
    (a45 : PySem.W.findIn K (.ref C_Program) "__init__" = some (some (.ref f45))) (i45 : PySem.W.isFn K (.ref f45) = true) (l45 : K.lookup f45 = some ⟨oc45, od45, .func (PySem.W.fnOf "__init__" "Program.__init__" (defArgs s_Program___init__T) (defBody s_Program___init__T) (defScope s_Program___init__T) .none kV45 dc45 pm45 an45 cd45 ct45), sl45⟩) (c45 : PySem.W.codeIn K cd45 "Program.__init__" = true) (k45 : PySem.W.keepIn K (.ref f45) = true)
    (a46 : PySem.W.findIn K (.ref C_Program) "names" = some (some (.ref f46))) (i46 : PySem.W.isFn K (.ref f46) = true) (l46 : K.lookup f46 = some ⟨oc46, od46, .func (PySem.W.fnOf "names" "Program.names" (defArgs s_Program_names) (defBody s_Program_names) (defScope s_Program_names) .none kV46 dc46 pm46 an46 cd46 ct46), sl46⟩) (c46 : PySem.W.codeIn K cd46 "Program.names" = true) (k46 : PySem.W.keepIn K (.ref f46) = true)
    (a47 : PySem.W.findIn K (.ref C_Program) "told" = some (some (.ref f47))) (i47 : PySem.W.isFn K (.ref f47) = true) (l47 : K.lookup f47 = some ⟨oc47, od47, .func (PySem.W.fnOf "told" "Program.told" (defArgs s_Program_told) (defBody s_Program_told) (defScope s_Program_told) .none kV47 dc47 pm47 an47 cd47 ct47), sl47⟩) (c47 : PySem.W.codeIn K cd47 "Program.told" = true) (k47 : PySem.W.keepIn K (.ref f47) = true)
    (a48 : PySem.W.findIn K (.ref C_Program) "block" = some (some (.ref f48))) (i48 : PySem.W.isFn K (.ref f48) = true) (l48 : K.lookup f48 = some ⟨oc48, od48, .func (PySem.W.fnOf "block" "Program.block" (defArgs s_Program_block) (defBody s_Program_block) (defScope s_Program_block) .none kV48 dc48 pm48 an48 cd48 ct48), sl48⟩) (c48 : PySem.W.codeIn K cd48 "Program.block" = true) (k48 : PySem.W.keepIn K (.ref f48) = true)
    (a49 : PySem.W.findIn K (.ref C_Program) "many" = some (some (.ref f49))) (i49 : PySem.W.isFn K (.ref f49) = true) (l49 : K.lookup f49 = some ⟨oc49, od49, .func (PySem.W.fnOf "many" "Program.many" (defArgs s_Program_many) (defBody s_Program_many) (defScope s_Program_many) .none kV49 dc49 pm49 an49 cd49 ct49), sl49⟩) (c49 : PySem.W.codeIn K cd49 "Program.many" = true) (k49 : PySem.W.keepIn K (.ref f49) = true)
    (a50 : PySem.W.findIn K (.ref C_Program) "kind" = some (some (.ref f50))) (i50 : PySem.W.isFn K (.ref f50) = true) (l50 : K.lookup f50 = some ⟨oc50, od50, .func (PySem.W.fnOf "kind" "Program.kind" (defArgs s_Program_kind) (defBody s_Program_kind) (defScope s_Program_kind) .none kV50 dc50 pm50 an50 cd50 ct50), sl50⟩) (c50 : PySem.W.codeIn K cd50 "Program.kind" = true) (k50 : PySem.W.keepIn K (.ref f50) = true)
    (z_range : PySem.W.nsIn K mainGlobals "range" = some none)
    (z_len : PySem.W.nsIn K mainGlobals "len" = some none)
    (z_int : PySem.W.nsIn K mainGlobals "int" = some none)
    (z_tuple : PySem.W.nsIn K mainGlobals "tuple" = some none)
    (z_enumerate : PySem.W.nsIn K mainGlobals "enumerate" = some none)
    (z_isinstance : PySem.W.nsIn K mainGlobals "isinstance" = some none)
    (z_list : PySem.W.nsIn K mainGlobals "list" = some none)
    (z_str : PySem.W.nsIn K mainGlobals "str" = some none)
    (z_bool : PySem.W.nsIn K mainGlobals "bool" = some none)
    (z_ValueError : PySem.W.nsIn K mainGlobals "ValueError" = some none)
    (z_sorted : PySem.W.nsIn K mainGlobals "sorted" = some none)
    (z_set : PySem.W.nsIn K mainGlobals "set" = some none)
    (z_sum : PySem.W.nsIn K mainGlobals "sum" = some none)
    {a_WORDS : Addr} {d_WORDS : Option Addr} {n_WORDS : Nat} {sl_WORDS : Array (Option Value)} {t_WORDS0 t_WORDS1 t_WORDS2 t_WORDS3 t_WORDS4 t_WORDS5 t_WORDS6 : Tok} (g_WORDS : PySem.W.nsIn K mainGlobals "WORDS" = some (some (.ref a_WORDS))) (l_WORDS : K.lookup a_WORDS = some ⟨.type "tuple", d_WORDS, .seq #[.str "set" t_WORDS0, .str "tell" t_WORDS1, .str "skip" t_WORDS2, .str "if" t_WORDS3, .str "else" t_WORDS4, .str "while" t_WORDS5, .str "end" t_WORDS6] n_WORDS, sl_WORDS⟩)
    {t_LETTERS : Tok} (g_LETTERS : PySem.W.nsIn K mainGlobals "LETTERS" = some (some (.str "abcdefghijklmnopqrstuvwxyz" t_LETTERS)))
    {t_FIGURES : Tok} (g_FIGURES : PySem.W.nsIn K mainGlobals "FIGURES" = some (some (.str "0123456789" t_FIGURES)))
    {t_LIMIT : Tok} (g_LIMIT : PySem.W.nsIn K mainGlobals "LIMIT" = some (some (.int 1000000 t_LIMIT)))
    {a_SIGNS : Addr} {d_SIGNS : Option Addr} {n_SIGNS : Nat} {sl_SIGNS : Array (Option Value)} {t_SIGNS0 t_SIGNS1 t_SIGNS2 t_SIGNS3 t_SIGNS4 t_SIGNS5 : Tok} (g_SIGNS : PySem.W.nsIn K mainGlobals "SIGNS" = some (some (.ref a_SIGNS))) (l_SIGNS : K.lookup a_SIGNS = some ⟨.type "tuple", d_SIGNS, .seq #[.str "+" t_SIGNS0, .str "-" t_SIGNS1, .str "*" t_SIGNS2, .str "/" t_SIGNS3, .str "<" t_SIGNS4, .str "=" t_SIGNS5] n_SIGNS, sl_SIGNS⟩)
    {t_DEEPEST_ROW : Tok} (g_DEEPEST_ROW : PySem.W.nsIn K mainGlobals "DEEPEST_ROW" = some (some (.int 8 t_DEEPEST_ROW)))
    {t_MOST_DEEP : Tok} (g_MOST_DEEP : PySem.W.nsIn K mainGlobals "MOST_DEEP" = some (some (.int 12 t_MOST_DEEP)))
    {e_HushError e_NoName e_Twice e_NoRow e_TooDeep e_NoValues e_NoTurns e_NoLine : Addr}
    (n_HushError : PySem.W.nsIn K mainGlobals "HushError" = some (some (.ref e_HushError)))
    (n_NoName : PySem.W.nsIn K mainGlobals "NoName" = some (some (.ref e_NoName)))
    (n_Twice : PySem.W.nsIn K mainGlobals "Twice" = some (some (.ref e_Twice)))
    (n_NoRow : PySem.W.nsIn K mainGlobals "NoRow" = some (some (.ref e_NoRow)))
    (n_TooDeep : PySem.W.nsIn K mainGlobals "TooDeep" = some (some (.ref e_TooDeep)))
    (n_NoValues : PySem.W.nsIn K mainGlobals "NoValues" = some (some (.ref e_NoValues)))
    (n_NoTurns : PySem.W.nsIn K mainGlobals "NoTurns" = some (some (.ref e_NoTurns)))
    (n_NoLine : PySem.W.nsIn K mainGlobals "NoLine" = some (some (.ref e_NoLine)))
    (b_HushError : PySem.W.subIn K (.ref e_HushError) (.type "BaseException") = some true) (d_HushError : PySem.W.hasDictIn K e_HushError = true) (t_HushError : PySem.W.typeIn K (.ref e_HushError) = some (.type "type"))
    (y_get : PySem.W.specialIn K (.builtin "object.__class__") "__get__" = some (some (.builtin "getset_descriptor.__get__"))) (y_tak : PySem.W.takesIn K (.builtin "object.__class__") = some true)
    (xx_NoName : PySem.W.excIn K e_NoName tailVE "ValueError.__new__" = true) (k_NoName : PySem.W.keepIn K (.ref e_NoName) = true) (b_NoName : PySem.W.subIn K (.ref e_NoName) (.type "BaseException") = some true) (t_NoName : PySem.W.typeIn K (.ref e_NoName) = some (.type "type"))
    (ga_NoName : PySem.W.findIn K (.ref e_NoName) "__getattribute__" = some (some (.builtin "BaseException.__getattribute__"))) (gg_NoName : PySem.W.findIn K (.ref e_NoName) "__getattr__" = some none) (hd_NoName : PySem.W.hasDictIn K e_NoName = true)
    (ha_NoName : PySem.W.findIn K (.ref e_NoName) "__class__" = some (some (.builtin "object.__class__"))) (hm_NoName : PySem.W.mroIn K e_NoName (.type "object") = some true)
    (u_NoName : PySem.W.subIn K (.ref e_NoName) (.ref e_HushError) = some true) (v_NoName : PySem.W.kitOne K (.ref e_NoName) (.type "ValueError") = some true)
    (q_NoName_NoName : PySem.W.kitOne K (.ref e_NoName) (.ref e_NoName) = some true)
    (q_NoName_Twice : PySem.W.kitOne K (.ref e_NoName) (.ref e_Twice) = some false)
    (q_NoName_NoRow : PySem.W.kitOne K (.ref e_NoName) (.ref e_NoRow) = some false)
    (q_NoName_TooDeep : PySem.W.kitOne K (.ref e_NoName) (.ref e_TooDeep) = some false)
    (q_NoName_NoValues : PySem.W.kitOne K (.ref e_NoName) (.ref e_NoValues) = some false)
    (q_NoName_NoTurns : PySem.W.kitOne K (.ref e_NoName) (.ref e_NoTurns) = some false)
    (q_NoName_NoLine : PySem.W.kitOne K (.ref e_NoName) (.ref e_NoLine) = some false)
    (xx_Twice : PySem.W.excIn K e_Twice tailVE "ValueError.__new__" = true) (k_Twice : PySem.W.keepIn K (.ref e_Twice) = true) (b_Twice : PySem.W.subIn K (.ref e_Twice) (.type "BaseException") = some true) (t_Twice : PySem.W.typeIn K (.ref e_Twice) = some (.type "type"))
    (ga_Twice : PySem.W.findIn K (.ref e_Twice) "__getattribute__" = some (some (.builtin "BaseException.__getattribute__"))) (gg_Twice : PySem.W.findIn K (.ref e_Twice) "__getattr__" = some none) (hd_Twice : PySem.W.hasDictIn K e_Twice = true)
    (ha_Twice : PySem.W.findIn K (.ref e_Twice) "__class__" = some (some (.builtin "object.__class__"))) (hm_Twice : PySem.W.mroIn K e_Twice (.type "object") = some true)
    (u_Twice : PySem.W.subIn K (.ref e_Twice) (.ref e_HushError) = some true) (v_Twice : PySem.W.kitOne K (.ref e_Twice) (.type "ValueError") = some true)
    (q_Twice_NoName : PySem.W.kitOne K (.ref e_Twice) (.ref e_NoName) = some false)
    (q_Twice_Twice : PySem.W.kitOne K (.ref e_Twice) (.ref e_Twice) = some true)
    (q_Twice_NoRow : PySem.W.kitOne K (.ref e_Twice) (.ref e_NoRow) = some false)
    (q_Twice_TooDeep : PySem.W.kitOne K (.ref e_Twice) (.ref e_TooDeep) = some false)
    (q_Twice_NoValues : PySem.W.kitOne K (.ref e_Twice) (.ref e_NoValues) = some false)
    (q_Twice_NoTurns : PySem.W.kitOne K (.ref e_Twice) (.ref e_NoTurns) = some false)
    (q_Twice_NoLine : PySem.W.kitOne K (.ref e_Twice) (.ref e_NoLine) = some false)
    (xx_NoRow : PySem.W.excIn K e_NoRow tailVE "ValueError.__new__" = true) (k_NoRow : PySem.W.keepIn K (.ref e_NoRow) = true) (b_NoRow : PySem.W.subIn K (.ref e_NoRow) (.type "BaseException") = some true) (t_NoRow : PySem.W.typeIn K (.ref e_NoRow) = some (.type "type"))
    (ga_NoRow : PySem.W.findIn K (.ref e_NoRow) "__getattribute__" = some (some (.builtin "BaseException.__getattribute__"))) (gg_NoRow : PySem.W.findIn K (.ref e_NoRow) "__getattr__" = some none) (hd_NoRow : PySem.W.hasDictIn K e_NoRow = true)
    (ha_NoRow : PySem.W.findIn K (.ref e_NoRow) "__class__" = some (some (.builtin "object.__class__"))) (hm_NoRow : PySem.W.mroIn K e_NoRow (.type "object") = some true)
    (u_NoRow : PySem.W.subIn K (.ref e_NoRow) (.ref e_HushError) = some true) (v_NoRow : PySem.W.kitOne K (.ref e_NoRow) (.type "ValueError") = some true)
    (q_NoRow_NoName : PySem.W.kitOne K (.ref e_NoRow) (.ref e_NoName) = some false)
    (q_NoRow_Twice : PySem.W.kitOne K (.ref e_NoRow) (.ref e_Twice) = some false)
    (q_NoRow_NoRow : PySem.W.kitOne K (.ref e_NoRow) (.ref e_NoRow) = some true)
    (q_NoRow_TooDeep : PySem.W.kitOne K (.ref e_NoRow) (.ref e_TooDeep) = some false)
    (q_NoRow_NoValues : PySem.W.kitOne K (.ref e_NoRow) (.ref e_NoValues) = some false)
    (q_NoRow_NoTurns : PySem.W.kitOne K (.ref e_NoRow) (.ref e_NoTurns) = some false)
    (q_NoRow_NoLine : PySem.W.kitOne K (.ref e_NoRow) (.ref e_NoLine) = some false)
    (xx_TooDeep : PySem.W.excIn K e_TooDeep tailVE "ValueError.__new__" = true) (k_TooDeep : PySem.W.keepIn K (.ref e_TooDeep) = true) (b_TooDeep : PySem.W.subIn K (.ref e_TooDeep) (.type "BaseException") = some true) (t_TooDeep : PySem.W.typeIn K (.ref e_TooDeep) = some (.type "type"))
    (ga_TooDeep : PySem.W.findIn K (.ref e_TooDeep) "__getattribute__" = some (some (.builtin "BaseException.__getattribute__"))) (gg_TooDeep : PySem.W.findIn K (.ref e_TooDeep) "__getattr__" = some none) (hd_TooDeep : PySem.W.hasDictIn K e_TooDeep = true)
    (ha_TooDeep : PySem.W.findIn K (.ref e_TooDeep) "__class__" = some (some (.builtin "object.__class__"))) (hm_TooDeep : PySem.W.mroIn K e_TooDeep (.type "object") = some true)
    (u_TooDeep : PySem.W.subIn K (.ref e_TooDeep) (.ref e_HushError) = some true) (v_TooDeep : PySem.W.kitOne K (.ref e_TooDeep) (.type "ValueError") = some true)
    (q_TooDeep_NoName : PySem.W.kitOne K (.ref e_TooDeep) (.ref e_NoName) = some false)
    (q_TooDeep_Twice : PySem.W.kitOne K (.ref e_TooDeep) (.ref e_Twice) = some false)
    (q_TooDeep_NoRow : PySem.W.kitOne K (.ref e_TooDeep) (.ref e_NoRow) = some false)
    (q_TooDeep_TooDeep : PySem.W.kitOne K (.ref e_TooDeep) (.ref e_TooDeep) = some true)
    (q_TooDeep_NoValues : PySem.W.kitOne K (.ref e_TooDeep) (.ref e_NoValues) = some false)
    (q_TooDeep_NoTurns : PySem.W.kitOne K (.ref e_TooDeep) (.ref e_NoTurns) = some false)
    (q_TooDeep_NoLine : PySem.W.kitOne K (.ref e_TooDeep) (.ref e_NoLine) = some false)
    : ∃ fd : FuncData, (∀ (s : Shared) (v : Value), BindsTo s fd ⟨[v], []⟩ [("_law_script", v)]) ∧ ∀ base : Heap, K.In base → base.Ns mainGlobals mg → FnOk P w K mg base CX0 41 fa fd ["_law_script"] (sp_k05 K) := by
  have e := hfa.symm.trans (PySem.W.mg_of X G a44)
  cases e
  have d0 : DefAt K mg "_law_mixed" s_law_mixed ["_law_number"] := ⟨⟨f0, _, (fun_mk (st := s_law_mixed) l0 c0 k0), PySem.W.mg_of X G a0, (fun_mk (st := s_law_mixed) l0 c0 k0).binds (ps := ["_law_number"]) fun _ _ _ _ _ _ us hl => match us, hl with | [_], _ => rfl⟩⟩
  have d1 : DefAt K mg "_law_name_by" s_law_name_by ["_law_cell"] := ⟨⟨f1, _, (fun_mk (st := s_law_name_by) l1 c1 k1), PySem.W.mg_of X G a1, (fun_mk (st := s_law_name_by) l1 c1 k1).binds (ps := ["_law_cell"]) fun _ _ _ _ _ _ us hl => match us, hl with | [_], _ => rfl⟩⟩
  have d2 : DefAt K mg "_law_twin" s_law_twin ["_law_name", "_law_cell"] := ⟨⟨f2, _, (fun_mk (st := s_law_twin) l2 c2 k2), PySem.W.mg_of X G a2, (fun_mk (st := s_law_twin) l2 c2 k2).binds (ps := ["_law_name", "_law_cell"]) fun _ _ _ _ _ _ us hl => match us, hl with | [_, _], _ => rfl⟩⟩
  have d3 : DefAt K mg "_law_names" s_law_names ["_law_one", "_law_other"] := ⟨⟨f3, _, (fun_mk (st := s_law_names) l3 c3 k3), PySem.W.mg_of X G a3, (fun_mk (st := s_law_names) l3 c3 k3).binds (ps := ["_law_one", "_law_other"]) fun _ _ _ _ _ _ us hl => match us, hl with | [_, _], _ => rfl⟩⟩
  have d4 : DefAt K mg "_law_cell_at" s_law_cell_at ["_law_script", "_law_k"] := ⟨⟨f4, _, (fun_mk (st := s_law_cell_at) l4 c4 k4), PySem.W.mg_of X G a4, (fun_mk (st := s_law_cell_at) l4 c4 k4).binds (ps := ["_law_script", "_law_k"]) fun _ _ _ _ _ _ us hl => match us, hl with | [_, _], _ => rfl⟩⟩
  have d5 : DefAt K mg "_law_end_by" s_law_end_by ["_law_number", "_law_names_here"] := ⟨⟨f5, _, (fun_mk (st := s_law_end_by) l5 c5 k5), PySem.W.mg_of X G a5, (fun_mk (st := s_law_end_by) l5 c5 k5).binds (ps := ["_law_number", "_law_names_here"]) fun _ _ _ _ _ _ us hl => match us, hl with | [_, _], _ => rfl⟩⟩
  have d6 : DefAt K mg "_law_formula_by" s_law_formula_by ["_law_number", "_law_names_here", "_law_low", "_law_divide", "_law_left"] := ⟨⟨f6, _, (fun_mk (st := s_law_formula_by) l6 c6 k6), PySem.W.mg_of X G a6, (fun_mk (st := s_law_formula_by) l6 c6 k6).binds (ps := ["_law_number", "_law_names_here", "_law_low", "_law_divide", "_law_left"]) fun _ _ _ _ _ _ us hl => match us, hl with | [_, _, _, _, _], _ => rfl⟩⟩
  have d7 : DefAt K mg "_law_all_names" s_law_all_names ["_law_formula"] := ⟨⟨f7, _, (fun_mk (st := s_law_all_names) l7 c7 k7), PySem.W.mg_of X G a7, (fun_mk (st := s_law_all_names) l7 c7 k7).binds (ps := ["_law_formula"]) fun _ _ _ _ _ _ us hl => match us, hl with | [_], _ => rfl⟩⟩
  have d8 : DefAt K mg "_law_row_by" s_law_row_by ["_law_names_here", "_law_more", "_law_dark", "_law_mode"] := ⟨⟨f8, _, (fun_mk (st := s_law_row_by) l8 c8 k8), PySem.W.mg_of X G a8, (fun_mk (st := s_law_row_by) l8 c8 k8).binds (ps := ["_law_names_here", "_law_more", "_law_dark", "_law_mode"]) fun _ _ _ _ _ _ us hl => match us, hl with | [_, _, _, _], _ => rfl⟩⟩
  have d9 : DefAt K mg "_law_closed" s_law_closed ["_law_stack"] := ⟨⟨f9, _, (fun_mk (st := s_law_closed) l9 c9 k9), PySem.W.mg_of X G a9, (fun_mk (st := s_law_closed) l9 c9 k9).binds (ps := ["_law_stack"]) fun _ _ _ _ _ _ us hl => match us, hl with | [_], _ => rfl⟩⟩
  have d10 : DefAt K mg "_law_put" s_law_put ["_law_stack", "_law_names_here", "_law_more", "_law_mode"] := ⟨⟨f10, _, (fun_mk (st := s_law_put) l10 c10 k10), PySem.W.mg_of X G a10, (fun_mk (st := s_law_put) l10 c10 k10).binds (ps := ["_law_stack", "_law_names_here", "_law_more", "_law_mode"]) fun _ _ _ _ _ _ us hl => match us, hl with | [_, _, _, _], _ => rfl⟩⟩
  have d11 : DefAt K mg "_law_block_by" s_law_block_by ["_law_cells", "_law_names_here", "_law_loose"] := ⟨⟨f11, _, (fun_mk (st := s_law_block_by) l11 c11 k11), PySem.W.mg_of X G a11, (fun_mk (st := s_law_block_by) l11 c11 k11).binds (ps := ["_law_cells", "_law_names_here", "_law_loose"]) fun _ _ _ _ _ _ us hl => match us, hl with | [_, _, _], _ => rfl⟩⟩
  have d12 : DefAt K mg "is_list" s_is_listT ["thing"] := ⟨⟨f12, _, (fun_mk (st := s_is_listT) l12 c12 k12), PySem.W.mg_of X G a12, (fun_mk (st := s_is_listT) l12 c12 k12).binds (ps := ["thing"]) fun _ _ _ _ _ _ us hl => match us, hl with | [_], _ => rfl⟩⟩
  have d13 : DefAt K mg "is_name" s_is_nameT ["thing"] := ⟨⟨f13, _, (fun_mk (st := s_is_nameT) l13 c13 k13), PySem.W.mg_of X G a13, (fun_mk (st := s_is_nameT) l13 c13 k13).binds (ps := ["thing"]) fun _ _ _ _ _ _ us hl => match us, hl with | [_], _ => rfl⟩⟩
  have d14 : DefAt K mg "need_names" s_need_namesT ["names", "told"] := ⟨⟨f14, _, (fun_mk (st := s_need_namesT) l14 c14 k14), PySem.W.mg_of X G a14, (fun_mk (st := s_need_namesT) l14 c14 k14).binds (ps := ["names", "told"]) fun _ _ _ _ _ _ us hl => match us, hl with | [_, _], _ => rfl⟩⟩
  have d15 : DefAt K mg "things_of" s_things_ofT ["word"] := ⟨⟨f15, _, (fun_mk (st := s_things_ofT) l15 c15 k15), PySem.W.mg_of X G a15, (fun_mk (st := s_things_ofT) l15 c15 k15).binds (ps := ["word"]) fun _ _ _ _ _ _ us hl => match us, hl with | [_], _ => rfl⟩⟩
  have d16 : DefAt K mg "blocks_of" s_blocks_ofT ["row"] := ⟨⟨f16, _, (fun_mk (st := s_blocks_ofT) l16 c16 k16), PySem.W.mg_of X G a16, (fun_mk (st := s_blocks_ofT) l16 c16 k16).binds (ps := ["row"]) fun _ _ _ _ _ _ us hl => match us, hl with | [_], _ => rfl⟩⟩
  have d17 : DefAt K mg "need_form" s_need_formT ["row"] := ⟨⟨f17, _, (fun_mk (st := s_need_formT) l17 c17 k17), PySem.W.mg_of X G a17, (fun_mk (st := s_need_formT) l17 c17 k17).binds (ps := ["row"]) fun _ _ _ _ _ _ us hl => match us, hl with | [_], _ => rfl⟩⟩
  have d18 : DefAt K mg "is_whole" s_is_wholeT ["thing"] := ⟨⟨f18, _, (fun_mk (st := s_is_wholeT) l18 c18 k18), PySem.W.mg_of X G a18, (fun_mk (st := s_is_wholeT) l18 c18 k18).binds (ps := ["thing"]) fun _ _ _ _ _ _ us hl => match us, hl with | [_], _ => rfl⟩⟩
  have d19 : DefAt K mg "is_number" s_is_numberT ["thing"] := ⟨⟨f19, _, (fun_mk (st := s_is_numberT) l19 c19 k19), PySem.W.mg_of X G a19, (fun_mk (st := s_is_numberT) l19 c19 k19).binds (ps := ["thing"]) fun _ _ _ _ _ _ us hl => match us, hl with | [_], _ => rfl⟩⟩
  have d20 : DefAt K mg "is_end" s_is_endT ["thing"] := ⟨⟨f20, _, (fun_mk (st := s_is_endT) l20 c20 k20), PySem.W.mg_of X G a20, (fun_mk (st := s_is_endT) l20 c20 k20).binds (ps := ["thing"]) fun _ _ _ _ _ _ us hl => match us, hl with | [_], _ => rfl⟩⟩
  have d21 : DefAt K mg "need_formula" s_need_formulaT ["thing", "left"] := ⟨⟨f21, _, (fun_mk (st := s_need_formulaT) l21 c21 k21), PySem.W.mg_of X G a21, (fun_mk (st := s_need_formulaT) l21 c21 k21).binds (ps := ["thing", "left"]) fun _ _ _ _ _ _ us hl => match us, hl with | [_, _], _ => rfl⟩⟩
  have d22 : DefAt K mg "formula_of" s_formula_ofT ["row"] := ⟨⟨f22, _, (fun_mk (st := s_formula_ofT) l22 c22 k22), PySem.W.mg_of X G a22, (fun_mk (st := s_formula_ofT) l22 c22 k22).binds (ps := ["row"]) fun _ _ _ _ _ _ us hl => match us, hl with | [_], _ => rfl⟩⟩
  have d23 : DefAt K mg "need_row" s_need_rowT ["row", "deep"] := ⟨⟨f23, _, (fun_mk (st := s_need_rowT) l23 c23 k23), PySem.W.mg_of X G a23, (fun_mk (st := s_need_rowT) l23 c23 k23).binds (ps := ["row", "deep"]) fun _ _ _ _ _ _ us hl => match us, hl with | [_, _], _ => rfl⟩⟩
  have d24 : DefAt K mg "need_block" s_need_blockT ["block", "deep"] := ⟨⟨f24, _, (fun_mk (st := s_need_blockT) l24 c24 k24), PySem.W.mg_of X G a24, (fun_mk (st := s_need_blockT) l24 c24 k24).binds (ps := ["block", "deep"]) fun _ _ _ _ _ _ us hl => match us, hl with | [_, _], _ => rfl⟩⟩
  have d25 : DefAt K mg "_law_alone" s_law_alone ["_law_e"] := ⟨⟨f25, _, (fun_mk (st := s_law_alone) l25 c25 k25), PySem.W.mg_of X G a25, (fun_mk (st := s_law_alone) l25 c25 k25).binds (ps := ["_law_e"]) fun _ _ _ _ _ _ us hl => match us, hl with | [_], _ => rfl⟩⟩
  have d26 : DefAt K mg "_law_refused" s_law_refusedT ["_law_opens", "_law_secrets", "_law_block"] := ⟨⟨f26, _, (fun_mk (st := s_law_refusedT) l26 c26 k26), PySem.W.mg_of X G a26, (fun_mk (st := s_law_refusedT) l26 c26 k26).binds (ps := ["_law_opens", "_law_secrets", "_law_block"]) fun _ _ _ _ _ _ us hl => match us, hl with | [_, _, _], _ => rfl⟩⟩
  have d27 : DefAt K mg "_law_wrong_row" s_law_wrong_rowT ["_law_names_here", "_law_cell"] := ⟨⟨f27, _, (fun_mk (st := s_law_wrong_rowT) l27 c27 k27), PySem.W.mg_of X G a27, (fun_mk (st := s_law_wrong_rowT) l27 c27 k27).binds (ps := ["_law_names_here", "_law_cell"]) fun _ _ _ _ _ _ us hl => match us, hl with | [_, _], _ => rfl⟩⟩
  have d28 : DefAt K mg "_law_chain" s_law_chainT ["_law_name", "_law_many_here"] := ⟨⟨f28, _, (fun_mk (st := s_law_chainT) l28 c28 k28), PySem.W.mg_of X G a28, (fun_mk (st := s_law_chainT) l28 c28 k28).binds (ps := ["_law_name", "_law_many_here"]) fun _ _ _ _ _ _ us hl => match us, hl with | [_, _], _ => rfl⟩⟩
  have d29 : DefAt K mg "_law_nested" s_law_nestedT ["_law_many_here"] := ⟨⟨f29, _, (fun_mk (st := s_law_nestedT) l29 c29 k29), PySem.W.mg_of X G a29, (fun_mk (st := s_law_nestedT) l29 c29 k29).binds (ps := ["_law_many_here"]) fun _ _ _ _ _ _ us hl => match us, hl with | [_], _ => rfl⟩⟩
  have d30 : DefAt K mg "_law_two" s_law_twoT ["_law_cell"] := ⟨⟨f30, _, (fun_mk (st := s_law_twoT) l30 c30 k30), PySem.W.mg_of X G a30, (fun_mk (st := s_law_twoT) l30 c30 k30).binds (ps := ["_law_cell"]) fun _ _ _ _ _ _ us hl => match us, hl with | [_], _ => rfl⟩⟩
  have d31 : DefAt K mg "_law_wrong" s_law_wrongT ["_law_names_here", "_law_block", "_law_cell"] := ⟨⟨f31, _, (fun_mk (st := s_law_wrongT) l31 c31 k31), PySem.W.mg_of X G a31, (fun_mk (st := s_law_wrongT) l31 c31 k31).binds (ps := ["_law_names_here", "_law_block", "_law_cell"]) fun _ _ _ _ _ _ us hl => match us, hl with | [_, _, _], _ => rfl⟩⟩
  have d32 : DefAt K mg "_law_handed" s_law_handedT ["_law_block", "_law_way"] := ⟨⟨f32, _, (fun_mk (st := s_law_handedT) l32 c32 k32), PySem.W.mg_of X G a32, (fun_mk (st := s_law_handedT) l32 c32 k32).binds (ps := ["_law_block", "_law_way"]) fun _ _ _ _ _ _ us hl => match us, hl with | [_, _], _ => rfl⟩⟩
  have d33 : DefAt K mg "_law_blocks" s_law_blocksT ["_law_row"] := ⟨⟨f33, _, (fun_mk (st := s_law_blocksT) l33 c33 k33), PySem.W.mg_of X G a33, (fun_mk (st := s_law_blocksT) l33 c33 k33).binds (ps := ["_law_row"]) fun _ _ _ _ _ _ us hl => match us, hl with | [_], _ => rfl⟩⟩
  have d34 : DefAt K mg "_law_block_names" s_law_block_namesT ["_law_block"] := ⟨⟨f34, _, (fun_mk (st := s_law_block_namesT) l34 c34 k34), PySem.W.mg_of X G a34, (fun_mk (st := s_law_block_namesT) l34 c34 k34).binds (ps := ["_law_block"]) fun _ _ _ _ _ _ us hl => match us, hl with | [_], _ => rfl⟩⟩
  have d35 : DefAt K mg "all_names" s_all_names ["formula"] := ⟨⟨f35, _, (fun_mk (st := s_all_names) l35 c35 k35), PySem.W.mg_of X G a35, (fun_mk (st := s_all_names) l35 c35 k35).binds (ps := ["formula"]) fun _ _ _ _ _ _ us hl => match us, hl with | [_], _ => rfl⟩⟩
  have d36 : DefAt K mg "names_in" s_names_in ["formula"] := ⟨⟨f36, _, (fun_mk (st := s_names_in) l36 c36 k36), PySem.W.mg_of X G a36, (fun_mk (st := s_names_in) l36 c36 k36).binds (ps := ["formula"]) fun _ _ _ _ _ _ us hl => match us, hl with | [_], _ => rfl⟩⟩
  have d37 : DefAt K mg "all_in" s_all_in ["block"] := ⟨⟨f37, _, (fun_mk (st := s_all_in) l37 c37 k37), PySem.W.mg_of X G a37, (fun_mk (st := s_all_in) l37 c37 k37).binds (ps := ["block"]) fun _ _ _ _ _ _ us hl => match us, hl with | [_], _ => rfl⟩⟩
  have d38 : DefAt K mg "size_of" s_size_of ["row"] := ⟨⟨f38, _, (fun_mk (st := s_size_of) l38 c38 k38), PySem.W.mg_of X G a38, (fun_mk (st := s_size_of) l38 c38 k38).binds (ps := ["row"]) fun _ _ _ _ _ _ us hl => match us, hl with | [_], _ => rfl⟩⟩
  have d39 : DefAt K mg "many_in" s_many_in ["block"] := ⟨⟨f39, _, (fun_mk (st := s_many_in) l39 c39 k39), PySem.W.mg_of X G a39, (fun_mk (st := s_many_in) l39 c39 k39).binds (ps := ["block"]) fun _ _ _ _ _ _ us hl => match us, hl with | [_], _ => rfl⟩⟩
  have d40 : DefAt K mg "_law_whole" s_law_whole ["_law_found"] := ⟨⟨f40, _, (fun_mk (st := s_law_whole) l40 c40 k40), PySem.W.mg_of X G a40, (fun_mk (st := s_law_whole) l40 c40 k40).binds (ps := ["_law_found"]) fun _ _ _ _ _ _ us hl => match us, hl with | [_], _ => rfl⟩⟩
  have d41 : DefAt K mg "_law_many" s_law_manyT ["_law_block"] := ⟨⟨f41, _, (fun_mk (st := s_law_manyT) l41 c41 k41), PySem.W.mg_of X G a41, (fun_mk (st := s_law_manyT) l41 c41 k41).binds (ps := ["_law_block"]) fun _ _ _ _ _ _ us hl => match us, hl with | [_], _ => rfl⟩⟩
  have d42 : DefAt K mg "_law_asked" s_law_askedT ["_law_program", "_law_names_here", "_law_pairs", "_law_block", "_law_way"] := ⟨⟨f42, _, (fun_mk (st := s_law_askedT) l42 c42 k42), PySem.W.mg_of X G a42, (fun_mk (st := s_law_askedT) l42 c42 k42).binds (ps := ["_law_program", "_law_names_here", "_law_pairs", "_law_block", "_law_way"]) fun _ _ _ _ _ _ us hl => match us, hl with | [_, _, _, _, _], _ => rfl⟩⟩
  have d43 : DefAt K mg "_law_changed" s_law_changedT ["_law_block"] := ⟨⟨f43, _, (fun_mk (st := s_law_changedT) l43 c43 k43), PySem.W.mg_of X G a43, (fun_mk (st := s_law_changedT) l43 c43 k43).binds (ps := ["_law_block"]) fun _ _ _ _ _ _ us hl => match us, hl with | [_], _ => rfl⟩⟩
  have cc_Program : CC K "Program" as_Program C_Program := ⟨aC_Program, ⟨pg_Program, hd_Program, po_Program, sa_Program⟩, fun f hf => by
    simp only [as_Program, List.mem_cons, List.not_mem_nil, or_false] at hf
    rcases hf with rfl | rfl | rfl
    · exact n_Program_opened
    · exact n_Program_hidden
    · exact n_Program_inner⟩
  have got_NoName : XGot K "NoName" e_NoName := ⟨by decide, n_NoName, ⟨ga_NoName, gg_NoName, b_NoName, hd_NoName, ha_NoName, y_get, y_tak, hm_NoName⟩, ⟨e_HushError, n_HushError, PySem.W.exm_ref b_HushError d_HushError t_HushError u_NoName⟩, v_NoName, fun y hy => by
    simp only [XNames, List.mem_cons, List.not_mem_nil, or_false] at hy
    rcases hy with rfl | rfl | rfl | rfl | rfl | rfl | rfl
    · exact ⟨e_NoName, n_NoName, q_NoName_NoName⟩
    · exact ⟨e_Twice, n_Twice, q_NoName_Twice⟩
    · exact ⟨e_NoRow, n_NoRow, q_NoName_NoRow⟩
    · exact ⟨e_TooDeep, n_TooDeep, q_NoName_TooDeep⟩
    · exact ⟨e_NoValues, n_NoValues, q_NoName_NoValues⟩
    · exact ⟨e_NoTurns, n_NoTurns, q_NoName_NoTurns⟩
    · exact ⟨e_NoLine, n_NoLine, q_NoName_NoLine⟩⟩
  have got_Twice : XGot K "Twice" e_Twice := ⟨by decide, n_Twice, ⟨ga_Twice, gg_Twice, b_Twice, hd_Twice, ha_Twice, y_get, y_tak, hm_Twice⟩, ⟨e_HushError, n_HushError, PySem.W.exm_ref b_HushError d_HushError t_HushError u_Twice⟩, v_Twice, fun y hy => by
    simp only [XNames, List.mem_cons, List.not_mem_nil, or_false] at hy
    rcases hy with rfl | rfl | rfl | rfl | rfl | rfl | rfl
    · exact ⟨e_NoName, n_NoName, q_Twice_NoName⟩
    · exact ⟨e_Twice, n_Twice, q_Twice_Twice⟩
    · exact ⟨e_NoRow, n_NoRow, q_Twice_NoRow⟩
    · exact ⟨e_TooDeep, n_TooDeep, q_Twice_TooDeep⟩
    · exact ⟨e_NoValues, n_NoValues, q_Twice_NoValues⟩
    · exact ⟨e_NoTurns, n_NoTurns, q_Twice_NoTurns⟩
    · exact ⟨e_NoLine, n_NoLine, q_Twice_NoLine⟩⟩
  have got_NoRow : XGot K "NoRow" e_NoRow := ⟨by decide, n_NoRow, ⟨ga_NoRow, gg_NoRow, b_NoRow, hd_NoRow, ha_NoRow, y_get, y_tak, hm_NoRow⟩, ⟨e_HushError, n_HushError, PySem.W.exm_ref b_HushError d_HushError t_HushError u_NoRow⟩, v_NoRow, fun y hy => by
    simp only [XNames, List.mem_cons, List.not_mem_nil, or_false] at hy
    rcases hy with rfl | rfl | rfl | rfl | rfl | rfl | rfl
    · exact ⟨e_NoName, n_NoName, q_NoRow_NoName⟩
    · exact ⟨e_Twice, n_Twice, q_NoRow_Twice⟩
    · exact ⟨e_NoRow, n_NoRow, q_NoRow_NoRow⟩
    · exact ⟨e_TooDeep, n_TooDeep, q_NoRow_TooDeep⟩
    · exact ⟨e_NoValues, n_NoValues, q_NoRow_NoValues⟩
    · exact ⟨e_NoTurns, n_NoTurns, q_NoRow_NoTurns⟩
    · exact ⟨e_NoLine, n_NoLine, q_NoRow_NoLine⟩⟩
  have got_TooDeep : XGot K "TooDeep" e_TooDeep := ⟨by decide, n_TooDeep, ⟨ga_TooDeep, gg_TooDeep, b_TooDeep, hd_TooDeep, ha_TooDeep, y_get, y_tak, hm_TooDeep⟩, ⟨e_HushError, n_HushError, PySem.W.exm_ref b_HushError d_HushError t_HushError u_TooDeep⟩, v_TooDeep, fun y hy => by
    simp only [XNames, List.mem_cons, List.not_mem_nil, or_false] at hy
    rcases hy with rfl | rfl | rfl | rfl | rfl | rfl | rfl
    · exact ⟨e_NoName, n_NoName, q_TooDeep_NoName⟩
    · exact ⟨e_Twice, n_Twice, q_TooDeep_Twice⟩
    · exact ⟨e_NoRow, n_NoRow, q_TooDeep_NoRow⟩
    · exact ⟨e_TooDeep, n_TooDeep, q_TooDeep_TooDeep⟩
    · exact ⟨e_NoValues, n_NoValues, q_TooDeep_NoValues⟩
    · exact ⟨e_NoTurns, n_NoTurns, q_TooDeep_NoTurns⟩
    · exact ⟨e_NoLine, n_NoLine, q_TooDeep_NoLine⟩⟩
  have top : XTop K ["NoName", "Twice", "NoRow", "TooDeep"] := ⟨fun x hx => by
    simp only [List.mem_cons, List.not_mem_nil, or_false] at hx
    rcases hx with rfl | rfl | rfl | rfl
    · exact ⟨_, got_NoName⟩
    · exact ⟨_, got_Twice⟩
    · exact ⟨_, got_NoRow⟩
    · exact ⟨_, got_TooDeep⟩⟩
  have T : Top K mg := ⟨d0, d1, d2, d3, d4, d5, d6, d7, d8, d9, d10, d11, d12, d13, d14, d15, d16, d17, d18, d19, d20, d21, d22, d23, d24, d25, d26, d27, d28, d29, d30, d31, d32, d33, d34, d35, d36, d37, d38, d39, d40, d41, d42, d43, ⟨C_Program, cc_Program, PySem.W.mg_of X G aC_Program, ⟨⟨f45, _, (fun_mk (x := "__init__") (qual := "Program.__init__") (st := s_Program___init__T) l45 c45 k45), ⟨mk_Program, a45, i45, kc_Program⟩, (fun_mk (x := "__init__") (qual := "Program.__init__") (st := s_Program___init__T) l45 c45 k45).binds (ps := ["self", "opens", "secrets", "block"]) fun _ _ _ _ _ _ us hl => match us, hl with | [_, _, _, _], _ => rfl⟩⟩, ⟨⟨f46, _, (fun_mk (x := "names") (qual := "Program.names") (st := s_Program_names) l46 c46 k46), ⟨a46, i46, k46⟩, (fun_mk (x := "names") (qual := "Program.names") (st := s_Program_names) l46 c46 k46).binds (ps := ["self"]) fun _ _ _ _ _ _ us hl => match us, hl with | [_], _ => rfl⟩⟩, ⟨⟨f47, _, (fun_mk (x := "told") (qual := "Program.told") (st := s_Program_told) l47 c47 k47), ⟨a47, i47, k47⟩, (fun_mk (x := "told") (qual := "Program.told") (st := s_Program_told) l47 c47 k47).binds (ps := ["self"]) fun _ _ _ _ _ _ us hl => match us, hl with | [_], _ => rfl⟩⟩, ⟨⟨f48, _, (fun_mk (x := "block") (qual := "Program.block") (st := s_Program_block) l48 c48 k48), ⟨a48, i48, k48⟩, (fun_mk (x := "block") (qual := "Program.block") (st := s_Program_block) l48 c48 k48).binds (ps := ["self"]) fun _ _ _ _ _ _ us hl => match us, hl with | [_], _ => rfl⟩⟩, ⟨⟨f49, _, (fun_mk (x := "many") (qual := "Program.many") (st := s_Program_many) l49 c49 k49), ⟨a49, i49, k49⟩, (fun_mk (x := "many") (qual := "Program.many") (st := s_Program_many) l49 c49 k49).binds (ps := ["self"]) fun _ _ _ _ _ _ us hl => match us, hl with | [_], _ => rfl⟩⟩, ⟨⟨f50, _, (fun_mk (x := "kind") (qual := "Program.kind") (st := s_Program_kind) l50 c50 k50), ⟨a50, i50, k50⟩, (fun_mk (x := "kind") (qual := "Program.kind") (st := s_Program_kind) l50 c50 k50).binds (ps := ["self", "name"]) fun _ _ _ _ _ _ us hl => match us, hl with | [_, _], _ => rfl⟩⟩⟩, PySem.W.mg_none_of X G z_range, PySem.W.mg_none_of X G z_len, PySem.W.mg_none_of X G z_int, PySem.W.mg_none_of X G z_tuple, PySem.W.mg_none_of X G z_enumerate, PySem.W.mg_none_of X G z_isinstance, PySem.W.mg_none_of X G z_list, PySem.W.mg_none_of X G z_str, PySem.W.mg_none_of X G z_bool, PySem.W.mg_none_of X G z_ValueError, PySem.W.mg_none_of X G z_sorted, PySem.W.mg_none_of X G z_set, PySem.W.mg_none_of X G z_sum, ⟨_, PySem.W.mg_of X G g_WORDS, fun H => .inr ⟨_, _, _, l_WORDS, rfl, rfl, show 7 ≤ sizeLine from by decide, .cons ⟨_, rfl⟩ (.cons ⟨_, rfl⟩ (.cons ⟨_, rfl⟩ (.cons ⟨_, rfl⟩ (.cons ⟨_, rfl⟩ (.cons ⟨_, rfl⟩ (.cons ⟨_, rfl⟩ (.nil)))))))⟩⟩, ⟨_, PySem.W.mg_of X G g_LETTERS⟩, ⟨_, PySem.W.mg_of X G g_FIGURES⟩, ⟨_, PySem.W.mg_of X G g_LIMIT⟩, ⟨_, PySem.W.mg_of X G g_SIGNS, fun H => .inr ⟨_, _, _, l_SIGNS, rfl, rfl, show 6 ≤ sizeLine from by decide, .cons ⟨_, rfl⟩ (.cons ⟨_, rfl⟩ (.cons ⟨_, rfl⟩ (.cons ⟨_, rfl⟩ (.cons ⟨_, rfl⟩ (.cons ⟨_, rfl⟩ (.nil))))))⟩⟩, ⟨_, PySem.W.mg_of X G g_DEEPEST_ROW⟩, ⟨_, PySem.W.mg_of X G g_MOST_DEEP⟩, ⟨e_NoName, n_NoName, PySem.W.mg_of X G n_NoName, xx_NoName, k_NoName, b_NoName, t_NoName⟩, ⟨e_Twice, n_Twice, PySem.W.mg_of X G n_Twice, xx_Twice, k_Twice, b_Twice, t_Twice⟩, ⟨e_NoRow, n_NoRow, PySem.W.mg_of X G n_NoRow, xx_NoRow, k_NoRow, b_NoRow, t_NoRow⟩, ⟨e_TooDeep, n_TooDeep, PySem.W.mg_of X G n_TooDeep, xx_TooDeep, k_TooDeep, b_TooDeep, t_TooDeep⟩, ⟨e_NoName, n_NoName, PySem.W.mg_of X G n_NoName⟩, ⟨e_Twice, n_Twice, PySem.W.mg_of X G n_Twice⟩, ⟨e_NoRow, n_NoRow, PySem.W.mg_of X G n_NoRow⟩, ⟨e_TooDeep, n_TooDeep, PySem.W.mg_of X G n_TooDeep⟩, ⟨e_NoValues, n_NoValues, PySem.W.mg_of X G n_NoValues⟩, ⟨e_NoTurns, n_NoTurns, PySem.W.mg_of X G n_NoTurns⟩, ⟨e_NoLine, n_NoLine, PySem.W.mg_of X G n_NoLine⟩, ⟨e_HushError, n_HushError, PySem.W.mg_of X G n_HushError⟩, top⟩
  exact ⟨PySem.W.fnOf "law" "law" (defArgs s_k05) (defBody s_k05) (defScope s_k05) .none kV44 dc44 pm44 an44 cd44 ct44, fun s v => .of_eq rfl, fun base _ _ => ok_law T (fun_mk (st := s_k05) l44 c44 k44)⟩
theorem walk {l : PySem.W.OpenLaw} {q : Program} {loose : List Str} {XP : (Str → Option Value) → Heap → Prop} {YP : World → Heap → Prop} {d : DefRec} {K : Params → PySem.W.Frag} (hn : l.most = some 63) (hdf : d.params.defaults = [])
    (hY : ∀ (w : World) (h : Heap), YP w h → (K w.params).In h)
    (F : ∀ (w : World) (mg : Str → Option Value) (fa : Addr) (h : Heap), (K w.params).In h → h.Ns mainGlobals mg → mg d.name = some (.ref fa) →
      ∃ fd : FuncData, (∀ (s : Shared) (u : Value), BindsTo s fd ⟨[u], []⟩ [("_law_script", u)]) ∧ ∀ base : Heap, (K w.params).In base → base.Ns mainGlobals mg → FnOk l.prog w (K w.params) mg base CX0 41 fa fd ["_law_script"] (sp_k05 (K w.params))) :
    PySem.W.WalkO q loose XP YP l.row.toRowW d [] (fun f vs => PySem.call f vs) :=
  L2.walk_of (n := 63) (k := 41) (x := "_law_script") (CX := fun _ => CX0) (sp := fun w => sp_k05 (K w.params)) hn (by decide) hdf ⟨rfl, by decide, by decide⟩ hY F (fun w H a ns hl ho hS => law_in_k05 (K w.params) H a ns hl hS) fun _ _ _ _ _ z => z
end Hu
open PySem PySem.W PyProof.Rows
set_option maxRecDepth 100000 in
set_option maxHeartbeats 0 in
theorem PySem.Challenge.cw_hushkind_k05_programs_made_holds : PySem.Challenge.rw_hushkind_k05_programs_made.Holds := by
  w_on; o_law; k_head; (case hw => w_witness2)
  k_fill
  refine Hu.walk (l := PySem.Challenge.rw_hushkind_k05_programs_made) rfl rfl (fun w h Y => PySem.W.kIn_of Y) ?F
  case F =>
    intro w mg fa h KX G hmg
    refine' Hu.all_mk KX G hmg ?aC_Program ?pg_Program ?hd_Program ?po_Program ?sa_Program ?mk_Program ?kc_Program ?n_Program_opened ?n_Program_hidden ?n_Program_inner ?a0 ?l0 ?c0 ?k0 ?a1 ?l1 ?c1 ?k1 ?a2 ?l2 ?c2 ?k2 ?a3 ?l3 ?c3 ?k3 ?a4 ?l4 ?c4 ?k4 ?a5 ?l5 ?c5 ?k5 ?a6 ?l6 ?c6 ?k6 ?a7 ?l7 ?c7 ?k7 ?a8 ?l8 ?c8 ?k8 ?a9 ?l9 ?c9 ?k9 ?a10 ?l10 ?c10 ?k10 ?a11 ?l11 ?c11 ?k11 ?a12 ?l12 ?c12 ?k12 ?a13 ?l13 ?c13 ?k13 ?a14 ?l14 ?c14 ?k14 ?a15 ?l15 ?c15 ?k15 ?a16 ?l16 ?c16 ?k16 ?a17 ?l17 ?c17 ?k17 ?a18 ?l18 ?c18 ?k18 ?a19 ?l19 ?c19 ?k19 ?a20 ?l20 ?c20 ?k20 ?a21 ?l21 ?c21 ?k21 ?a22 ?l22 ?c22 ?k22 ?a23 ?l23 ?c23 ?k23 ?a24 ?l24 ?c24 ?k24 ?a25 ?l25 ?c25 ?k25 ?a26 ?l26 ?c26 ?k26 ?a27 ?l27 ?c27 ?k27 ?a28 ?l28 ?c28 ?k28 ?a29 ?l29 ?c29 ?k29 ?a30 ?l30 ?c30 ?k30 ?a31 ?l31 ?c31 ?k31 ?a32 ?l32 ?c32 ?k32 ?a33 ?l33 ?c33 ?k33 ?a34 ?l34 ?c34 ?k34 ?a35 ?l35 ?c35 ?k35 ?a36 ?l36 ?c36 ?k36 ?a37 ?l37 ?c37 ?k37 ?a38 ?l38 ?c38 ?k38 ?a39 ?l39 ?c39 ?k39 ?a40 ?l40 ?c40 ?k40 ?a41 ?l41 ?c41 ?k41 ?a42 ?l42 ?c42 ?k42 ?a43 ?l43 ?c43 ?k43 ?a44 ?l44 ?c44 ?k44 ?a45 ?i45 ?l45 ?c45 ?k45 ?a46 ?i46 ?l46 ?c46 ?k46 ?a47 ?i47 ?l47 ?c47 ?k47 ?a48 ?i48 ?l48 ?c48 ?k48 ?a49 ?i49 ?l49 ?c49 ?k49 ?a50 ?i50 ?l50 ?c50 ?k50 ?z_range ?z_len ?z_int ?z_tuple ?z_enumerate ?z_isinstance ?z_list ?z_str ?z_bool ?z_ValueError ?z_sorted ?z_set ?z_sum ?g_WORDS ?l_WORDS ?g_LETTERS ?g_FIGURES ?g_LIMIT ?g_SIGNS ?l_SIGNS ?g_DEEPEST_ROW ?g_MOST_DEEP ?n_HushError ?n_NoName ?n_Twice ?n_NoRow ?n_TooDeep ?n_NoValues ?n_NoTurns ?n_NoLine ?b_HushError ?d_HushError ?t_HushError ?y_get ?y_tak ?xx_NoName ?k_NoName ?b_NoName ?t_NoName ?ga_NoName ?gg_NoName ?hd_NoName ?ha_NoName ?hm_NoName ?u_NoName ?v_NoName ?q_NoName_NoName ?q_NoName_Twice ?q_NoName_NoRow ?q_NoName_TooDeep ?q_NoName_NoValues ?q_NoName_NoTurns ?q_NoName_NoLine ?xx_Twice ?k_Twice ?b_Twice ?t_Twice ?ga_Twice ?gg_Twice ?hd_Twice ?ha_Twice ?hm_Twice ?u_Twice ?v_Twice ?q_Twice_NoName ?q_Twice_Twice ?q_Twice_NoRow ?q_Twice_TooDeep ?q_Twice_NoValues ?q_Twice_NoTurns ?q_Twice_NoLine ?xx_NoRow ?k_NoRow ?b_NoRow ?t_NoRow ?ga_NoRow ?gg_NoRow ?hd_NoRow ?ha_NoRow ?hm_NoRow ?u_NoRow ?v_NoRow ?q_NoRow_NoName ?q_NoRow_Twice ?q_NoRow_NoRow ?q_NoRow_TooDeep ?q_NoRow_NoValues ?q_NoRow_NoTurns ?q_NoRow_NoLine ?xx_TooDeep ?k_TooDeep ?b_TooDeep ?t_TooDeep ?ga_TooDeep ?gg_TooDeep ?hd_TooDeep ?ha_TooDeep ?hm_TooDeep ?u_TooDeep ?v_TooDeep ?q_TooDeep_NoName ?q_TooDeep_Twice ?q_TooDeep_NoRow ?q_TooDeep_TooDeep ?q_TooDeep_NoValues ?q_TooDeep_NoTurns ?q_TooDeep_NoLine
    (case aC_Program => k_is)
    (case pg_Program => k_is)
    (case hd_Program => k_is)
    (case po_Program => k_is)
    (case sa_Program => k_is)
    (case mk_Program => k_is)
    (case kc_Program => k_is)
    (case n_Program_opened => k_is)
    (case n_Program_hidden => k_is)
    (case n_Program_inner => k_is)
    (case a0 => k_is)
    (case l0 => k_is)
    (case c0 => k_is)
    (case k0 => k_is)
    (case a1 => k_is)
    (case l1 => k_is)
    (case c1 => k_is)
    (case k1 => k_is)
    (case a2 => k_is)
    (case l2 => k_is)
    (case c2 => k_is)
    (case k2 => k_is)
    (case a3 => k_is)
    (case l3 => k_is)
    (case c3 => k_is)
    (case k3 => k_is)
    (case a4 => k_is)
    (case l4 => k_is)
    (case c4 => k_is)
    (case k4 => k_is)
    (case a5 => k_is)
    (case l5 => k_is)
    (case c5 => k_is)
    (case k5 => k_is)
    (case a6 => k_is)
    (case l6 => k_is)
    (case c6 => k_is)
    (case k6 => k_is)
    (case a7 => k_is)
    (case l7 => k_is)
    (case c7 => k_is)
    (case k7 => k_is)
    (case a8 => k_is)
    (case l8 => k_is)
    (case c8 => k_is)
    (case k8 => k_is)
    (case a9 => k_is)
    (case l9 => k_is)
    (case c9 => k_is)
    (case k9 => k_is)
    (case a10 => k_is)
    (case l10 => k_is)
    (case c10 => k_is)
    (case k10 => k_is)
    (case a11 => k_is)
    (case l11 => k_is)
    (case c11 => k_is)
    (case k11 => k_is)
    (case a12 => k_is)
    (case l12 => k_is)
    (case c12 => k_is)
    (case k12 => k_is)
    (case a13 => k_is)
    (case l13 => k_is)
    (case c13 => k_is)
    (case k13 => k_is)
    (case a14 => k_is)
    (case l14 => k_is)
    (case c14 => k_is)
    (case k14 => k_is)
    (case a15 => k_is)
    (case l15 => k_is)
    (case c15 => k_is)
    (case k15 => k_is)
    (case a16 => k_is)
    (case l16 => k_is)
    (case c16 => k_is)
    (case k16 => k_is)
    (case a17 => k_is)
    (case l17 => k_is)
    (case c17 => k_is)
    (case k17 => k_is)
    (case a18 => k_is)
    (case l18 => k_is)
    (case c18 => k_is)
    (case k18 => k_is)
    (case a19 => k_is)
    (case l19 => k_is)
    (case c19 => k_is)
    (case k19 => k_is)
    (case a20 => k_is)
    (case l20 => k_is)
    (case c20 => k_is)
    (case k20 => k_is)
    (case a21 => k_is)
    (case l21 => k_is)
    (case c21 => k_is)
    (case k21 => k_is)
    (case a22 => k_is)
    (case l22 => k_is)
    (case c22 => k_is)
    (case k22 => k_is)
    (case a23 => k_is)
    (case l23 => k_is)
    (case c23 => k_is)
    (case k23 => k_is)
    (case a24 => k_is)
    (case l24 => k_is)
    (case c24 => k_is)
    (case k24 => k_is)
    (case a25 => k_is)
    (case l25 => k_is)
    (case c25 => k_is)
    (case k25 => k_is)
    (case a26 => k_is)
    (case l26 => k_is)
    (case c26 => k_is)
    (case k26 => k_is)
    (case a27 => k_is)
    (case l27 => k_is)
    (case c27 => k_is)
    (case k27 => k_is)
    (case a28 => k_is)
    (case l28 => k_is)
    (case c28 => k_is)
    (case k28 => k_is)
    (case a29 => k_is)
    (case l29 => k_is)
    (case c29 => k_is)
    (case k29 => k_is)
    (case a30 => k_is)
    (case l30 => k_is)
    (case c30 => k_is)
    (case k30 => k_is)
    (case a31 => k_is)
    (case l31 => k_is)
    (case c31 => k_is)
    (case k31 => k_is)
    (case a32 => k_is)
    (case l32 => k_is)
    (case c32 => k_is)
    (case k32 => k_is)
    (case a33 => k_is)
    (case l33 => k_is)
    (case c33 => k_is)
    (case k33 => k_is)
    (case a34 => k_is)
    (case l34 => k_is)
    (case c34 => k_is)
    (case k34 => k_is)
    (case a35 => k_is)
    (case l35 => k_is)
    (case c35 => k_is)
    (case k35 => k_is)
    (case a36 => k_is)
    (case l36 => k_is)
    (case c36 => k_is)
    (case k36 => k_is)
    (case a37 => k_is)
    (case l37 => k_is)
    (case c37 => k_is)
    (case k37 => k_is)
    (case a38 => k_is)
    (case l38 => k_is)
    (case c38 => k_is)
    (case k38 => k_is)
    (case a39 => k_is)
    (case l39 => k_is)
    (case c39 => k_is)
    (case k39 => k_is)
    (case a40 => k_is)
    (case l40 => k_is)
    (case c40 => k_is)
    (case k40 => k_is)
    (case a41 => k_is)
    (case l41 => k_is)
    (case c41 => k_is)
    (case k41 => k_is)
    (case a42 => k_is)
    (case l42 => k_is)
    (case c42 => k_is)
    (case k42 => k_is)
    (case a43 => k_is)
    (case l43 => k_is)
    (case c43 => k_is)
    (case k43 => k_is)
    (case a44 => k_is)
    (case l44 => k_is)
    (case c44 => k_is)
    (case k44 => k_is)
    (case a45 => k_is)
    (case i45 => k_is)
    (case l45 => k_is)
    (case c45 => k_is)
    (case k45 => k_is)
    (case a46 => k_is)
    (case i46 => k_is)
    (case l46 => k_is)
    (case c46 => k_is)
    (case k46 => k_is)
    (case a47 => k_is)
    (case i47 => k_is)
    (case l47 => k_is)
    (case c47 => k_is)
    (case k47 => k_is)
    (case a48 => k_is)
    (case i48 => k_is)
    (case l48 => k_is)
    (case c48 => k_is)
    (case k48 => k_is)
    (case a49 => k_is)
    (case i49 => k_is)
    (case l49 => k_is)
    (case c49 => k_is)
    (case k49 => k_is)
    (case a50 => k_is)
    (case i50 => k_is)
    (case l50 => k_is)
    (case c50 => k_is)
    (case k50 => k_is)
    (case z_range => k_is)
    (case z_len => k_is)
    (case z_int => k_is)
    (case z_tuple => k_is)
    (case z_enumerate => k_is)
    (case z_isinstance => k_is)
    (case z_list => k_is)
    (case z_str => k_is)
    (case z_bool => k_is)
    (case z_ValueError => k_is)
    (case z_sorted => k_is)
    (case z_set => k_is)
    (case z_sum => k_is)
    (case g_WORDS => k_is)
    (case l_WORDS => k_is)
    (case g_LETTERS => k_is)
    (case g_FIGURES => k_is)
    (case g_LIMIT => k_is)
    (case g_SIGNS => k_is)
    (case l_SIGNS => k_is)
    (case g_DEEPEST_ROW => k_is)
    (case g_MOST_DEEP => k_is)
    (case n_HushError => k_is)
    (case n_NoName => k_is)
    (case n_Twice => k_is)
    (case n_NoRow => k_is)
    (case n_TooDeep => k_is)
    (case n_NoValues => k_is)
    (case n_NoTurns => k_is)
    (case n_NoLine => k_is)
    (case b_HushError => k_is)
    (case d_HushError => k_is)
    (case t_HushError => k_is)
    (case y_get => first | k_is | rfl)
    (case y_tak => first | k_is | rfl)
    (case xx_NoName => k_exc)
    (case k_NoName => k_is)
    (case b_NoName => k_is)
    (case t_NoName => k_is)
    (case ga_NoName => k_is)
    (case gg_NoName => k_is)
    (case hd_NoName => k_is)
    (case ha_NoName => k_is)
    (case hm_NoName => k_is)
    (case u_NoName => first | k_is | rfl)
    (case v_NoName => first | k_is | rfl)
    (case q_NoName_NoName => first | k_is | rfl)
    (case q_NoName_Twice => first | k_is | rfl)
    (case q_NoName_NoRow => first | k_is | rfl)
    (case q_NoName_TooDeep => first | k_is | rfl)
    (case q_NoName_NoValues => first | k_is | rfl)
    (case q_NoName_NoTurns => first | k_is | rfl)
    (case q_NoName_NoLine => first | k_is | rfl)
    (case xx_Twice => k_exc)
    (case k_Twice => k_is)
    (case b_Twice => k_is)
    (case t_Twice => k_is)
    (case ga_Twice => k_is)
    (case gg_Twice => k_is)
    (case hd_Twice => k_is)
    (case ha_Twice => k_is)
    (case hm_Twice => k_is)
    (case u_Twice => first | k_is | rfl)
    (case v_Twice => first | k_is | rfl)
    (case q_Twice_NoName => first | k_is | rfl)
    (case q_Twice_Twice => first | k_is | rfl)
    (case q_Twice_NoRow => first | k_is | rfl)
    (case q_Twice_TooDeep => first | k_is | rfl)
    (case q_Twice_NoValues => first | k_is | rfl)
    (case q_Twice_NoTurns => first | k_is | rfl)
    (case q_Twice_NoLine => first | k_is | rfl)
    (case xx_NoRow => k_exc)
    (case k_NoRow => k_is)
    (case b_NoRow => k_is)
    (case t_NoRow => k_is)
    (case ga_NoRow => k_is)
    (case gg_NoRow => k_is)
    (case hd_NoRow => k_is)
    (case ha_NoRow => k_is)
    (case hm_NoRow => k_is)
    (case u_NoRow => first | k_is | rfl)
    (case v_NoRow => first | k_is | rfl)
    (case q_NoRow_NoName => first | k_is | rfl)
    (case q_NoRow_Twice => first | k_is | rfl)
    (case q_NoRow_NoRow => first | k_is | rfl)
    (case q_NoRow_TooDeep => first | k_is | rfl)
    (case q_NoRow_NoValues => first | k_is | rfl)
    (case q_NoRow_NoTurns => first | k_is | rfl)
    (case q_NoRow_NoLine => first | k_is | rfl)
    (case xx_TooDeep => k_exc)
    (case k_TooDeep => k_is)
    (case b_TooDeep => k_is)
    (case t_TooDeep => k_is)
    (case ga_TooDeep => k_is)
    (case gg_TooDeep => k_is)
    (case hd_TooDeep => k_is)
    (case ha_TooDeep => k_is)
    (case hm_TooDeep => k_is)
    (case u_TooDeep => first | k_is | rfl)
    (case v_TooDeep => first | k_is | rfl)
    (case q_TooDeep_NoName => first | k_is | rfl)
    (case q_TooDeep_Twice => first | k_is | rfl)
    (case q_TooDeep_NoRow => first | k_is | rfl)
    (case q_TooDeep_TooDeep => first | k_is | rfl)
    (case q_TooDeep_NoValues => first | k_is | rfl)
    (case q_TooDeep_NoTurns => first | k_is | rfl)
    (case q_TooDeep_NoLine => first | k_is | rfl)
#print axioms PySem.Challenge.cw_hushkind_k05_programs_made_holds
