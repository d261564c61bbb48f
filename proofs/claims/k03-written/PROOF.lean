import PyProof.Rows.All
import Wide.All
import OpenK.AllK
import Wide.FinOn
import HandS.ForMost
import HandS.TupAny
import HandS.IsInst
import HandS.Codes
import HandS.More
import HandS.Small
import HandS.DictComp
import HandS.DeepEq
import HandS.SetFor
import HandS.Strs
import HandS.Walk
import HandS.Rev
import HandS.Codes
import HandS.Finally
import PyProof.ListRange
import PyProof.Rows.SortShellAny
import PySem.Challenge.RW_hushkind_k03_blocks_written
set_option Elab.async false
set_option linter.all false
set_option maxRecDepth 100000
set_option maxHeartbeats 4000000
namespace Hu
open PySem PySem.Spec PyProof.Rows L2
def rAddI : R2 := rI0 fun i j => .int (i + j)
def rAddT : R2 := fun x y H Q => ∃ i j, x = .str i ∧ y = .str j ∧ i.length + j.length ≤ sizeLine ∧ Q (.str (i ++ j)) H
def rAdd (K : PySem.W.Frag) : R2 := fun x y H Q => rAddI x y H Q ∨ rAddT x y H Q ∨ rCat x y H Q ∨ rCatA K x y H Q
def rSub : R2 := rI0 fun i j => .int (i - j)
def rMulI : R2 := rI CMul fun i j => .int (i * j)
def rMul : R2 := fun x y H Q => rMulI x y H Q ∨ rRep x y H Q
def rMod : R2 := rI (fun _ j => 0 < j) fun i j => .int (i % j)
def rDiv : R2 := rI CDiv fun i j => .int (i / j)
def rPow : R2 := rI CPow fun i j => .int (i ^ j.toNat)
def rLt : R2 := rI0 fun i j => .bl (decide (i < j))
def rLe : R2 := rI0 fun i j => .bl (decide (i ≤ j))
def rGt : R2 := rI0 fun i j => .bl (decide (j < i))
def rGe : R2 := rI0 fun i j => .bl (decide (j ≤ i))
def rEq2 (K : PySem.W.Frag) : R2 := fun x y H Q => rEq x y H Q ∨ rEqD K x y H Q ∨ rEqDA x y H Q ∨ rEqV K x y H Q
def rNe2 (K : PySem.W.Frag) : R2 := fun x y H Q => rNe x y H Q ∨ rNeD K x y H Q ∨ rNeDA x y H Q
def rInSg (neg : Bool) : R2 := fun x y H Q => ∃ (c : Nat) (z : Str), x = .str ⟨#[c]⟩ ∧ y = .str z ∧ Q (.bl (if neg then !decide (c ∈ z.cps.toList) else decide (c ∈ z.cps.toList))) H
def rIn2 (K : PySem.W.Frag) (neg : Bool) : R2 := fun x y H Q => rIn K neg x y H Q ∨ rInSg neg x y H Q
def rIsN2 (neg : Bool) : R2 := fun x y H Q => y = .non ∧ Q (.bl (if neg then !decide (x = .non) else decide (x = .non))) H
def rNeg : V → Hp → VK → Prop := rU fun i => .int (-i)
def rSl (K : PySem.W.Frag) : V → Option Int → Option Int → Hp → VK → Prop := fun x lo hi H Q => rSlL K x lo hi H Q ∨ rSlA K x lo hi H Q ∨ C8.rSlX x lo hi H Q
def rLenA (K : PySem.W.Frag) : List V → Hp → VK → Prop := fun xs H Q => ∃ x n, xs = [x] ∧ LenV K x H n ∧ Q (.int (n : Nat)) H
def rIntB : List V → Hp → VK → Prop := fun xs H Q => (∃ i, xs = [.int i] ∧ Q (.int i) H) ∨ ∃ k, xs = [.bl k] ∧ Q (.int (if k then 1 else 0)) H
def rIntS : List V → Hp → VK → Prop := fun xs H Q => ∃ a n, xs = [.str a] ∧ PySem.intText? a = some n ∧ a.length ≤ 640 ∧ Q (.int n) H
def rInt : List V → Hp → VK → Prop := fun xs H Q => rIntB xs H Q ∨ rIntS xs H Q
def rStr : List V → Hp → VK → Prop := fun xs H Q => ∃ i, xs = [.int i] ∧ i.natAbs.log2 < 1920 ∧ Q (.str (toString i)) H
def rListS (K : PySem.W.Frag) : List V → Hp → VK → Prop := fun xs H Q => ∃ p ys, xs = [.ref p] ∧ (SqL K H p ys ∨ SqT K H p ys) ∧ ∀ l, H l = none → Q (.ref l) (upd H l (.lst ys))
def rListD : List V → Hp → VK → Prop := fun xs H Q => ∃ (a : Addr) (kvs : List (Key × V)), xs = [.ref a] ∧ Rd H a (.dK kvs) ∧ ∀ p, H p = none → Q (.ref p) (upd H p (.lst (kvs.map fun kv => kV kv.1)))
def rList (K : PySem.W.Frag) : List V → Hp → VK → Prop := fun xs H Q => rListS K xs H Q ∨ rListD xs H Q
def rTupO (K : PySem.W.Frag) : List V → Hp → VK → Prop := fun xs H Q => ∃ p ys, xs = [.ref p] ∧ ((SqL K H p ys ∧ ∀ l, H l = none → Q (.ref l) (upd H l (.tup ys))) ∨ (SqT K H p ys ∧ Q (.ref p) H))
def rIsi2 (K : PySem.W.Frag) : List V → Hp → VK → Prop := fun xs H Q => rIsi K xs H Q ∨ rIsiT K xs H Q
section
variable {X : Cx}
theorem o_add : OpR X (binaryOp .Add) (rAdd X.K) := OpR.or op_add (OpR.or op_add_str (OpR.or op_cat op_catA))
theorem o_sub : OpR X (binaryOp .Sub) rSub := op_sub
theorem o_mul : OpR X (binaryOp .Mult) rMul := OpR.or op_mul op_rep
theorem o_mod : OpR X (binaryOp .Mod) rMod := op_mod
theorem o_div : OpR X (binaryOp .FloorDiv) rDiv := op_fdiv
theorem o_pow : OpR X (binaryOp .Pow) rPow := op_pow
theorem o_lt : OpR X (compareOp .Lt) rLt := op_lt
theorem o_le : OpR X (compareOp .LtE) rLe := op_le
theorem o_gt : OpR X (compareOp .Gt) rGt := op_gt
theorem o_ge : OpR X (compareOp .GtE) rGe := op_ge
theorem o_eq (hu : X.A.units + 64 < cLine) : OpR X (compareOp .Eq) (rEq2 X.K) := OpR.or op_eq (OpR.or (op_eqD hu) (OpR.or (op_eq_dictA (Nat.lt_of_le_of_lt (Nat.le_add_right _ _) hu)) (op_eqV hu)))
theorem o_ne (hu : X.A.units + 64 < cLine) : OpR X (compareOp .NotEq) (rNe2 X.K) := OpR.or op_ne (OpR.or (op_neD hu) (op_ne_dictA (Nat.lt_of_le_of_lt (Nat.le_add_right _ _) hu)))
theorem o_in : OpR X (compareOp .In) (rIn2 X.K false) := OpR.or op_in_seq op_in_sign
theorem o_nin : OpR X (compareOp .NotIn) (rIn2 X.K true) := OpR.or op_notIn_seq op_notIn_sign
theorem o_isN : OpR X (compareOp .Is) (rIsN2 false) := op_isN
theorem o_neg : UnR X (unaryOp .USub) rNeg := un_neg
theorem o_sl : SlR X (rSl X.K) := SlR.or sl_list (SlR.or sl_tupA C8.sl_txt)
theorem o_len : CallR X (.builtin "len") (rLenA X.K) := call_len
theorem o_int : CallR X (.type "int") rInt := CallR.or call_int1 call_int_str
theorem o_str : CallR X (.type "str") rStr := call_str_int
theorem o_list (hc : X.calm = true) : CallR X (.type "list") (rList X.K) := CallR.or call_list_of (call_listD hc)
theorem o_tuple : CallR X (.type "tuple") (rTupO X.K) := call_tuple_of
theorem o_isi : CallR X (.builtin "isinstance") (rIsi2 X.K) := CallR.or call_isi call_isiT
end
theorem pe_globI {X : Cx} {x : Str} {i : Int} {pos : Pos} (hg : Gl X x) (hm : ∃ t, X.mg x = some (.int i t)) (hd : (x == ("__debug__" : Str)) = false := by decide) : PE X (.Name x pos) (tC (.int i)) := by
  obtain ⟨t, hm⟩ := hm
  exact pe_glob hg hm ⟨t, rfl⟩ hd
theorem pe_globS {X : Cx} {x z : Str} {pos : Pos} (hg : Gl X x) (hm : ∃ t, X.mg x = some (.str z t)) (hd : (x == ("__debug__" : Str)) = false := by decide) : PE X (.Name x pos) (tC (.str z)) := by
  obtain ⟨t, hm⟩ := hm
  exact pe_glob hg hm ⟨t, rfl⟩ hd
def iSeq (K : PySem.W.Frag) (tl : TE) : TI := fun σ H R => tl σ H fun x H1 => ∃ a, x = .ref a ∧ (((∃ xs, SqL K H1 a xs) ∧ R (Itl K a) H1) ∨ ((∃ xs, SqT K H1 a xs) ∧ R (Itt K a) H1))
section
variable {X : Cx} {tg : Expr}
theorem pi_seq {l : Expr} {tl : TE} (hl : PE X l tl) : PI X tg l (iSeq X.K tl) := by
  refine ⟨fun pins s σ H R I h => ?_⟩
  refine thn (hl.run pins s σ H _ I h) fun v s1 ⟨x, H1, I1, r1, q1⟩ => ?_
  obtain ⟨a, e, q⟩ := q1
  subst e
  cases r1
  rcases q with ⟨⟨xs, hq⟩, q⟩ | ⟨⟨xs, hq⟩, q⟩
  · obtain ⟨its, rv, pl, _⟩ := I1.list hq
    refine wpAny_pyIter_list pl.isList ?_
    refine ⟨s1.heap.objs.size, [s1.heap.objs.size], _, _, H1, rfl, I1.kept (t' := s1.toks) fun b o e => Heap.get?_push_of_some _ e, turn_list a _, ⟨_, Heap.get?_push_size _ rfl, rfl, rfl⟩, fun b hb => ?_, q⟩
    obtain rfl : b = s1.heap.objs.size := by simpa using hb
    exact I1.fpOk (Nat.le_refl _) (I1.hok.fresh (Nat.le_refl _))
  · obtain ⟨its, rv, pt, _⟩ := I1.tuple hq
    refine wpAny_pyIter_tuple (show s1.heap.IsTuple a its.toArray from pt) ?_
    refine ⟨s1.heap.objs.size, [s1.heap.objs.size], _, _, H1, rfl, I1.kept (t' := s1.toks) fun b o e => Heap.get?_push_of_some _ e, turn_tuple a _, ⟨_, Heap.get?_push_size _ rfl, rfl, rfl⟩, fun b hb => ?_, q⟩
    obtain rfl : b = s1.heap.objs.size := by simpa using hb
    exact I1.fpOk (Nat.le_refl _) (I1.hok.fresh (Nat.le_refl _))
end
structure Cal (P : Program) (w : World) (K : PySem.W.Frag) (mg : Str → Option Value) (base : Heap) (k : Nat) (x : Str) (sp : Sp) : Prop where
  ex : ∃ (f : Addr) (fd : FuncData) (ps : List Str), FnOk P w K mg base CX0 k f fd ps sp ∧ mg x = some (.ref f) ∧ PySem.W.keepIn K (.ref f) = true ∧ Binds K fd ps []
theorem Cal.mono {P : Program} {w : World} {K : PySem.W.Frag} {mg : Str → Option Value} {base : Heap} {j k : Nat} {x : Str} {sp : Sp} (c : Cal P w K mg base j x sp) (h : j ≤ k) : Cal P w K mg base k x sp := by
  obtain ⟨f, fd, ps, F, r⟩ := c.ex
  exact ⟨f, fd, ps, F.mono h, r⟩
theorem Cal.imp {P : Program} {w : World} {K : PySem.W.Frag} {mg : Str → Option Value} {base : Heap} {k : Nat} {x : Str} {sp sp' : Sp} (c : Cal P w K mg base k x sp) (h : ∀ vs H Q E, sp' vs H Q E → sp vs H Q E) : Cal P w K mg base k x sp' := by
  obtain ⟨f, fd, ps, F, r⟩ := c.ex
  exact ⟨f, fd, ps, F.imp h, r⟩
/-- a def of the top -/
structure DefAt (K : PySem.W.Frag) (mg : Str → Option Value) (x : Str) (st : Stmt) (ps : List Str) : Prop where
  ex : ∃ (f : Addr) (fd : FuncData), Fun K x x st f fd ∧ mg x = some (.ref f) ∧ Binds K fd ps []
section
variable {P : Program} {w : World} {K : PySem.W.Frag} {mg : Str → Option Value} {base : Heap}
theorem cal_of {x : Str} {st : Stmt} {N ps : List Str} {k : Nat} {sp : Sp} (D : DefAt K mg x st ps) (S : FnScope N ps (defScope st)) (len : ∀ vs H Q E, sp vs H Q E → vs.length = ps.length)
    (hbody : ∀ (f : Addr) (cdv : Value) (A : Around) (outer : List Env) (s : Shared) (H : Hp) (vs : List V) (Q : VK) (E : XK), Room k (A.deeper (envOfC x (defScope st) s.heap.objs.size f cdv)) → sp vs H Q E →
      ∃ t, PSs (cxOf CX0 P w K mg base N x (defScope st) f cdv A outer s H E).nox (defBody st) t ∧ t { nx := fun _ H' => Q .non H', rt := Q } (start N vs) H) : Cal P w K mg base (k + 1) x sp := by
  obtain ⟨f, fd, F, m, b⟩ := D.ex
  exact ⟨f, fd, ps, F.ok S len fun cdv A outer s H vs Q E => hbody f cdv A outer s H vs Q E, m, F.kp, b⟩
/-- nothing is promised: a def at no depth -/
theorem cal_none {x : Str} {st : Stmt} {ps : List Str} {k : Nat} {sp : Sp} (D : DefAt K mg x st ps) (no : ∀ vs H Q E, ¬ sp vs H Q E) : Cal P w K mg base k x sp := by
  obtain ⟨f, fd, F, m, b⟩ := D.ex
  exact ⟨f, fd, ps, ⟨fun vs H Q E h => absurd h (no vs H Q E), fun A outer s H args us vs Q E _ _ _ _ h => absurd h (no vs H Q E)⟩, m, F.kp, b⟩
end
section
variable {X : Cx} {k j : Nat} {x : Str} {sp : Sp} {p pos : Pos} {e : Expr} {es : List Expr} {t : TA}
def tF (sp : Sp) (t : TA) : TE := fun σ H Q => t σ H fun vs H1 => sp vs H1 Q E0
theorem pe_f (c : Cal X.prog X.w X.K X.mg X.base k x sp) (hr : Room j X.A) (hk : k ≤ j) (ha : PA X (e :: es) t) (hg : Gl X x := by rfl)
    (hdb : (x == ("__debug__" : Str)) = false := by decide) (he : starEach (e :: es) X.env = (false, eval e X.env) :: starEach es X.env := by rfl) (hpl : (backTo pos (starEach es X.env)).any (·.1) = false := by rfl) :
    PE X (.Call (.Name x p) (e :: es) [] pos) (tF sp t) := by
  obtain ⟨f, fd, ps, F, hm, kp, b⟩ := c.ex
  have h := pe_call (p := p) F (hr.mono hk) hg hm kp b .nil (pass0 (X := X)) ha hdb he hpl
  refine ⟨fun pins s σ H Q I q => h.run pins s σ H Q I ?_⟩
  show t σ H fun vs H1 => sp (vs ++ []) H1 Q E0
  have e : (fun (vs : List V) (H1 : Hp) => sp (vs ++ []) H1 Q E0) = fun vs H1 => sp vs H1 Q E0 := by
    funext vs H1
    rw [List.append_nil]
  rw [e]
  exact q
end
theorem same_new {H : Hp} {p : Addr} {o : HO} (h : H p = none) : Same H (upd H p o) := fun b u q => by rw [upd_ne (ne_of_none q h)]; exact q
theorem same_mut {H H' : Hp} {p : Addr} {o : HO} (e : Same H H') (h : H p = none) : Same H (upd H' p o) := fun a u ha => by
  rw [upd_ne (ne_of_none ha h)]
  exact e a u ha
theorem same_rd {H H' : Hp} {a : Addr} {u : HO} (e : Same H H') (h : Rd H a u) : Rd H' a u := by
  rcases h with h | ⟨o, h⟩
  · exact .inl (e a _ h)
  · exact .inr ⟨o, e a _ h⟩
theorem same_l {K : PySem.W.Frag} {H H' : Hp} {a : Addr} {xs : List V} (e : Same H H') (h : SqL K H a xs) : SqL K H' a xs := h.elim (fun h => .inl (same_rd e h)) .inr
theorem same_t {K : PySem.W.Frag} {H H' : Hp} {a : Addr} {xs : List V} (e : Same H H') (h : SqT K H a xs) : SqT K H' a xs := h.elim (fun h => .inl (same_rd e h)) .inr
theorem sz {n : Nat} (h : n ≤ 16000000) : n ≤ sizeLine := Nat.le_trans h (by decide)
section
variable {K : PySem.W.Frag} {σ : L2.St} {H : Hp} {Q : VK} {x y v : V} {ta tb tc te : TE} {t u : TT} {D : Ends} {ts tu tw : TS}
theorem dec_int {i j : Int} : decide (V.int i = V.int j) = decide (i = j) := by simp
theorem dec_str {i j : Str} : decide (V.str i = V.str j) = decide (i = j) := by simp
theorem w_var {i : Nat} (h : σ[i]? = some (some v)) (q : Q v H) : tVar i σ H Q := ⟨v, h, q⟩
theorem w_c (q : Q v H) : tC v σ H Q := q
theorem w_op {r : R2} (q : ta σ H fun x H1 => tb σ H1 fun y H2 => r x y H2 Q) : tOp r ta tb σ H Q := q
theorem w_un {r : V → Hp → VK → Prop} (q : ta σ H fun x H1 => r x H1 Q) : tUn r ta σ H Q := q
theorem w_neg {i : Int} (q : Q (.int (-i)) H) : rNeg (.int i) H Q := ⟨i, rfl, q⟩
theorem w_addI {i j : Int} (q : Q (.int (i + j)) H) : rAdd K (.int i) (.int j) H Q := .inl ⟨i, j, rfl, rfl, q⟩
theorem w_addT {i j : Str} (h : i.length + j.length ≤ sizeLine) (q : Q (.str (i ++ j)) H) : rAdd K (.str i) (.str j) H Q := .inr (.inl ⟨i, j, rfl, rfl, h, q⟩)
theorem w_addL {a b : Addr} {xs ys : List V} (ha : H a = some (.lst xs)) (hb : H b = some (.lst ys)) (h : xs.length + ys.length ≤ sizeLine) (q : ∀ p, H p = none → Q (.ref p) (upd H p (.lst (xs ++ ys)))) : rAdd K (.ref a) (.ref b) H Q :=
  .inr (.inr (.inl ⟨a, b, xs, ys, rfl, rfl, ha, hb, h, q⟩))
theorem w_sub {i j : Int} (q : Q (.int (i - j)) H) : rSub (.int i) (.int j) H Q := ⟨i, j, rfl, rfl, q⟩
theorem w_mulI {i j : Int} (h : CMul i j) (q : Q (.int (i * j)) H) : rMul (.int i) (.int j) H Q := .inl ⟨i, j, rfl, rfl, h, q⟩
theorem w_mod {i j : Int} (h : 0 < j) (q : Q (.int (i % j)) H) : rMod (.int i) (.int j) H Q := ⟨i, j, rfl, rfl, h, q⟩
theorem w_div {i j : Int} (h : CDiv i j) (q : Q (.int (i / j)) H) : rDiv (.int i) (.int j) H Q := ⟨i, j, rfl, rfl, h, q⟩
theorem w_pow {i j : Int} (h : CPow i j) (q : Q (.int (i ^ j.toNat)) H) : rPow (.int i) (.int j) H Q := ⟨i, j, rfl, rfl, h, q⟩
theorem w_lt {i j : Int} (q : Q (.bl (decide (i < j))) H) : rLt (.int i) (.int j) H Q := ⟨i, j, rfl, rfl, q⟩
theorem w_le {i j : Int} (q : Q (.bl (decide (i ≤ j))) H) : rLe (.int i) (.int j) H Q := ⟨i, j, rfl, rfl, q⟩
theorem w_gt {i j : Int} (q : Q (.bl (decide (j < i))) H) : rGt (.int i) (.int j) H Q := ⟨i, j, rfl, rfl, q⟩
theorem w_ge {i j : Int} (q : Q (.bl (decide (j ≤ i))) H) : rGe (.int i) (.int j) H Q := ⟨i, j, rfl, rfl, q⟩
theorem w_eqI {i j : Int} (q : Q (.bl (decide (i = j))) H) : rEq2 K (.int i) (.int j) H Q := .inl ⟨rfl, by rw [dec_int]; exact q⟩
theorem w_eqS {i j : Str} (q : Q (.bl (decide (i = j))) H) : rEq2 K (.str i) (.str j) H Q := .inl ⟨rfl, by rw [dec_str]; exact q⟩
theorem w_neI {i j : Int} (q : Q (.bl (!decide (i = j))) H) : rNe2 K (.int i) (.int j) H Q := .inl ⟨rfl, by rw [dec_int]; exact q⟩
theorem w_neS {i j : Str} (q : Q (.bl (!decide (i = j))) H) : rNe2 K (.str i) (.str j) H Q := .inl ⟨rfl, by rw [dec_str]; exact q⟩
theorem w_eqD {d e : PyData} (hx : Dp K H x d) (hy : Dp K H y e) (sd : SeqAt.shaped d = true) (se : SeqAt.shaped e = true) (q : Q (.bl (PyData.eqv d e)) H) : rEq2 K x y H Q := .inr (.inl ⟨d, e, hx, hy, sd, se, q⟩)
theorem w_neD {d e : PyData} (hx : Dp K H x d) (hy : Dp K H y e) (sd : SeqAt.shaped d = true) (se : SeqAt.shaped e = true) (q : Q (.bl (!PyData.eqv d e)) H) : rNe2 K x y H Q := .inr (.inl ⟨d, e, hx, hy, sd, se, q⟩)
theorem w_ixT {p : Addr} {xs : List V} {i : Int} (h : SqT K H p xs) (e : atI xs i = some v) (q : Q v H) : rIx K (.ref p) (.int i) H Q := .inr (.inl ⟨p, xs, i, v, rfl, rfl, h, e, q⟩)
theorem w_ixL {p : Addr} {xs : List V} {i : Int} (h : SqL K H p xs) (e : atI xs i = some v) (q : Q v H) : rIx K (.ref p) (.int i) H Q := .inl ⟨p, xs, i, v, rfl, rfl, h, e, q⟩
theorem w_ixS {z : Str} {i : Int} {c : Nat} (h : z.length ≤ sizeLine) (e : atI z.cps.toList i = some c) (q : Q (.str ⟨#[c]⟩) H) : rIx K (.str z) (.int i) H Q := .inr (.inr ⟨z, i, c, rfl, rfl, h, e, q⟩)
theorem w_lenL {p : Addr} {xs : List V} (h : SqL K H p xs) (q : Q (.int ((xs.length : Nat) : Int)) H) : rLenA K [.ref p] H Q := ⟨.ref p, xs.length, rfl, .inl ⟨xs, h, rfl⟩, q⟩
theorem w_lenT {p : Addr} {xs : List V} (h : SqT K H p xs) (q : Q (.int ((xs.length : Nat) : Int)) H) : rLenA K [.ref p] H Q := ⟨.ref p, xs.length, rfl, .inr ⟨xs, h, rfl⟩, q⟩
theorem w_lenS {z : Str} (h : z.length ≤ sizeLine) (q : Q (.int ((z.length : Nat) : Int)) H) : rLenA K [.str z] H Q := ⟨.str z, z.length, rfl, ⟨h, rfl⟩, q⟩
theorem w_intI {i : Int} (q : Q (.int i) H) : rInt [.int i] H Q := .inl (.inl ⟨i, rfl, q⟩)
theorem w_intB {k : Bool} (q : Q (.int (if k then 1 else 0)) H) : rInt [.bl k] H Q := .inl (.inr ⟨k, rfl, q⟩)
theorem w_nil {Q : List V → Hp → Prop} (q : Q [] H) : tNil σ H Q := q
theorem w_cons {tr : TA} {Q : List V → Hp → Prop} (q : ta σ H fun x H1 => tr σ H1 fun xs H2 => Q (x :: xs) H2) : tCons ta tr σ H Q := q
theorem w_f {sp : Sp} {t : TA} (q : t σ H fun vs H1 => sp vs H1 Q E0) : tF sp t σ H Q := q
theorem w_cb {r : List V → Hp → VK → Prop} {t : TA} (q : t σ H fun vs H1 => r vs H1 Q) : tCB r t σ H Q := q
theorem w_lst {t : TA} (q : t σ H fun xs H1 => xs.length ≤ sizeLine ∧ ∀ p, H1 p = none → Q (.ref p) (upd H1 p (.lst xs))) : tLst t σ H Q := q
theorem w_tup {t : TA} (q : t σ H fun xs H1 => xs.length ≤ sizeLine ∧ ∀ p, H1 p = none → Q (.ref p) (upd H1 p (.tup xs))) : tTup t σ H Q := q
theorem w_test {Q : Bool → Hp → Prop} (q : te σ H fun x H' => ∃ k, x = .bl k ∧ Q k H') : tTest te σ H Q := q
theorem w_tB {Q : Bool → Hp → Prop} (q : te σ H fun x H' => ∃ k, x = .bl k ∧ Q k H') : tB te σ H Q := q
theorem w_bl {b : Bool} {R : Bool → Prop} (q : R b) : ∃ k, V.bl b = .bl k ∧ R k := ⟨b, rfl, q⟩
theorem w_and {Q : Bool → Hp → Prop} (q : t σ H fun c H1 => if c = true then u σ H1 Q else Q false H1) : tAnd t u σ H Q := q
theorem w_or {Q : Bool → Hp → Prop} (q : t σ H fun c H1 => if c = true then Q true H1 else u σ H1 Q) : tOr t u σ H Q := q
theorem w_not {Q : Bool → Hp → Prop} (q : t σ H fun c H1 => Q (!c) H1) : tNot t σ H Q := q
theorem w_andV (q : ta σ H fun x H1 => ∃ c, x = .bl c ∧ if c = true then tb σ H1 Q else Q (.bl false) H1) : tAndV ta tb σ H Q := q
theorem w_orV (q : ta σ H fun x H1 => ∃ c, x = .bl c ∧ if c = true then Q (.bl true) H1 else tb σ H1 Q) : tOrV ta tb σ H Q := q
theorem w_notV (q : ta σ H fun x H1 => ∃ c, x = .bl c ∧ Q (.bl (!c)) H1) : tNotV ta σ H Q := q
theorem w_seq (q : ts { D with nx := tu D } σ H) : tSeq ts tu D σ H := q
theorem w_next (q : D.nx σ H) : tNext D σ H := q
theorem w_asg {i : Nat} (q : te σ H fun x H1 => D.nx (σ.set i (some x)) H1) : tAsg te (gName i) D σ H := q
theorem w_asgT {n : Nat} {g : TGs} (q : te σ H fun x H1 => gTup K n g x σ H1 D.nx) : tAsg te (gTup K n g) D σ H := q
theorem w_ret (q : te σ H D.rt) : tRet te D σ H := q
theorem w_drop (q : te σ H fun _ H1 => D.nx σ H1) : tDrop te D σ H := q
theorem w_if (q : t σ H fun b H1 => if b = true then ts D σ H1 else tu D σ H1) : tIfS t ts tu D σ H := q
theorem w_yes {c : Bool} {A B : Prop} (e : c = true) (a : A) : if c = true then A else B := by rw [if_pos e]; exact a
theorem w_no {c : Bool} {A B : Prop} (e : c = false) (b : B) : if c = true then A else B := by rw [e]; exact iteF b
theorem w_two {c : Bool} {A B : Prop} (a : c = true → A) (b : c = false → B) : if c = true then A else B := by
  cases c with
  | true => exact iteT (a rfl)
  | false => exact iteF (b rfl)
end
end Hu
namespace Hu
open PySem PySem.Spec PyProof.Rows L2
structure CC (K : PySem.W.Frag) (cx : Str) (as : List Str) (C : Addr) : Prop where
  isC : PySem.W.nsIn K mainGlobals cx = some (some (.ref C))
  cls : Cls K C
  no : ∀ f ∈ as, NoAttr K C f
theorem CC.eq {K : PySem.W.Frag} {cx : Str} {as bs : List Str} {C D : Addr} (a : CC K cx as C) (b : CC K cx bs D) : C = D := by
  have := a.isC.symm.trans b.isC
  exact Value.ref.inj (Option.some.inj (Option.some.inj this))
section
variable {X : Cx} {k j : Nat} {x cx : Str} {as : List Str} {sp : Sp} {p pos apos : Pos} {o e : Expr} {es : List Expr} {t : TA} {ta : TE}
/-- o.m(..), o an instance of the class named cx -/
def tM (K : PySem.W.Frag) (cx : Str) (as : List Str) (m : Str) (sp : Sp) (ta : TE) (t : TA) : TE := fun σ H Q => ta σ H fun x H1 => ∃ a C dx fs, x = .ref a ∧ H1 a = some (.ins C dx fs) ∧ CC K cx as C ∧ fs.lookup m = none ∧ t σ H1 fun vs H2 => sp (x :: vs) H2 Q E0
/-- cx(..) -/
def tMk (K : PySem.W.Frag) (cx : Str) (as : List Str) (sp : Sp) (t : TA) : TE := fun σ H Q => t σ H fun vs H1 => ∀ x C dx, CC K cx as C → H1 x = none → H1 dx = none → dx ≠ x →
  sp (.ref x :: vs) (upd (upd H1 dx (.own x)) x (.ins C dx [])) (fun v H2 => v = .non ∧ Q (.ref x) H2) E0
/-- a name of the top that stands for a tuple -/
def tGT (K : PySem.W.Frag) (xs : List V) : TE := fun _ H Q => ∀ a, (∀ H', SqT K H' a xs) → Q (.ref a) H
theorem pe_globT {xs : List V} (hg : Gl X x) (hm : ∃ a, X.mg x = some (.ref a) ∧ ∀ H, SqT X.K H a xs) (hd : (x == ("__debug__" : Str)) = false := by decide) : PE X (.Name x pos) (tGT X.K xs) := by
  obtain ⟨a, hm, hs⟩ := hm
  have h := pe_glob (pos := pos) (v := .ref a) hg hm rfl hd
  exact ⟨fun pins s σ H Q I q => h.run pins s σ H Q I (q a hs)⟩
end
section
variable {K : PySem.W.Frag} {σ : L2.St} {H : Hp} {Q : VK} {te tv : TE} {D : Ends} {y v : V}
theorem w_glt {xs : List V} (q : ∀ a, (∀ H', SqT K H' a xs) → Q (.ref a) H) : tGT K xs σ H Q := q
theorem w_m {cx : Str} {as : List Str} {m : Str} {sp : Sp} {t : TA} (q : te σ H fun x H1 => ∃ a C dx fs, x = .ref a ∧ H1 a = some (.ins C dx fs) ∧ CC K cx as C ∧ fs.lookup m = none ∧ t σ H1 fun vs H2 => sp (x :: vs) H2 Q E0) : tM K cx as m sp te t σ H Q := q
theorem w_mk {cx : Str} {as : List Str} {sp : Sp} {t : TA} (q : t σ H fun vs H1 => ∀ x C dx, CC K cx as C → H1 x = none → H1 dx = none → dx ≠ x → sp (.ref x :: vs) (upd (upd H1 dx (.own x)) x (.ins C dx [])) (fun v H2 => v = .non ∧ Q (.ref x) H2) E0) : tMk K cx as sp t σ H Q := q
theorem w_fld {f : Str} (q : te σ H fun x H1 => ∃ a C dx fs v, x = .ref a ∧ H1 a = some (.ins C dx fs) ∧ Cls K C ∧ NoAttr K C f ∧ fs.lookup f = some v ∧ Q v H1) : tFld K te f σ H Q := q
theorem w_sfld {f : Str} (q : tv σ H fun y H1 => te σ H1 fun x H2 => ∃ a C dx fs, x = .ref a ∧ H2 a = some (.ins C dx fs) ∧ Cls K C ∧ NoAttr K C f ∧ fs.length < 1000 ∧ D.nx σ (upd H2 a (.ins C dx (putF f y fs)))) : sFld K te tv f D σ H := q
theorem w_chain {r r' : R2} {ta tb tc : TE} (q : ta σ H fun x H1 => tb σ H1 fun y H2 => r x y H2 fun z H3 => ∃ k, z = .bl k ∧ (if k = true then tc σ H3 fun w' H4 => r' y w' H4 Q else Q (.bl false) H3)) : tChain r r' ta tb tc σ H Q := q
theorem w_istr {R : It → Hp → Prop} (q : te σ H fun v H1 => ∃ x, v = .str x ∧ R (Its x) H1) : iStr te σ H R := q
theorem tyx_t {a : Addr} {xs : List V} (h : SqT K H a xs) : TyX K H (.ref a) (.type "tuple") := by
  rcases h with (h | ⟨o, h⟩) | ⟨o, its, n, h, c, _⟩
  · exact .base (.tup h)
  · exact .fTuple h
  · exact .kTuple h c
end
theorem for_str {x : Str} {g : TG} {tb : TS} {D : Ends} {σ : L2.St} {H : Hp} (Pv : Nat → L2.St → Hp → Prop) (h0 : Pv 0 σ H)
    (hs : ∀ i c σ H, x.cps[i]? = some c → Pv i σ H → g (.str ⟨#[c]⟩) σ H fun σ2 H2 => tb { D with nx := Pv (i + 1), ct := Pv (i + 1), bk := D.nx } σ2 H2) (hd : ∀ σ H, Pv x.cps.size σ H → D.nx σ H) :
    ∃ W : Nat → Nat → L2.St → Hp → Prop, (∃ m, W 0 m σ H) ∧ ∀ i m σ H, W i m σ H →
      ((Its x).stop i H ∧ D.nx σ H) ∨ ((Its x).go i H ∧ ∃ N : L2.St → Hp → Prop, (∀ σ' H', N σ' H' → ∃ m', m' < m ∧ W (i + 1) m' σ' H') ∧ ∀ v H', (Its x).yld i H v H' → g v σ H' fun σ2 H2 => tb { D with nx := N, ct := N, bk := D.nx } σ2 H2) := by
  refine ⟨fun i m σ H => m = x.cps.size - i ∧ i ≤ x.cps.size ∧ Pv i σ H, ⟨x.cps.size, by simp, Nat.zero_le _, h0⟩, ?_⟩
  rintro i m σ H ⟨rfl, hi, p⟩
  by_cases hlt : i < x.cps.size
  · refine .inr ⟨hlt, Pv (i + 1), fun σ' H' p' => ⟨x.cps.size - (i + 1), by omega, rfl, hlt, p'⟩, fun v H' y => ?_⟩
    obtain ⟨rfl, c, hc, rfl⟩ := y
    exact hs i c σ _ hc p
  · have e : i = x.cps.size := by omega
    subst e
    exact .inl ⟨Nat.le_refl _, hd σ H p⟩
end Hu
namespace HuS
open PySem PySem.Spec PyProof.Rows L2
section
variable {P : Program} {w : World} {A : Around} {E : Value → Shared → Prop} {s : Shared} {a : Addr} {S : Str → Bool} {n : Nat}
/-- a set whose members all stand in ns is no longer than ns -/
theorem nodup_le {α : Type} [DecidableEq α] : ∀ {l m : List α}, l.Nodup → (∀ x ∈ l, x ∈ m) → l.length ≤ m.length
  | [], _, _, _ => Nat.zero_le _
  | x :: l, m, hn, hs => by
    obtain ⟨h1, h2⟩ := List.nodup_cons.mp hn
    have hx : x ∈ m := hs x List.mem_cons_self
    have ih := nodup_le (l := l) (m := m.erase x) h2 fun y hy => (List.mem_erase_of_ne (fun e : y = x => h1 (by rw [← e]; exact hy))).mpr (hs y (List.mem_cons_of_mem _ hy))
    have e := List.length_erase_of_mem hx
    have pos := List.length_pos_of_mem hx
    rw [List.length_cons]
    omega
end
end HuS
namespace Hu
open PySem PySem.Spec PyProof.Rows L2 HuS
abbrev cs (x : Str) : List Nat := x.cps.toList
theorem cs_app (x y : Str) : cs (x ++ y) = cs x ++ cs y := TL.tl_append x y
theorem cs_len (x : Str) : x.length = (cs x).length := by simp [Str.length]
theorem cs_one (c : Nat) : cs ⟨#[c]⟩ = [c] := rfl
theorem cs_slTo {x : Str} {i : Int} (h : 0 ≤ i) : cs (Txt.slice x none (some i)) = (cs x).take i.toNat := by
  have e := SX.slice_to (a := cs x) h
  rw [SX.S_tl] at e
  rw [e]
theorem cs_slFrom {x : Str} {i : Int} (h : 0 ≤ i) : cs (Txt.slice x (some i) none) = (cs x).drop i.toNat := by
  have e := SX.slice_from (a := cs x) h
  rw [SX.S_tl] at e
  rw [e]
def az : Str := "abcdefghijklmnopqrstuvwxyz"
def az9 : Str := "abcdefghijklmnopqrstuvwxyz0123456789"
def n09 : Str := "0123456789"
def words : List Str := ["set", "tell", "skip", "if", "else", "while", "end"]
def IsLet (c : Nat) : Prop := 97 ≤ c ∧ c ≤ 122
def IsSgn (c : Nat) : Prop := (97 ≤ c ∧ c ≤ 122) ∨ (48 ≤ c ∧ c ≤ 57)
theorem az_cs : cs az = (List.range 26).map (· + 97) := by decide +kernel
theorem n09_cs : cs n09 = (List.range 10).map (· + 48) := by decide +kernel
theorem az9_eq : az9 = az ++ n09 := by decide +kernel
theorem az9_cs : cs az9 = (List.range 26).map (· + 97) ++ (List.range 10).map (· + 48) := by rw [az9_eq, cs_app, az_cs, n09_cs]
theorem az_at {i : Int} (h0 : 0 ≤ i) (h : i < 26) : atI (cs az) i = some (i.toNat + 97) := by
  obtain ⟨j, rfl⟩ := Int.eq_ofNat_of_zero_le h0
  rw [Int.toNat_natCast]
  refine atI_nat ?_
  rw [az_cs, List.getElem?_map, List.getElem?_range (by omega)]
  rfl
theorem az9_at {i : Int} (h0 : 0 ≤ i) (h : i < 36) : ∃ c, atI (cs az9) i = some c ∧ IsSgn c := by
  obtain ⟨j, rfl⟩ := Int.eq_ofNat_of_zero_le h0
  by_cases hj : j < 26
  · refine ⟨j + 97, atI_nat ?_, .inl ⟨by omega, by omega⟩⟩
    rw [az9_cs, List.getElem?_append_left (by simpa using hj), List.getElem?_map, List.getElem?_range (by omega)]
    rfl
  · refine ⟨(j - 26) + 48, atI_nat ?_, .inr ⟨by omega, by omega⟩⟩
    rw [az9_cs, List.getElem?_append_right (by simp; omega), List.length_map, List.length_range, List.getElem?_map, List.getElem?_range (by omega)]
    rfl
/-- a name -/
structure Nm (x : Str) : Prop where
  pos : 1 ≤ (cs x).length
  most : (cs x).length ≤ 8
  hd : ∀ c, (cs x)[0]? = some c → IsLet c
  all : ∀ c ∈ cs x, IsSgn c
  nw : x ∉ words
/-- a name but for the words -/
structure Nw (x : Str) (n : Nat) : Prop where
  pos : 1 ≤ (cs x).length
  most : (cs x).length ≤ n
  hd : ∀ c, (cs x)[0]? = some c → IsLet c
  all : ∀ c ∈ cs x, IsSgn c
theorem Nm.nw' {x : Str} (h : Nm x) : Nw x 8 := ⟨h.pos, h.most, h.hd, h.all⟩
theorem words_short : ∀ x ∈ words, (cs x).length ≤ 5 := by decide +kernel
theorem words_zero : ∀ x ∈ words, (cs x).getLast? ≠ some 48 := by decide +kernel
theorem Nw.zero {x : Str} {n : Nat} (h : Nw x n) (w : x ∈ words) : Nm (x ++ ("0" : Str)) := by
  have e : cs (x ++ ("0" : Str)) = cs x ++ [48] := by rw [cs_app]; exact congrArg (cs x ++ ·) (by decide +kernel)
  have l := words_short x w
  refine ⟨?_, ?_, fun c hc => ?_, fun c hc => ?_, fun hw => words_zero _ hw ?_⟩
  · rw [e, List.length_append]; have := h.pos; omega
  · rw [e, List.length_append, List.length_singleton]; omega
  · rw [e, List.getElem?_append_left (by have := h.pos; omega)] at hc
    exact h.hd c hc
  · rw [e] at hc
    rcases List.mem_append.mp hc with hc | hc
    · exact h.all c hc
    · rw [List.mem_singleton.mp hc]; exact .inr ⟨by omega, by omega⟩
  · rw [e, List.getLast?_append]; rfl
theorem Nw.nm {x : Str} (h : Nw x 8) (w : x ∉ words) : Nm x := ⟨h.pos, h.most, h.hd, h.all, w⟩
theorem Nw.snoc {x : Str} {n c : Nat} (h : Nw x n) (hc : IsSgn c) : Nw (x ++ ⟨#[c]⟩) (n + 1) := by
  have e : cs (x ++ ⟨#[c]⟩) = cs x ++ [c] := cs_app _ _
  refine ⟨?_, ?_, fun d hd => ?_, fun d hd => ?_⟩
  · rw [e, List.length_append]; have := h.pos; omega
  · rw [e, List.length_append, List.length_singleton]; have := h.most; omega
  · rw [e, List.getElem?_append_left (by have := h.pos; omega)] at hd
    exact h.hd d hd
  · rw [e] at hd
    rcases List.mem_append.mp hd with hd | hd
    · exact h.all d hd
    · rw [List.mem_singleton.mp hd]; exact hc
theorem Nw.one {c : Nat} (h : IsLet c) : Nw ⟨#[c]⟩ 1 := ⟨Nat.le_refl _, Nat.le_refl _, fun d hd => by
  have e : c = d := Option.some.inj hd
  exact e ▸ h, fun d hd => by rw [List.mem_singleton.mp hd]; exact .inl h⟩
/-- one sign put in the place of another -/
theorem Nw.swap {x : Str} {at' : Nat} {c : Nat} (h : Nw x 8) (ha : at' < (cs x).length) (hc : IsSgn c) (h0 : at' = 0 → IsLet c) :
    Nw (Txt.slice x none (some (at' : Int)) ++ ⟨#[c]⟩ ++ Txt.slice x (some ((at' : Int) + 1)) none) 8 := by
  have e : cs (Txt.slice x none (some (at' : Int)) ++ ⟨#[c]⟩ ++ Txt.slice x (some ((at' : Int) + 1)) none) = ((cs x).take at' ++ [c]) ++ (cs x).drop (at' + 1) := by
    rw [cs_app, cs_app, cs_slTo (by omega), cs_slFrom (by omega)]
    have : ((at' : Int) + 1).toNat = at' + 1 := by omega
    rw [this, Int.toNat_natCast, cs_one]
  have l := h.most
  refine ⟨?_, ?_, fun d hd => ?_, fun d hd => ?_⟩
  · rw [e]; simp only [List.length_append, List.length_singleton]; omega
  · rw [e]; simp only [List.length_append, List.length_singleton, List.length_take, List.length_drop]; omega
  · rw [e] at hd
    cases at' with
    | zero =>
      have z : c = d := Option.some.inj hd
      exact z ▸ h0 rfl
    | succ k =>
      rw [List.append_assoc, List.getElem?_append_left (by rw [List.length_take]; omega), List.getElem?_take_of_lt (by omega)] at hd
      exact h.hd d hd
  · rw [e] at hd
    rcases List.mem_append.mp hd with hd | hd
    · rcases List.mem_append.mp hd with hd | hd
      · exact h.all d (List.mem_of_mem_take hd)
      · rw [List.mem_singleton.mp hd]; exact hc
    · exact h.all d (List.mem_of_mem_drop hd)
theorem Nw.cut {x : Str} {c : Nat} (h : Nw x 8) (hc : IsLet c) : Nw (Txt.slice x none (some 7) ++ ⟨#[c]⟩) 8 := by
  have e : cs (Txt.slice x none (some 7) ++ ⟨#[c]⟩) = (cs x).take 7 ++ [c] := by
    rw [cs_app, cs_slTo (by omega), cs_one] <;> rfl
  have l := h.most
  have p := h.pos
  refine ⟨?_, ?_, fun d hd => ?_, fun d hd => ?_⟩
  · rw [e, List.length_append, List.length_singleton]; omega
  · rw [e, List.length_append, List.length_singleton, List.length_take]; omega
  · rw [e, List.getElem?_append_left (by rw [List.length_take]; omega), List.getElem?_take_of_lt (by omega)] at hd
    exact h.hd d hd
  · rw [e] at hd
    rcases List.mem_append.mp hd with hd | hd
    · exact h.all d (List.mem_of_mem_take hd)
    · rw [List.mem_singleton.mp hd]; exact .inl hc
theorem flat_txt (xs : List Str) : (xs.map V.str).all flatV = true := by
  rw [List.all_map, List.all_eq_true]
  intro _ _
  rfl
theorem inV_txt (x : Str) (xs : List Str) : inV (.str x) (xs.map V.str) = decide (x ∈ xs) := by
  unfold inV
  rw [List.any_map]
  induction xs with
  | nil => rfl
  | cons y r ih =>
    rw [List.any_cons, ih]
    show ((y == x) || decide (x ∈ r)) = _
    by_cases e : y = x
    · subst e; simp
    · have e2 : ¬ x = y := fun z => e z.symm
      simp [e, e2]
/-- the text behind i turns -/
def cand (x : Str) (o k : Int) : Nat → Str
  | 0 => x
  | i + 1 => cand (Txt.slice x none (some 7) ++ ⟨#[((o + (x.length : Int) + k) % 26).toNat + 97]⟩) (o + 5) k i
def step7 (x : Str) (o k : Int) : Str := Txt.slice x none (some 7) ++ ⟨#[((o + (x.length : Int) + k) % 26).toNat + 97]⟩
theorem step7_cs (x : Str) (o k : Int) : cs (step7 x o k) = (cs x).take 7 ++ [((o + (x.length : Int) + k) % 26).toNat + 97] := by
  unfold step7
  rw [cs_app, cs_slTo (by omega), cs_one] <;> rfl
theorem cand_succ (x : Str) (o k : Int) (i : Nat) : cand x o k (i + 1) = cand (step7 x o k) (o + 5) k i := rfl
theorem cand_add (x : Str) (o k : Int) : ∀ i j, cand x o k (i + j) = cand (cand x o k i) (o + 5 * i) k j
  | 0, j => by
    rw [Nat.zero_add]
    have : o + 5 * ((0 : Nat) : Int) = o := by omega
    rw [this] <;> rfl
  | i + 1, j => by
    rw [Nat.succ_add, cand_succ, cand_succ, cand_add (step7 x o k) (o + 5) k i j]
    have : o + 5 + 5 * (i : Int) = o + 5 * ((i + 1 : Nat) : Int) := by omega
    rw [this]
theorem cand_len (x : Str) (o k : Int) (h : (cs x).length ≤ 8) : ∀ i, (cs (cand x o k i)).length ≤ 8 ∧ min 8 ((cs x).length + i) ≤ (cs (cand x o k i)).length
  | 0 => ⟨h, by show min 8 ((cs x).length + 0) ≤ (cs x).length; omega⟩
  | i + 1 => by
    have e : (cs (step7 x o k)).length = min 7 (cs x).length + 1 := by rw [step7_cs, List.length_append, List.length_take, List.length_singleton]
    have q := cand_len (step7 x o k) (o + 5) k (by omega) i
    rw [cand_succ]
    omega
/-- once eight long -/
theorem cand_eight (x : Str) (o k : Int) (h : (cs x).length = 8) : ∀ i, cs (cand x o k (i + 1)) = (cs x).take 7 ++ [((o + 5 * (i : Int) + 8 + k) % 26).toNat + 97]
  | 0 => by
    show cs (step7 x o k) = _
    rw [step7_cs, cs_len, h]
    have : o + 5 * ((0 : Nat) : Int) + 8 + k = o + ((8 : Nat) : Int) + k := by omega
    rw [this]
  | i + 1 => by
    have l : (cs (step7 x o k)).length = 8 := by rw [step7_cs, List.length_append, List.length_take, List.length_singleton, h] <;> rfl
    have q := cand_eight (step7 x o k) (o + 5) k l i
    rw [cand_succ, q, step7_cs]
    have e1 : ((cs x).take 7 ++ [((o + (x.length : Int) + k) % 26).toNat + 97]).take 7 = (cs x).take 7 := by
      rw [List.take_append_of_le_length (by rw [List.length_take, h]; omega), List.take_take] <;> rfl
    have e2 : o + 5 + 5 * (i : Int) + 8 + k = o + 5 * ((i + 1 : Nat) : Int) + 8 + k := by omega
    rw [e1, e2]
theorem cand_inj (x : Str) (o k : Int) (h : (cs x).length = 8) {i j : Nat} (hi : i < 26) (hj : j < 26) (e : cand x o k (i + 1) = cand x o k (j + 1)) : i = j := by
  have q := congrArg cs e
  rw [cand_eight x o k h, cand_eight x o k h] at q
  have z := List.append_cancel_left q
  injection z with z _
  have a1 := Int.emod_nonneg (o + 5 * (i : Int) + 8 + k) (show (26 : Int) ≠ 0 by decide)
  have a2 := Int.emod_nonneg (o + 5 * (j : Int) + 8 + k) (show (26 : Int) ≠ 0 by decide)
  omega
theorem cand_out (x : Str) (o k : Int) (h : (cs x).length = 8) (ns : List Str) (hn : ns.length ≤ 20) : ∃ m, m ≤ 26 ∧ cand x o k m ∉ ns := by
  refine Classical.byContradiction fun no => ?_
  have all : ∀ i, i < 26 → cand x o k (i + 1) ∈ ns := fun i hi => Classical.byContradiction fun z => no ⟨i + 1, by omega, z⟩
  have nd : ((List.range 26).map fun i => cand x o k (i + 1)).Nodup := by
    unfold List.Nodup
    rw [List.pairwise_map]
    refine List.Pairwise.imp_of_mem (fun {a b} ha hb hab e => ?_) (List.nodup_range (n := 26))
    exact hab (cand_inj x o k h (List.mem_range.mp ha) (List.mem_range.mp hb) e)
  have l := HuS.nodup_le nd fun y hy => by
    obtain ⟨i, hi, rfl⟩ := List.mem_map.mp hy
    exact all i (List.mem_range.mp hi)
  rw [List.length_map, List.length_range] at l
  omega
theorem cand_ends (x : Str) (o k : Int) (h : (cs x).length ≤ 8) (ns : List Str) (hn : ns.length ≤ 20) : ∃ m, cand x o k m ∉ ns := by
  have l := cand_len x o k h 8
  have l8 : (cs (cand x o k 8)).length = 8 := by omega
  obtain ⟨m, _, hm⟩ := cand_out (cand x o k 8) (o + 5 * ((8 : Nat) : Int)) k l8 ns hn
  exact ⟨8 + m, by rw [cand_add]; exact hm⟩
def rFind : V → List V → Hp → VK → Prop := fun x xs H Q => ∃ a b, x = .str a ∧ xs = [.str b] ∧ Q (.int (Txt.find a b)) H
section
variable {K : PySem.W.Frag} {σ : L2.St} {H : Hp} {Q : VK} {x y v : V} {ta tb tc te : TE} {t u : TT} {D : Ends} {ts tu tw : TS}
theorem w_new {n : Nat} {R : Addr → Prop} (z : n ≤ sizeLine) (q : ∀ p, H p = none → R p) : n ≤ sizeLine ∧ ∀ p, H p = none → R p := ⟨z, q⟩
theorem w_for {wi : TI} {g : TG} (q : wi σ H fun J H1 => ∃ W : Nat → Nat → L2.St → Hp → Prop, (∃ m, W 0 m σ H1) ∧ ∀ i m σ H, W i m σ H →
    (J.stop i H ∧ D.nx σ H) ∨ (J.go i H ∧ ∃ N : L2.St → Hp → Prop, (∀ σ' H', N σ' H' → ∃ m', m' < m ∧ W (i + 1) m' σ' H') ∧ ∀ x H', J.yld i H x H' → g x σ H' fun σ2 H2 => ts { D with nx := N, ct := N, bk := D.nx } σ2 H2)) : tFor wi g ts D σ H := q
theorem w_rng1 {ta : TA} {R : It → Hp → Prop} (q : ta σ H fun vs H1 => ∃ j : Int, vs = [.int j] ∧ -(2 ^ 62) ≤ j ∧ j < 2 ^ 62 ∧ R (Itr 0 j.toNat) H1) : iRng1 ta σ H R := q
theorem w_iseq {R : It → Hp → Prop} (q : te σ H fun x H1 => ∃ a, x = .ref a ∧ (((∃ xs, SqL K H1 a xs) ∧ R (Itl K a) H1) ∨ ((∃ xs, SqT K H1 a xs) ∧ R (Itt K a) H1))) : iSeq K te σ H R := q
theorem w_isL {a : Addr} {xs : List V} {P1 : Addr → Prop} {P2 : Addr → Prop} (h : SqL K H a xs) (q : P1 a) : ∃ b, V.ref a = .ref b ∧ (((∃ xs, SqL K H b xs) ∧ P1 b) ∨ P2 b) := ⟨a, rfl, .inl ⟨⟨xs, h⟩, q⟩⟩
theorem w_inTxt {p : Addr} {z : Str} {xs : List Str} (h : SqL K H p (xs.map V.str)) (q : Q (.bl (decide (z ∈ xs))) H) : rIn2 K false (.str z) (.ref p) H Q := .inl ⟨p, _, rfl, .inl h, rfl, flat_txt xs, by rw [inV_txt]; exact q⟩
theorem w_inTxtT {p : Addr} {z : Str} {xs : List Str} (h : SqT K H p (xs.map V.str)) (q : Q (.bl (decide (z ∈ xs))) H) : rIn2 K false (.str z) (.ref p) H Q := .inl ⟨p, _, rfl, .inr h, rfl, flat_txt xs, by rw [inV_txt]; exact q⟩
theorem w_tYes {Q : Bool → Hp → Prop} (q : Q true H) : tYes σ H Q := q
theorem w_gN {i : Nat} {Qs : L2.St → Hp → Prop} (q : Qs (σ.set i (some v)) H) : gName i v σ H Qs := q
theorem w_gTup {n : Nat} {t : TGs} {a : Addr} {xs : List V} {Qs : L2.St → Hp → Prop} (h : SqT K H a xs) (l : xs.length = n) (q : t xs σ H Qs) : gTup K n t (.ref a) σ H Qs := ⟨a, xs, rfl, h, l, q⟩
theorem w_gTupN {n : Nat} {t : TGs} {a : Addr} {xs : List V} {Qs : L2.St → Hp → Prop} (l : xs.length = n) (q : t xs σ (upd H a (.tup xs)) Qs) : gTup K n t (.ref a) σ (upd H a (.tup xs)) Qs := ⟨a, xs, rfl, SqT.of upd_same, l, q⟩
theorem w_gCons {t : TG} {u : TGs} {vs : List V} {Qs : L2.St → Hp → Prop} (q : t v σ H fun σ' H' => u vs σ' H' Qs) : gCons t u (v :: vs) σ H Qs := ⟨v, vs, rfl, q⟩
theorem w_gNil {Qs : L2.St → Hp → Prop} (q : Qs σ H) : gNil [] σ H Qs := ⟨rfl, q⟩
theorem w_enum {ta : TA} {R : It → Hp → Prop} (q : ta σ H fun vs H1 => ∃ a xs, vs = [.ref a] ∧ SqL K H1 a xs ∧ R (Ite K a) H1) : iEnum K ta σ H R := q
theorem w_rng2 {ta : TA} {R : It → Hp → Prop} (q : ta σ H fun vs H1 => ∃ i j : Int, vs = [.int i, .int j] ∧ (-(2 ^ 62) ≤ i ∧ i < 2 ^ 62 ∧ -(2 ^ 62) ≤ j ∧ j < 2 ^ 62) ∧ R (Itr i (j - i).toNat) H1) : iRng2 ta σ H R := q
theorem w_isNref {a : Addr} (q : Q (.bl false) H) : rIsN2 false (.ref a) .non H Q := ⟨rfl, q⟩
theorem w_notNref {a : Addr} (q : Q (.bl true) H) : rIsN2 true (.ref a) .non H Q := ⟨rfl, q⟩
theorem w_isNint {i : Int} (q : Q (.bl false) H) : rIsN2 false (.int i) .non H Q := ⟨rfl, q⟩
theorem w_notNint {i : Int} (q : Q (.bl true) H) : rIsN2 true (.int i) .non H Q := ⟨rfl, q⟩
theorem w_isNnon (q : Q (.bl true) H) : rIsN2 false .non .non H Q := ⟨rfl, q⟩
theorem w_notNnon (q : Q (.bl false) H) : rIsN2 true .non .non H Q := ⟨rfl, q⟩
theorem w_dget {td ty : TE} (q : td σ H fun x H1 => ty σ H1 fun y H2 => ∃ a v, x = .ref a ∧ DGet H2 a y (some v) ∧ Q v H2) : tDGet td ty σ H Q := q
theorem w_dput {td ty tv : TE} (q : tv σ H fun v H1 => td σ H1 fun x H2 => ty σ H2 fun y H3 => ∃ a H4, x = .ref a ∧ DPut H3 a y v H4 ∧ D.nx σ H4) : sDPut td ty tv D σ H := q
theorem w_dnew (q : ∀ p, H p = none → Q (.ref p) (upd H p (.dK []))) : tDNewK σ H Q := q
theorem w_retN (q : D.rt .non H) : tRetN D σ H := q
theorem w_cont (q : D.ct σ H) : tCont D σ H := q
theorem w_inSg {neg : Bool} {c : Nat} {z : Str} (q : Q (.bl (if neg then !decide (c ∈ cs z) else decide (c ∈ cs z))) H) : rIn2 K neg (.str ⟨#[c]⟩) (.str z) H Q := .inr ⟨c, z, rfl, rfl, q⟩
theorem w_sl {tl th : TO} {r : V → Option Int → Option Int → Hp → VK → Prop} (q : te σ H fun x H1 => tl σ H1 fun l H2 => th σ H2 fun u H3 => r x l u H3 Q) : tSl r te tl th σ H Q := q
theorem w_noP {Q : Option Int → Hp → Prop} (q : Q none H) : tNoPart σ H Q := q
theorem w_part {Q : Option Int → Hp → Prop} (q : te σ H fun x H1 => ∃ i, x = .int i ∧ Q (some i) H1) : tPart te σ H Q := q
theorem w_slS {z : Str} {lo hi : Option Int} (h : z.length ≤ sizeLine) (q : Q (.str (Txt.slice z lo hi)) H) : rSl K (.str z) lo hi H Q := .inr (.inr ⟨z, rfl, h, q⟩)
theorem w_slL {a : Addr} {xs : List V} {lo hi : Option Int} (h : SqL K H a xs) (q : ∀ p, H p = none → Q (.ref p) (upd H p (.lst (cutV xs lo hi)))) : rSl K (.ref a) lo hi H Q := .inl ⟨a, xs, rfl, h, q⟩
theorem w_exI {i : Int} {R : Int → Prop} (q : R i) : ∃ j, V.int i = .int j ∧ R j := ⟨i, rfl, q⟩
theorem w_bm {T : String} {r : V → List V → Hp → VK → Prop} {t : TA} (q : te σ H fun x H1 => tyV K T x H1 ∧ t σ H1 fun xs H2 => r x xs H2 Q) : tBM K T r te t σ H Q := q
theorem w_bmS {z : Str} {R : Prop} (q : R) : tyV K "str" (.str z) H ∧ R := ⟨rfl, q⟩
theorem w_bmL {p : Addr} {xs : List V} {R : Prop} (h : SqL K H p xs) (q : R) : tyV K "list" (.ref p) H ∧ R := ⟨.inl ⟨rfl, xs, h⟩, q⟩
theorem w_find {a b : Str} (q : Q (.int (Txt.find a b)) H) : rFind (.str a) [.str b] H Q := ⟨a, b, rfl, rfl, q⟩
theorem w_bm0 {T : String} {r : V → List V → Hp → VK → Prop} (q : te σ H fun x H1 => tyV K T x H1 ∧ r x [] H1 Q) : tBM0 K T r te σ H Q := q
theorem w_pop {l : Addr} {xs : List V} (h : H l = some (.lst xs)) (e : xs[xs.length - 1]? = some y) (q : Q y (upd H l (.lst xs.dropLast))) : rPop (.ref l) [] H Q := ⟨l, xs, y, rfl, rfl, h, e, q⟩
theorem w_tupL {p : Addr} {xs : List V} (h : SqL K H p xs) (q : ∀ l, H l = none → Q (.ref l) (upd H l (.tup xs))) : rTupO K [.ref p] H Q := ⟨p, xs, rfl, .inl ⟨h, q⟩⟩
theorem w_app {l : Addr} {xs : List V} (h : H l = some (.lst xs)) (z : xs.length < sizeLine) (q : Q .non (upd H l (.lst (xs ++ [y])))) : rAppend (.ref l) [y] H Q := ⟨l, xs, y, rfl, rfl, h, z, q⟩
theorem w_while' {c : TT} (Pv : Nat → L2.St → Hp → Prop) (m0 : Nat) (h0 : Pv m0 σ H)
    (hs : ∀ m σ' H', Pv m σ' H' → c σ' H' fun b H1 => if b = true then ∃ N : L2.St → Hp → Prop, (∀ σ2 H2, N σ2 H2 → ∃ m', m' < m ∧ Pv m' σ2 H2) ∧ ts { D with nx := N, ct := N, bk := D.nx } σ' H1 else D.nx σ' H1) : tWhile c ts D σ H :=
  ⟨Pv, ⟨m0, h0⟩, hs⟩
theorem w_body {m : Nat} {Pv : Nat → L2.St → Hp → Prop} {S : Ends} (h : ts { S with nx := fun σ2 H2 => ∃ m', m' < m ∧ Pv m' σ2 H2, ct := fun σ2 H2 => ∃ m', m' < m ∧ Pv m' σ2 H2, bk := D.nx } σ H) :
    ∃ N : L2.St → Hp → Prop, (∀ σ2 H2, N σ2 H2 → ∃ m', m' < m ∧ Pv m' σ2 H2) ∧ ts { S with nx := N, ct := N, bk := D.nx } σ H := ⟨_, fun _ _ h => h, h⟩
end
local macro_rules | `(tactic| walk_at "sm") => `(tactic| first
  | with_reducible assumption
  | exact Same.refl _
  | (refine Same.trans ?_ (same_new (by with_reducible assumption)); walk_at "sm")
  | (refine same_mut ?_ (by with_reducible assumption); walk_at "sm")
  | (refine Same.trans (H1 := ?M) ?a ?b; (case b => with_reducible assumption); (case a => walk_at "sm")))
local macro_rules | `(tactic| walk_at "sq") => `(tactic| first
  | with_reducible assumption
  | (refine same_t (H := ?M) ?e ?h; (case h => with_reducible assumption); (case e => walk_at "sm"))
  | (refine same_l (H := ?M) ?e ?h; (case h => with_reducible assumption); (case e => walk_at "sm"))
  | exact SqT.of upd_same
  | exact SqL.of upd_same
  | exact SqL.of (by with_reducible assumption)
  | exact SqT.of (by with_reducible assumption)
  | (refine SqL.of (Eq.trans (upd_ne ?n) ?h); (case h => with_reducible assumption); (case n => walk_at "ne"))
  | (refine SqT.of (Eq.trans (upd_ne ?n) ?h); (case h => with_reducible assumption); (case n => walk_at "ne")))
local macro_rules | `(tactic| walk_at "ne") => `(tactic| first | with_reducible assumption | exact ne_of_none (by with_reducible assumption) (by with_reducible assumption) | exact (ne_of_none (by with_reducible assumption) (by with_reducible assumption)).symm)
local macro_rules | `(tactic| walk_at "sz") => `(tactic| first | with_reducible assumption | (refine sz ?_; first | omega | (simp only [List.length_cons, List.length_nil, List.length_map]; omega) | (simp only [cs_len]; omega)))
set_option hygiene false in
local macro_rules | `(tactic| walk_at "new") => `(tactic| (refine w_new ?_ (fun p hp => ?_); (walk_at "sz")))
local macro_rules | `(tactic| walk_at "tr") => `(tactic| first | with_reducible assumption | with_reducible rfl | decide +kernel | exact decide_eq_true (by with_reducible assumption) | exact decide_eq_false (by with_reducible assumption))
local macro_rules | `(tactic| walk_at "go1") => `(tactic| first
  | with_reducible refine w_seq ?_
  | with_reducible refine w_if ?_
  | with_reducible refine w_asg ?_
  | with_reducible refine w_asgT ?_
  | with_reducible refine w_ret ?_
  | with_reducible refine w_next ?_
  | with_reducible refine w_drop ?_
  | with_reducible refine w_test ?_
  | with_reducible refine w_tB ?_
  | with_reducible refine w_op ?_
  | with_reducible refine w_c ?_
  | ((with_reducible refine w_var (v := ?v) ?h ?_); (case h => rfl))
  | with_reducible refine w_cons ?_
  | with_reducible refine w_nil ?_
  | with_reducible refine w_f ?_
  | with_reducible refine w_cb ?_
  | with_reducible refine w_bl ?_
  | ((with_reducible refine w_ixT (xs := ?xs) (v := ?v) ?h ?e ?_); (case h => walk_at "sq"); (case e => rfl))
  | ((with_reducible refine w_ixL (xs := ?xs) (v := ?v) ?h ?e ?_); (case h => walk_at "sq"); (case e => rfl))
  | with_reducible refine w_eqI ?_
  | with_reducible refine w_eqS ?_
  | with_reducible refine w_neI ?_
  | with_reducible refine w_neS ?_
  | with_reducible refine w_addI ?_
  | with_reducible refine w_sub ?_
  | ((with_reducible refine w_mod ?c ?_); (case c => (first | decide | omega)))
  | ((with_reducible refine w_div ?c ?_); (case c => (first | exact ⟨by decide, by decide⟩ | exact ⟨by omega, by omega⟩)))
  | with_reducible refine w_lt ?_
  | with_reducible refine w_le ?_
  | with_reducible refine w_gt ?_
  | with_reducible refine w_ge ?_
  | with_reducible refine w_and ?_
  | with_reducible refine w_or ?_
  | with_reducible refine w_not ?_
  | with_reducible refine w_andV ?_
  | with_reducible refine w_orV ?_
  | with_reducible refine w_notV ?_
  | with_reducible refine w_un ?_
  | with_reducible refine w_neg ?_
  | with_reducible refine w_intB ?_
  | with_reducible refine w_intI ?_
  | ((with_reducible refine w_yes ?e ?_); (case e => walk_at "tr"))
  | ((with_reducible refine w_no ?e ?_); (case e => walk_at "tr"))
  | with_reducible refine w_for ?_
  | with_reducible refine w_rng1 ?_
  | with_reducible refine w_iseq ?_
  | with_reducible refine w_sl ?_
  | with_reducible refine w_noP ?_
  | with_reducible refine w_tYes ?_
  | with_reducible refine w_gN ?_
  | ((with_reducible refine w_gTupN ?l ?_); (case l => rfl))
  | ((with_reducible refine w_gTup (xs := ?xs) ?h ?l ?_); (case h => walk_at "sq"); (case l => rfl))
  | with_reducible refine w_gCons ?_
  | with_reducible refine w_gNil ?_
  | with_reducible refine w_enum ?_
  | with_reducible refine w_rng2 ?_
  | with_reducible refine w_isNref ?_
  | with_reducible refine w_notNref ?_
  | with_reducible refine w_isNint ?_
  | with_reducible refine w_notNint ?_
  | with_reducible refine w_isNnon ?_
  | with_reducible refine w_notNnon ?_
  | with_reducible refine w_dget ?_
  | with_reducible refine w_dput ?_
  | with_reducible refine w_dnew ?_
  | with_reducible refine w_fld ?_
  | with_reducible refine w_sfld ?_
  | with_reducible refine w_m ?_
  | with_reducible refine w_mk ?_
  | with_reducible refine w_glt ?_
  | with_reducible refine w_chain ?_
  | with_reducible refine w_istr ?_
  | with_reducible refine w_retN ?_
  | with_reducible refine w_cont ?_
  | with_reducible refine w_part ?_
  | with_reducible refine w_exI ?_
  | with_reducible refine w_bm ?_
  | with_reducible refine w_bm0 ?_
  | with_reducible refine w_bmS ?_
  | ((with_reducible refine w_bmL (xs := ?xs) ?h ?_); (case h => walk_at "sq"))
  | with_reducible refine w_find ?_
  | ((with_reducible refine w_slS ?z ?_); (case z => walk_at "sz"))
  | ((with_reducible refine w_lenS ?z ?_); (case z => walk_at "sz"))
  | ((with_reducible refine w_addT ?z ?_); (case z => walk_at "sz"))
  | ((with_reducible refine w_lenL (xs := ?xs) ?h ?_); (case h => walk_at "sq"))
  | ((with_reducible refine w_lenT (xs := ?xs) ?h ?_); (case h => walk_at "sq"))
  | with_reducible refine w_lst ?_
  | with_reducible refine w_tup ?_)
local macro_rules | `(tactic| walk_at "go") => `(tactic| repeat walk_at "go1")
local macro_rules | `(tactic| walk_at "gn") => `(tactic| repeat ((fail_if_success (with_reducible refine w_next ?_)); walk_at "go1"))
local macro_rules | `(tactic| walk_at "sz1") => `(tactic| (simp only [List.length_cons, List.length_nil, List.length_map]; omega))
inductive Sg where
  | add | sub | mul | div | lt | eq
  deriving DecidableEq
def Sg.txt : Sg → Str
  | .add => "+" | .sub => "-" | .mul => "*" | .div => "/" | .lt => "<" | .eq => "="
inductive Fm where
  | num (n : Int)
  | nam (x : Str)
  | op (s : Sg) (a b : Fm)
def Fm.depth : Fm → Nat
  | .num _ => 1
  | .nam _ => 1
  | .op _ a b => max a.depth b.depth + 1
theorem Fm.depth_pos : ∀ f : Fm, 1 ≤ f.depth
  | .num _ => Nat.le_refl _
  | .nam _ => Nat.le_refl _
  | .op _ _ _ => Nat.succ_le_succ (Nat.zero_le _)
inductive FmAt (K : PySem.W.Frag) (H : Hp) : V → Fm → Prop where
  | num {a : Addr} {n : Int} (h : SqT K H a [.str "number", .int n]) : FmAt K H (.ref a) (.num n)
  | nam {a : Addr} {x : Str} (h : SqT K H a [.str "name", .str x]) : FmAt K H (.ref a) (.nam x)
  | op {a : Addr} {s : Sg} {u v : V} {f g : Fm} (h : SqT K H a [.str s.txt, u, v]) (h1 : FmAt K H u f) (h2 : FmAt K H v g) : FmAt K H (.ref a) (.op s f g)
theorem FmAt.mono {K : PySem.W.Frag} {H H' : Hp} (e : Same H H') {v : V} {f : Fm} (h : FmAt K H v f) : FmAt K H' v f := by
  induction h with
  | num h => exact .num (same_t e h)
  | nam h => exact .nam (same_t e h)
  | op h _ _ i1 i2 => exact .op (same_t e h) i1 i2
theorem sg_num (s : Sg) : decide (s.txt = ("number" : Str)) = false := by cases s <;> decide +kernel
theorem sg_nam (s : Sg) : decide (s.txt = ("name" : Str)) = false := by cases s <;> decide +kernel
def Fm.names : Fm → List Str
  | .num _ => []
  | .nam x => [x]
  | .op _ a b => a.names ++ b.names
theorem Fm.names_len : ∀ f : Fm, f.names.length ≤ 2 ^ f.depth
  | .num _ => Nat.zero_le _
  | .nam _ => by show 1 ≤ 2 ^ 1; decide
  | .op _ a b => by
    have h1 := a.names_len
    have h2 := b.names_len
    have h3 : 2 ^ a.depth ≤ 2 ^ max a.depth b.depth := Nat.pow_le_pow_right (by decide) (Nat.le_max_left _ _)
    have h4 : 2 ^ b.depth ≤ 2 ^ max a.depth b.depth := Nat.pow_le_pow_right (by decide) (Nat.le_max_right _ _)
    show (a.names ++ b.names).length ≤ 2 ^ (max a.depth b.depth + 1)
    rw [List.length_append, Nat.pow_succ]
    omega
def Fm.ok (ns : List Str) : Fm → Prop
  | .num n => 0 ≤ n ∧ n < 1000000
  | .nam x => x ∈ ns
  | .op _ a b => a.ok ns ∧ b.ok ns
theorem Fm.ok_mono {ns ms : List Str} (h : ∀ x ∈ ns, x ∈ ms) : ∀ {f : Fm}, f.ok ns → f.ok ms
  | .num _, q => q
  | .nam _, q => h _ q
  | .op _ _ _, q => ⟨Fm.ok_mono h q.1, Fm.ok_mono h q.2⟩
def sp_law_cell_at (K : PySem.W.Frag) : Sp := fun vs H Q _ => ∃ (a : Addr) (ns : List Int) (k : Int), vs = [.ref a, .int k] ∧ SqL K H a (ns.map V.int) ∧ 0 ≤ k ∧ ∀ c : Int, Q (.int c) H
def sp_law_mixed (_ : PySem.W.Frag) : Sp := fun vs H Q _ => ∃ n : Int, vs = [.int n] ∧ ∀ r : Int, 0 ≤ r → r < 2147483647 → Q (.int r) H
def sp_law_name_by (_ : PySem.W.Frag) : Sp := fun vs H Q _ => ∃ n : Int, vs = [.int n] ∧ ∀ x H', Nm x → Same H H' → Q (.str x) H'
def sp_law_twin (_ : PySem.W.Frag) : Sp := fun vs H Q _ => ∃ (x : Str) (n : Int), vs = [.str x, .int n] ∧ Nm x ∧ ∀ y H', Nm y → Same H H' → Q (.str y) H'
structure Ten (ns : List Str) : Prop where
  len : ns.length = 10
  nd : ns.Nodup
  nm : ∀ x ∈ ns, Nm x
def sp_law_names (_ : PySem.W.Frag) : Sp := fun vs H Q _ => ∃ n m : Int, vs = [.int n, .int m] ∧ ∀ p H' ns, Ten ns → Same H H' → H p = none → H' p = some (.lst (ns.map V.str)) → Q (.ref p) H'
def sp_law_end_by (K : PySem.W.Frag) : Sp := fun vs H Q _ => ∃ (n : Int) (a : Addr) (ns : List Str), vs = [.int n, .ref a] ∧ SqL K H a (ns.map V.str) ∧ (∀ x ∈ ns, Nm x) ∧ ns.length ≤ 1000 ∧ ∀ v H' f, FmAt K H' v f → Same H H' → f.ok ns → f.depth = 1 → Q v H'
def sp_law_formula_by (K : PySem.W.Frag) (n : Nat) : Sp := fun vs H Q _ => ∃ (i : Int) (a b : Addr) (ns ms : List Str) (d : Bool) (l : Int), vs = [.int i, .ref a, .ref b, .bl d, .int l] ∧ SqL K H a (ns.map V.str) ∧ SqL K H b (ms.map V.str) ∧
  (∀ x ∈ ns, Nm x) ∧ (∀ x ∈ ms, Nm x) ∧ ns.length ≤ 1000 ∧ ms.length ≤ 1000 ∧ 1 ≤ l ∧ l ≤ n ∧ ∀ v H' f, FmAt K H' v f → Same H H' → f.ok (ns ++ ms) → (f.depth : Int) ≤ l → Q v H'
abbrev N_law_cell_at : List Str := ["_law_script", "_law_k"]
def t_law_cell_at (K : PySem.W.Frag) : TS :=
  (tSeq (tIfS (tTest (tOp rLt (tVar 1) (tCB (rLenA K) (tCons (tVar 0) tNil)))) (tRet (tOp (rIx K) (tVar 0) (tVar 1))) tNext) (tRet (tC (.int 0))))
abbrev N_law_mixed : List Str := ["_law_number"]
def t_law_mixed (K : PySem.W.Frag) : TS :=
  (tRet (tOp rMod (tOp (rAdd K) (tOp rMul (tVar 0) (tC (.int 48271))) (tC (.int 7919))) (tC (.int 2147483647))))
abbrev N_law_name_by : List Str := ["_law_cell", "_law_found", "_law_number", "_law_k"]
def t_law_name_by (K : PySem.W.Frag) : TS :=
  (tSeq (tAsg (tOp (rIx K) (tC (.str "abcdefghijklmnopqrstuvwxyz")) (tOp rMod (tOp rDiv (tVar 0) (tC (.int 8))) (tC (.int 26)))) (gName 1)) (tSeq (tAsg (tVar 0) (gName 2)) (tSeq (tFor (iRng1 (tCons (tOp rMod (tVar 0) (tC (.int 8))) tNil)) (gName 3) (tSeq (tAsg (tF (sp_law_mixed K) (tCons (tVar 2) tNil)) (gName 2)) (tAsg (tOp (rAdd K) (tVar 1) (tOp (rIx K) (tC (.str "abcdefghijklmnopqrstuvwxyz0123456789")) (tOp rMod (tVar 2) (tC (.int 36))))) (gName 1)))) (tSeq (tIfS (tTest (tOp (rIn2 K false) (tVar 1) (tLst (tCons (tC (.str "set")) (tCons (tC (.str "tell")) (tCons (tC (.str "skip")) (tCons (tC (.str "if")) (tCons (tC (.str "else")) (tCons (tC (.str "while")) (tCons (tC (.str "end")) tNil)))))))))) (tRet (tOp (rAdd K) (tVar 1) (tC (.str "0")))) tNext) (tRet (tVar 1))))))
abbrev N_law_twin : List Str := ["_law_name", "_law_cell", "_law_some", "_law_at", "_law_step", "_law_found"]
def t_law_twin (K : PySem.W.Frag) : TS :=
  (tSeq (tAsg (tC (.str "abcdefghijklmnopqrstuvwxyz")) (gName 2)) (tSeq (tAsg (tOp rMod (tVar 1) (tCB (rLenA K) (tCons (tVar 0) tNil))) (gName 3)) (tSeq (tIfS (tTest (tOp rGt (tVar 3) (tC (.int 0)))) (tAsg (tOp (rAdd K) (tVar 2) (tC (.str "0123456789"))) (gName 2)) tNext) (tSeq (tAsg (tOp (rAdd K) (tOp (rAdd K) (tBM K "str" rFind (tVar 2) (tCons (tOp (rIx K) (tVar 0) (tVar 3)) tNil)) (tC (.int 1))) (tOp rMod (tOp rDiv (tVar 1) (tC (.int 8))) (tOp rSub (tCB (rLenA K) (tCons (tVar 2) tNil)) (tC (.int 1))))) (gName 4)) (tSeq (tAsg (tOp (rAdd K) (tOp (rAdd K) (tSl (rSl K) (tVar 0) tNoPart (tPart (tVar 3))) (tOp (rIx K) (tVar 2) (tOp rMod (tVar 4) (tCB (rLenA K) (tCons (tVar 2) tNil))))) (tSl (rSl K) (tVar 0) (tPart (tOp (rAdd K) (tVar 3) (tC (.int 1)))) tNoPart)) (gName 5)) (tSeq (tIfS (tTest (tOp (rIn2 K false) (tVar 5) (tLst (tCons (tC (.str "set")) (tCons (tC (.str "tell")) (tCons (tC (.str "skip")) (tCons (tC (.str "if")) (tCons (tC (.str "else")) (tCons (tC (.str "while")) (tCons (tC (.str "end")) tNil)))))))))) (tRet (tOp (rAdd K) (tVar 5) (tC (.str "0")))) tNext) (tRet (tVar 5))))))))
abbrev N_law_names : List Str := ["_law_one", "_law_other", "_law_names_here", "_law_k", "_law_name"]
def t_law_names (K : PySem.W.Frag) : TS :=
  (tSeq (tAsg (tLst tNil) (gName 2)) (tSeq (tFor (iRng1 (tCons (tC (.int 10)) tNil)) (gName 3) (tSeq (tAsg (tF (sp_law_mixed K) (tCons (tVar 0) tNil)) (gName 0)) (tSeq (tAsg (tF (sp_law_name_by K) (tCons (tOp rDiv (tVar 0) (tC (.int 5))) tNil)) (gName 4)) (tSeq (tIfS (tAnd (tTest (tOp (rEq2 K) (tOp rMod (tVar 3) (tC (.int 2))) (tC (.int 1)))) (tTest (tOp (rEq2 K) (tOp rMod (tOp rDiv (tVar 1) (tC (.int 4))) (tC (.int 2))) (tC (.int 1))))) (tAsg (tF (sp_law_twin K) (tCons (tOp (rIx K) (tVar 2) (tOp rSub (tVar 3) (tC (.int 1)))) (tCons (tF (sp_law_mixed K) (tCons (tOp (rAdd K) (tVar 1) (tVar 3)) tNil)) tNil))) (gName 4)) tNext) (tSeq (tWhile (tOr (tTest (tOp (rIn2 K false) (tVar 4) (tVar 2))) (tTest (tOp (rIn2 K false) (tVar 4) (tLst (tCons (tC (.str "set")) (tCons (tC (.str "tell")) (tCons (tC (.str "skip")) (tCons (tC (.str "if")) (tCons (tC (.str "else")) (tCons (tC (.str "while")) (tCons (tC (.str "end")) tNil))))))))))) (tSeq (tAsg (tOp (rAdd K) (tSl (rSl K) (tVar 4) tNoPart (tPart (tC (.int 7)))) (tOp (rIx K) (tC (.str "abcdefghijklmnopqrstuvwxyz")) (tOp rMod (tOp (rAdd K) (tOp (rAdd K) (tVar 1) (tCB (rLenA K) (tCons (tVar 4) tNil))) (tVar 3)) (tC (.int 26))))) (gName 4)) (tAsg (tOp (rAdd K) (tVar 1) (tC (.int 5))) (gName 1)))) (tDrop (tBM K "list" rAppend (tVar 2) (tCons (tVar 4) tNil)))))))) (tRet (tVar 2))))
abbrev N_law_end_by : List Str := ["_law_number", "_law_names_here"]
def t_law_end_by (K : PySem.W.Frag) : TS :=
  (tSeq (tIfS (tAnd (tTest (tOp (rNe2 K) (tVar 1) (tLst tNil))) (tTest (tOp rGt (tOp rMod (tVar 0) (tC (.int 3))) (tC (.int 0))))) (tRet (tTup (tCons (tC (.str "name")) (tCons (tOp (rIx K) (tVar 1) (tOp rMod (tOp rDiv (tVar 0) (tC (.int 3))) (tCB (rLenA K) (tCons (tVar 1) tNil)))) tNil)))) tNext) (tSeq (tIfS (tTest (tOp (rEq2 K) (tOp rMod (tOp rDiv (tVar 0) (tC (.int 3))) (tC (.int 4))) (tC (.int 0)))) (tRet (tTup (tCons (tC (.str "number")) (tCons (tOp rMod (tOp rDiv (tVar 0) (tC (.int 12))) (tOp rPow (tC (.int 10)) (tC (.int 6)))) tNil)))) tNext) (tRet (tTup (tCons (tC (.str "number")) (tCons (tOp rMod (tOp rDiv (tVar 0) (tC (.int 12))) (tC (.int 5))) tNil))))))
abbrev N_law_formula_by : List Str := ["_law_number", "_law_names_here", "_law_low", "_law_divide", "_law_left", "_law_sign", "_law_one"]
def t_law_formula_by (K : PySem.W.Frag) (n : Nat) : TS :=
  (tSeq (tAsg (tF (sp_law_mixed K) (tCons (tVar 0) tNil)) (gName 0)) (tSeq (tIfS (tOr (tTest (tOp (rEq2 K) (tVar 4) (tC (.int 1)))) (tTest (tOp rLt (tOp rMod (tVar 0) (tC (.int 8))) (tC (.int 3))))) (tRet (tF (sp_law_end_by K) (tCons (tOp rDiv (tVar 0) (tC (.int 8))) (tCons (tVar 1) tNil)))) tNext) (tSeq (tAsg (tOp (rIx K) (tLst (tCons (tC (.str "+")) (tCons (tC (.str "-")) (tCons (tC (.str "*")) (tCons (tC (.str "<")) (tCons (tC (.str "=")) (tCons (tC (.str "+")) (tCons (tC (.str "-")) (tCons (tC (.str "<")) (tCons (tC (.str "/")) (tCons (tC (.str "/")) tNil))))))))))) (tOp rMod (tOp rDiv (tVar 0) (tC (.int 8))) (tOp (rIx K) (tLst (tCons (tC (.int 8)) (tCons (tC (.int 10)) tNil))) (tCB rInt (tCons (tVar 3) tNil))))) (gName 5)) (tSeq (tAsg (tF (sp_law_formula_by K n) (tCons (tOp (rAdd K) (tOp rMul (tVar 0) (tC (.int 3))) (tC (.int 1))) (tCons (tVar 1) (tCons (tVar 2) (tCons (tVar 3) (tCons (tOp rSub (tVar 4) (tC (.int 1))) tNil)))))) (gName 6)) (tSeq (tIfS (tAnd (tTest (tOp (rEq2 K) (tVar 5) (tC (.str "/")))) (tTest (tOp rLt (tOp rMod (tOp rDiv (tVar 0) (tC (.int 80))) (tC (.int 4))) (tC (.int 3))))) (tRet (tTup (tCons (tVar 5) (tCons (tVar 6) (tCons (tTup (tCons (tC (.str "number")) (tCons (tOp (rAdd K) (tC (.int 1)) (tOp rMod (tOp rDiv (tVar 0) (tC (.int 320))) (tC (.int 9)))) tNil))) tNil))))) tNext) (tSeq (tIfS (tTest (tOp (rEq2 K) (tVar 5) (tC (.str "/")))) (tRet (tTup (tCons (tVar 5) (tCons (tVar 6) (tCons (tF (sp_law_formula_by K n) (tCons (tOp (rAdd K) (tOp rMul (tVar 0) (tC (.int 5))) (tC (.int 2))) (tCons (tVar 2) (tCons (tVar 2) (tCons (tVar 3) (tCons (tOp rSub (tVar 4) (tC (.int 1))) tNil)))))) tNil))))) tNext) (tRet (tTup (tCons (tVar 5) (tCons (tVar 6) (tCons (tF (sp_law_formula_by K n) (tCons (tOp (rAdd K) (tOp rMul (tVar 0) (tC (.int 5))) (tC (.int 2))) (tCons (tVar 1) (tCons (tVar 2) (tCons (tVar 3) (tCons (tOp rSub (tVar 4) (tC (.int 1))) tNil)))))) tNil)))))))))))
theorem at_map {α : Type} {f : α → V} {xs : List α} {k : Int} (h0 : 0 ≤ k) (h : k < (xs.length : Int)) : ∃ x, x ∈ xs ∧ xs[k.toNat]? = some x ∧ atI (xs.map f) k = some (f x) := by
  obtain ⟨j, rfl⟩ := Int.eq_ofNat_of_zero_le h0
  have hj : j < xs.length := by omega
  refine ⟨xs[j], List.getElem_mem hj, by rw [Int.toNat_natCast, List.getElem?_eq_getElem hj], atI_nat ?_⟩
  rw [List.getElem?_map, List.getElem?_eq_getElem hj]
  rfl
theorem mod_in (a : Int) {m : Int} (h : 0 < m) : 0 ≤ a % m ∧ a % m < m := ⟨Int.emod_nonneg a (by omega), Int.emod_lt_of_pos a h⟩
theorem pure_law_cell_at (K : PySem.W.Frag) (vs : List V) (H : Hp) (Q : VK) (E : XK) (h : sp_law_cell_at K vs H Q E) :
    t_law_cell_at K { nx := fun _ H' => Q .non H', rt := Q } (start N_law_cell_at vs) H := by
  obtain ⟨a, ns, k, rfl, hS, h0, q⟩ := h
  unfold t_law_cell_at
  walk_at "go"
  refine w_two (fun e => ?_) (fun e => ?_)
  · have e := of_decide_eq_true e
    rw [List.length_map] at e
    obtain ⟨x, _, _, hx⟩ := at_map (f := V.int) h0 e
    walk_at "go"
    exact w_ixL hS hx (q x)
  · walk_at "go"
    exact q 0
theorem pure_law_mixed (K : PySem.W.Frag) (vs : List V) (H : Hp) (Q : VK) (E : XK) (h : sp_law_mixed K vs H Q E) :
    t_law_mixed K { nx := fun _ H' => Q .non H', rt := Q } (start N_law_mixed vs) H := by
  obtain ⟨n, rfl, q⟩ := h
  unfold t_law_mixed
  walk_at "go"
  refine w_mulI (.inr ⟨by decide, by decide⟩) ?_
  walk_at "go"
  have m := mod_in (n * 48271 + 7919) (show (0 : Int) < 2147483647 by decide)
  exact q _ m.1 m.2
theorem len_le {x : Str} {n : Nat} (h : (cs x).length ≤ n) (hn : n ≤ 16000000) : x.length ≤ sizeLine := sz (by rw [cs_len]; omega)
theorem pure_law_name_by (K : PySem.W.Frag) (vs : List V) (H : Hp) (Q : VK) (E : XK) (h : sp_law_name_by K vs H Q E) :
    t_law_name_by K { nx := fun _ H' => Q .non H', rt := Q } (start N_law_name_by vs) H := by
  obtain ⟨n, rfl, q⟩ := h
  unfold t_law_name_by
  have m26 := mod_in (n / 8) (show (0 : Int) < 26 by decide)
  have m8 := mod_in n (show (0 : Int) < 8 by decide)
  walk_at "go"
  refine w_ixS (sz (by decide +kernel)) (az_at m26.1 m26.2) ?_
  walk_at "go"
  refine ⟨_, rfl, by omega, by omega, for_range (lo := 0) (n := (n % 8).toNat) (fun i σ H' => H' = H ∧ ∃ (x : Str) (m : Int) (v : Option V), σ = [some (.int n), some (.str x), some (.int m), v] ∧ Nw x (i + 1))
    ⟨rfl, _, _, _, rfl, Nw.one ⟨by omega, by omega⟩⟩ ?_ ?_⟩
  · rintro i σ H' hi ⟨rfl, x, m, v, rfl, hx⟩
    show tSeq _ _ _ _ _
    walk_at "go"
    refine ⟨_, rfl, fun r r0 r1 => ?_⟩
    have m36 := mod_in r (show (0 : Int) < 36 by decide)
    obtain ⟨c, hc, sc⟩ := az9_at m36.1 m36.2
    walk_at "go"
    refine w_ixS (sz (by decide +kernel)) hc ?_
    refine w_addT (sz (by have := hx.most; rw [cs_len, cs_len, cs_one, List.length_singleton]; omega)) ?_
    exact ⟨rfl, _, _, _, rfl, hx.snoc sc⟩
  · rintro σ H' ⟨rfl, x, m, v, rfl, hx⟩
    have hx8 : Nw x 8 := ⟨hx.pos, by have := hx.most; omega, hx.hd, hx.all⟩
    walk_at "go"
    walk_at "new"
    refine w_inTxt (xs := words) (SqL.of upd_same) ?_
    walk_at "go"
    refine w_two (fun e => ?_) (fun e => ?_)
    · walk_at "go"
      refine w_addT (sz (by have := hx8.most; have : (cs ("0" : Str)).length = 1 := by decide +kernel
                            rw [cs_len, cs_len]; omega)) ?_
      exact q _ _ (hx.zero (of_decide_eq_true e)) (by walk_at "sm")
    · walk_at "go"
      exact q _ _ (hx8.nm (of_decide_eq_false e)) (by walk_at "sm")
theorem sgn_of_az {i : Int} (h0 : 0 ≤ i) (h : i < 26) : ∃ c, atI (cs az) i = some c ∧ IsSgn c ∧ IsLet c := ⟨_, az_at h0 h, .inl ⟨by omega, by omega⟩, ⟨by omega, by omega⟩⟩
theorem pure_law_twin (K : PySem.W.Frag) (vs : List V) (H : Hp) (Q : VK) (E : XK) (h : sp_law_twin K vs H Q E) :
    t_law_twin K { nx := fun _ H' => Q .non H', rt := Q } (start N_law_twin vs) H := by
  obtain ⟨x, n, rfl, hx, q⟩ := h
  unfold t_law_twin
  have l8 := hx.most
  have l1 := hx.pos
  have lx : x.length = (cs x).length := cs_len x
  walk_at "go"
  have ma := mod_in n (show (0 : Int) < ((x.length : Nat) : Int) by omega)
  generalize hat : n % ((x.length : Nat) : Int) = a at ma ⊢
  have key : ∀ (z : Str) (m : Int), (z = az ∧ m = 26) ∨ (z = az ++ n09 ∧ m = 36 ∧ 0 < a) → ∀ H1, H1 = H → ((z.length : Nat) : Int) = m ∧ z.length ≤ sizeLine ∧ ∀ i : Int, 0 ≤ i → i < m → ∃ c, atI (cs z) i = some c ∧ IsSgn c ∧ (a = 0 → IsLet c) := by
    rintro z m (⟨rfl, rfl⟩ | ⟨rfl, rfl, hp⟩) H1 _
    · refine ⟨by rw [cs_len, az_cs] <;> rfl, sz (by decide +kernel), fun i h0 h1 => ?_⟩
      obtain ⟨c, h2, h3, h4⟩ := sgn_of_az h0 h1
      exact ⟨c, h2, h3, fun _ => h4⟩
    · rw [← az9_eq]
      refine ⟨by rw [cs_len, az9_cs]; simp, sz (by decide +kernel), fun i h0 h1 => ?_⟩
      obtain ⟨c, h2, h3⟩ := az9_at h0 h1
      exact ⟨c, h2, h3, fun z => by omega⟩
  have obt : ∃ c, atI (cs x) a = some c := by
    obtain ⟨j, rfl⟩ := Int.eq_ofNat_of_zero_le ma.1
    have hj : j < (cs x).length := by omega
    exact ⟨_, atI_nat (List.getElem?_eq_getElem hj)⟩
  obtain ⟨c0, hc0⟩ := obt
  have rest : ∀ (z : Str) (m : Int), (z = az ∧ m = 26) ∨ (z = az ++ n09 ∧ m = 36 ∧ 0 < a) →
      (tSeq (tAsg (tOp (rAdd K) (tOp (rAdd K) (tBM K "str" rFind (tVar 2) (tCons (tOp (rIx K) (tVar 0) (tVar 3)) tNil)) (tC (.int 1))) (tOp rMod (tOp rDiv (tVar 1) (tC (.int 8))) (tOp rSub (tCB (rLenA K) (tCons (tVar 2) tNil)) (tC (.int 1))))) (gName 4)) (tSeq (tAsg (tOp (rAdd K) (tOp (rAdd K) (tSl (rSl K) (tVar 0) tNoPart (tPart (tVar 3))) (tOp (rIx K) (tVar 2) (tOp rMod (tVar 4) (tCB (rLenA K) (tCons (tVar 2) tNil))))) (tSl (rSl K) (tVar 0) (tPart (tOp (rAdd K) (tVar 3) (tC (.int 1)))) tNoPart)) (gName 5)) (tSeq (tIfS (tTest (tOp (rIn2 K false) (tVar 5) (tLst (tCons (tC (.str "set")) (tCons (tC (.str "tell")) (tCons (tC (.str "skip")) (tCons (tC (.str "if")) (tCons (tC (.str "else")) (tCons (tC (.str "while")) (tCons (tC (.str "end")) tNil)))))))))) (tRet (tOp (rAdd K) (tVar 5) (tC (.str "0")))) tNext) (tRet (tVar 5)))))
        { nx := fun _ H' => Q .non H', rt := Q } [some (.str x), some (.int n), some (.str z), some (.int a), none, none] H := by
    intro z m hz
    obtain ⟨k1, k2, k3⟩ := key z m hz H rfl
    have mp : 0 < m := by rcases hz with ⟨_, rfl⟩ | ⟨_, rfl, _⟩ <;> decide
    have m1 : 1 < m := by rcases hz with ⟨_, rfl⟩ | ⟨_, rfl, _⟩ <;> decide
    walk_at "go"
    refine w_ixS (len_le l8 (by decide)) hc0 ?_
    walk_at "go"
    rw [k1]
    walk_at "go"
    generalize hst : (Txt.find z ⟨#[c0]⟩ + 1 + n / 8 % (m - 1)) % m = st
    have ms := mod_in (Txt.find z ⟨#[c0]⟩ + 1 + n / 8 % (m - 1)) mp
    rw [hst] at ms
    obtain ⟨c, hc, sc, lc⟩ := k3 st ms.1 ms.2
    refine w_ixS k2 hc ?_
    obtain ⟨j, hj⟩ := Int.eq_ofNat_of_zero_le ma.1
    have hjl : j < (cs x).length := by omega
    have sw := Nw.swap (c := c) hx.nw' hjl sc (fun z => lc (by omega))
    have e0 : (cs (Txt.slice x none (some a))).length ≤ 8 := by rw [cs_slTo ma.1, List.length_take]; omega
    have e1 : (cs (Txt.slice x (some (a + 1)) none)).length ≤ 8 := by rw [cs_slFrom (by omega), List.length_drop]; omega
    refine w_addT (sz (by rw [cs_len, cs_len, cs_one, List.length_singleton]; omega)) ?_
    walk_at "go"
    subst hj
    refine w_addT (sz (by rw [cs_len, cs_len, cs_app, List.length_append, cs_one, List.length_singleton]; omega)) ?_
    walk_at "go"
    walk_at "new"
    refine w_inTxt (xs := words) (SqL.of upd_same) ?_
    walk_at "go"
    refine w_two (fun e => ?_) (fun e => ?_)
    · walk_at "go"
      refine w_addT (sz (by have := sw.most; have : (cs ("0" : Str)).length = 1 := by decide +kernel
                            rw [cs_len, cs_len]; omega)) ?_
      exact q _ _ (sw.zero (of_decide_eq_true e)) (by walk_at "sm")
    · walk_at "go"
      exact q _ _ (sw.nm (of_decide_eq_false e)) (by walk_at "sm")
  refine w_two (fun e => ?_) (fun e => ?_)
  · have e := of_decide_eq_true e
    walk_at "go"
    refine w_addT (sz (by decide +kernel)) ?_
    exact rest _ 36 (.inr ⟨rfl, rfl, e⟩)
  · refine w_next ?_
    exact rest az 26 (.inl ⟨rfl, rfl⟩)
abbrev tNmW (K : PySem.W.Frag) : TS := (tWhile (tOr (tTest (tOp (rIn2 K false) (tVar 4) (tVar 2))) (tTest (tOp (rIn2 K false) (tVar 4) (tLst (tCons (tC (.str "set")) (tCons (tC (.str "tell")) (tCons (tC (.str "skip")) (tCons (tC (.str "if")) (tCons (tC (.str "else")) (tCons (tC (.str "while")) (tCons (tC (.str "end")) tNil))))))))))) (tSeq (tAsg (tOp (rAdd K) (tSl (rSl K) (tVar 4) tNoPart (tPart (tC (.int 7)))) (tOp (rIx K) (tC (.str "abcdefghijklmnopqrstuvwxyz")) (tOp rMod (tOp (rAdd K) (tOp (rAdd K) (tVar 1) (tCB (rLenA K) (tCons (tVar 4) tNil))) (tVar 3)) (tC (.int 26))))) (gName 4)) (tAsg (tOp (rAdd K) (tVar 1) (tC (.int 5))) (gName 1))))
abbrev tNmB (K : PySem.W.Frag) : TS := (tSeq (tAsg (tOp (rAdd K) (tSl (rSl K) (tVar 4) tNoPart (tPart (tC (.int 7)))) (tOp (rIx K) (tC (.str "abcdefghijklmnopqrstuvwxyz")) (tOp rMod (tOp (rAdd K) (tOp (rAdd K) (tVar 1) (tCB (rLenA K) (tCons (tVar 4) tNil))) (tVar 3)) (tC (.int 26))))) (gName 4)) (tAsg (tOp (rAdd K) (tVar 1) (tC (.int 5))) (gName 1)))
abbrev tNmA (K : PySem.W.Frag) : TS := (tDrop (tBM K "list" rAppend (tVar 2) (tCons (tVar 4) tNil)))
def PN (H : Hp) (p : Addr) (i : Nat) : L2.St → Hp → Prop := fun σ H' => Same H H' ∧ ∃ (a b : Int) (ns : List Str) (v w : Option V), σ = [some (.int a), some (.int b), some (.ref p), v, w] ∧ ns.length = i ∧ ns.Nodup ∧ (∀ x ∈ ns, Nm x) ∧ H' p = some (.lst (ns.map V.str))
abbrev DN (H : Hp) (Q : VK) (p : Addr) (i : Nat) : Ends := ⟨PN H p (i + 1), Q, tRet (tVar 2) { nx := fun _ H' => Q .non H', rt := Q }, PN H p (i + 1)⟩
theorem pure_law_names (K : PySem.W.Frag) (vs : List V) (H : Hp) (Q : VK) (E : XK) (h : sp_law_names K vs H Q E) :
    t_law_names K { nx := fun _ H' => Q .non H', rt := Q } (start N_law_names vs) H := by
  obtain ⟨n, m, rfl, q⟩ := h
  unfold t_law_names
  walk_at "go"
  refine w_new (by decide) (fun p hp => ?_)
  walk_at "go"
  refine ⟨_, rfl, by decide, by decide, for_range (lo := 0) (n := 10) (PN H p)
    ⟨by walk_at "sm", _, _, [], _, _, rfl, rfl, List.nodup_nil, (fun x hx => nomatch hx), upd_same⟩ ?_ ?_⟩
  · rintro i σ H1 hi ⟨e1, a, b, ns, v, w, rfl, hl, hd, hN, hL⟩
    show tSeq _ _ _ _ _
    walk_at "go"
    refine ⟨_, rfl, fun r _ _ => ?_⟩
    walk_at "go"
    refine ⟨_, rfl, fun x H2 hx e2 => ?_⟩
    have hL2 := e2 _ _ hL
    walk_at "go"
    -- the twin or not
    have two : ∀ (x : Str) (H2 : Hp), Nm x → Same H1 H2 → tSeq (tNmW K) (tNmA K) (DN H Q p i) [some (.int r), some (.int b), some (.ref p), some (.int (0 + (i : Int))), some (.str x)] H2 := by
      intro x H2 hx e2
      obtain ⟨m0, hm0⟩ := cand_ends x b (0 + (i : Int)) hx.most (ns ++ words) (by rw [List.length_append]; have : words.length = 7 := rfl; omega)
      walk_at "go"
      refine w_while' (fun m σ' H' => Same H1 H' ∧ ∃ (o : Int) (y : Str), σ' = [some (.int r), some (.int o), some (.ref p), some (.int (0 + (i : Int))), some (.str y)] ∧ Nw y 8 ∧ cand y o (0 + (i : Int)) m ∉ ns ++ words) m0 ⟨e2, _, _, rfl, hx.nw', hm0⟩ ?_
      rintro m σ' H' ⟨e3, o, y, rfl, hy, hm⟩
      have hL3 := e3 _ _ hL
      have body : ∀ H4, Same H1 H4 → y ∈ ns ++ words → ∃ N : L2.St → Hp → Prop, (∀ σ2 H2, N σ2 H2 → ∃ m', m' < m ∧ Same H1 H2 ∧ ∃ (o : Int) (y : Str), σ2 = [some (.int r), some (.int o), some (.ref p), some (.int (0 + (i : Int))), some (.str y)] ∧ Nw y 8 ∧ cand y o (0 + (i : Int)) m' ∉ ns ++ words) ∧
          tNmB K ⟨N, Q, tNmA K (DN H Q p i), N⟩
            [some (.int r), some (.int o), some (.ref p), some (.int (0 + (i : Int))), some (.str y)] H4 := by
        intro H4 e4 hin
        cases m with
        | zero => exact absurd hin hm
        | succ m =>
          refine ⟨_, fun σ2 H2 h => h, ?_⟩
          have m26 := mod_in (o + ((y.length : Nat) : Int) + (0 + (i : Int))) (show (0 : Int) < 26 by decide)
          have hy8 := hy.most
          walk_at "go"
          refine w_ixS (sz (by decide +kernel)) (az_at m26.1 m26.2) ?_
          have e0 : (cs (Txt.slice y none (some 7))).length ≤ 8 := by rw [cs_slTo (by decide), List.length_take]; omega
          refine w_addT (sz (by rw [cs_len, cs_len, cs_one, List.length_singleton]; omega)) ?_
          walk_at "go"
          exact ⟨m, Nat.lt_succ_self _, e4, _, _, rfl, hy.cut ⟨by omega, by omega⟩, by rw [cand_succ] at hm; exact hm⟩
      walk_at "go"
      refine w_inTxt (SqL.of hL3) ?_
      walk_at "go"
      refine w_two (fun e => ?_) (fun e => ?_)
      · walk_at "go"
        exact body H' e3 (List.mem_append_left _ (of_decide_eq_true e))
      · have n1 := of_decide_eq_false e
        walk_at "go"
        refine w_new (by decide) (fun r2 hr2 => ?_)
        refine w_inTxt (xs := words) (SqL.of upd_same) ?_
        walk_at "go"
        refine w_two (fun e => ?_) (fun e => ?_)
        · exact body _ (by walk_at "sm") (List.mem_append_right _ (of_decide_eq_true e))
        · have n2 := of_decide_eq_false e
          have nm := hy.nm n2
          have ne : p ≠ r2 := ne_of_none hL3 hr2
          walk_at "go"
          refine w_app (xs := ns.map V.str) (by rw [upd_ne ne]; exact hL3) (Nat.lt_of_le_of_lt (by rw [List.length_map]; omega : _ ≤ 1000) (by decide)) ?_
          refine ⟨same_mut (e1.trans (e3.trans (same_new hr2))) hp, r, o, ns ++ [y], _, _, rfl, by rw [List.length_append, hl] <;> rfl, ?_, ?_, ?_⟩
          · rw [List.nodup_append]
            exact ⟨hd, (List.nodup_cons.mpr ⟨List.not_mem_nil, List.nodup_nil⟩), fun u hu w hw => by rw [List.mem_singleton.mp hw]; exact fun e => n1 (e ▸ hu)⟩
          · intro u hu
            rcases List.mem_append.mp hu with hu | hu
            · exact hN u hu
            · rw [List.mem_singleton.mp hu]; exact nm
          · rw [upd_same, List.map_append] <;> rfl
    refine w_two (fun e => ?_) (fun e => ?_)
    · walk_at "go"
      refine w_two (fun e' => ?_) (fun e' => ?_)
      · have e := of_decide_eq_true e
        have ip : 0 < i := by omega
        obtain ⟨y, ym, _, hy⟩ := at_map (f := V.str) (xs := ns) (k := 0 + (i : Int) - 1) (by omega) (by omega)
        walk_at "go"
        refine w_ixL (SqL.of hL2) hy ?_
        walk_at "go"
        refine ⟨_, rfl, fun r' _ _ => ?_⟩
        refine ⟨_, _, rfl, hN y ym, fun x' H3 hx' e3 => ?_⟩
        exact two x' H3 hx' (e2.trans e3)
      · walk_at "go"
        exact two x H2 hx e2
    · walk_at "go"
      exact two x H2 hx e2
  · rintro σ H1 ⟨e1, a, b, ns, v, w, rfl, hl, hd, hN, hL⟩
    walk_at "go"
    exact q p H1 ns ⟨hl, hd, hN⟩ e1 hp hL
theorem ok_txt {x : Str} (h : Nm x) : PyData.strOk x = true := by
  unfold PyData.strOk
  rw [← Array.all_toList, List.all_eq_true]
  intro c hc
  have := h.all c hc
  unfold IsSgn at this
  exact decide_eq_true (by omega)
theorem shaped_txts {xs : List Str} (h : ∀ x ∈ xs, PyData.strOk x = true) : SeqAt.shaped (.list (xs.map PyData.str)) = true := by
  have c : ∀ xs : List Str, (∀ x ∈ xs, PyData.strOk x = true) → PyData.canLayAll0 (xs.map PyData.str) = true := by
    intro xs
    induction xs with
    | nil => intro _; rfl
    | cons x r ih =>
      intro h
      show (PyData.strOk x && PyData.canLayAll0 (r.map PyData.str)) = true
      rw [h x List.mem_cons_self, ih fun y hy => h y (List.mem_cons_of_mem _ hy)] <;> rfl
  have d : ∀ xs : List Str, PyData.depthAll (xs.map PyData.str) = 0 := by
    intro xs
    induction xs with
    | nil => rfl
    | cons x r ih =>
      show max 0 (PyData.depthAll (r.map PyData.str)) = 0
      rw [ih] <;> rfl
  unfold SeqAt.shaped
  rw [Bool.and_eq_true]
  refine ⟨c xs h, decide_eq_true ?_⟩
  show PyData.depthAll (xs.map PyData.str) + 1 ≤ 64
  rw [d] <;> decide
theorem dp_txts {K : PySem.W.Frag} {H : Hp} : ∀ (xs : List Str), DpAll K H (xs.map V.str) (xs.map PyData.str)
  | [] => .nil
  | x :: r => .cons (.str x) (dp_txts r)
theorem eqv_txts : ∀ xs ys : List Str, PyData.eqvAll (xs.map .str) (ys.map .str) = decide (xs = ys)
  | [], [] => rfl
  | [], _ :: _ => rfl
  | _ :: _, [] => rfl
  | x :: r, y :: t => by
    show ((x == y) && PyData.eqvAll (r.map .str) (t.map .str)) = _
    rw [eqv_txts r t]
    by_cases e : x = y
    · subst e; by_cases e2 : r = t <;> simp [e2]
    · simp [e]
theorem w_eqTxt {K : PySem.W.Frag} {H : Hp} {Q : VK} {a b : Addr} {xs ys : List Str} (ha : SqL K H a (xs.map V.str)) (hb : SqL K H b (ys.map V.str)) (ox : ∀ x ∈ xs, PyData.strOk x = true) (oy : ∀ x ∈ ys, PyData.strOk x = true) (q : Q (.bl (decide (xs = ys))) H) : rEq2 K (.ref a) (.ref b) H Q :=
  w_eqD (.lst ha (dp_txts xs)) (.lst hb (dp_txts ys)) (shaped_txts ox) (shaped_txts oy) (by rw [show PyData.eqv (.list (xs.map .str)) (.list (ys.map .str)) = _ from eqv_txts xs ys]; exact q)
theorem w_neTxt {K : PySem.W.Frag} {H : Hp} {Q : VK} {a b : Addr} {xs ys : List Str} (ha : SqL K H a (xs.map V.str)) (hb : SqL K H b (ys.map V.str)) (ox : ∀ x ∈ xs, PyData.strOk x = true) (oy : ∀ x ∈ ys, PyData.strOk x = true) (q : Q (.bl (!decide (xs = ys))) H) : rNe2 K (.ref a) (.ref b) H Q :=
  w_neD (.lst ha (dp_txts xs)) (.lst hb (dp_txts ys)) (shaped_txts ox) (shaped_txts oy) (by rw [show PyData.eqv (.list (xs.map .str)) (.list (ys.map .str)) = _ from eqv_txts xs ys]; exact q)
theorem pure_law_end_by (K : PySem.W.Frag) (vs : List V) (H : Hp) (Q : VK) (E : XK) (h : sp_law_end_by K vs H Q E) :
    t_law_end_by K { nx := fun _ H' => Q .non H', rt := Q } (start N_law_end_by vs) H := by
  obtain ⟨n, a, ns, rfl, hS, hN, hl, q⟩ := h
  unfold t_law_end_by
  have m3 := mod_in n (show (0 : Int) < 3 by decide)
  have num : ∀ (H1 : Hp) (i : Int), Same H H1 → 0 ≤ i → i < 1000000 → [V.str "number", V.int i].length ≤ sizeLine ∧ ∀ p, H1 p = none → Q (.ref p) (upd H1 p (.tup [.str "number", .int i])) := fun H1 i e h0 h1 =>
    ⟨by walk_at "sz", fun p hp => q _ _ (.num i) (.num (SqT.of upd_same)) (e.trans (same_new hp)) ⟨h0, h1⟩ rfl⟩
  have rest : ∀ H1, Same H H1 → (tSeq (tIfS (tTest (tOp (rEq2 K) (tOp rMod (tOp rDiv (tVar 0) (tC (.int 3))) (tC (.int 4))) (tC (.int 0)))) (tRet (tTup (tCons (tC (.str "number")) (tCons (tOp rMod (tOp rDiv (tVar 0) (tC (.int 12))) (tOp rPow (tC (.int 10)) (tC (.int 6)))) tNil)))) tNext) (tRet (tTup (tCons (tC (.str "number")) (tCons (tOp rMod (tOp rDiv (tVar 0) (tC (.int 12))) (tC (.int 5))) tNil)))))
      { nx := fun _ H' => Q .non H', rt := Q } (start N_law_end_by [.int n, .ref a]) H1 := by
    intro H1 e
    walk_at "go"
    refine w_two (fun _ => ?_) (fun _ => ?_)
    · walk_at "go"
      refine w_pow ⟨by decide, by decide, by decide⟩ ?_
      refine w_mod (by decide) ?_
      walk_at "go"
      have m := mod_in (n / 12) (show (0 : Int) < 10 ^ (6 : Int).toNat by decide)
      exact num H1 _ e m.1 (Int.lt_of_lt_of_le m.2 (by decide))
    · walk_at "go"
      have m := mod_in (n / 12) (show (0 : Int) < 5 by decide)
      exact num H1 _ e m.1 (by omega)
  walk_at "go"
  refine w_new (by walk_at "sz") (fun p hp => ?_)
  refine w_neTxt (xs := ns) (ys := []) (same_l (same_new hp) hS) (SqL.of upd_same) (fun x hx => ok_txt (hN x hx)) (fun x hx => nomatch hx) ?_
  walk_at "go"
  refine w_two (fun e1 => ?_) (fun e1 => ?_)
  · walk_at "go"
    refine w_two (fun e2 => ?_) (fun e2 => ?_)
    · have ne : ns ≠ [] := by simpa using e1
      have pos : 0 < ns.length := List.length_pos_iff.mpr ne
      walk_at "go"
      rw [List.length_map]
      refine w_mod (by omega) ?_
      have m := mod_in (n / 3) (show (0 : Int) < ((ns.length : Nat) : Int) by omega)
      obtain ⟨x, xm, _, hx⟩ := at_map (f := V.str) (xs := ns) m.1 m.2
      refine w_ixL (same_l (same_new hp) hS) hx ?_
      walk_at "go"
      exact ⟨by walk_at "sz", fun r hr => q _ _ (.nam x) (.nam (SqT.of upd_same)) ((same_new hp).trans (same_new hr)) xm rfl⟩
    · walk_at "gn"
      exact rest _ (same_new hp)
  · walk_at "gn"
    exact rest _ (same_new hp)
theorem sg_div (s : Sg) : decide (s.txt = ("/" : Str)) = decide (s = .div) := by cases s <;> decide +kernel
theorem no_law_formula_by {K : PySem.W.Frag} : ∀ vs H Q E, ¬ sp_law_formula_by K 0 vs H Q E := by
  rintro vs H Q E ⟨i, a, b, ns, ms, d, l, _, _, _, _, _, _, _, h1, h2, _⟩
  omega
theorem pure_law_formula_by (K : PySem.W.Frag) (n : Nat) (vs : List V) (H : Hp) (Q : VK) (E : XK) (h : sp_law_formula_by K (n + 1) vs H Q E) :
    t_law_formula_by K n { nx := fun _ H' => Q .non H', rt := Q } (start N_law_formula_by vs) H := by
  obtain ⟨i, a, b, ns, ms, d, l, rfl, hS, hT, hN, hM, hl, hm, h1, h2, q⟩ := h
  unfold t_law_formula_by
  walk_at "go"
  refine ⟨_, rfl, fun r r0 r1 => ?_⟩
  have endby : ∀ H1, Same H H1 → sp_law_end_by K [.int (r / 8), .ref a] H1 Q E0 := by
    intro H1 e
    exact ⟨_, _, ns, rfl, same_l e hS, hN, hl, fun v H' f hf e' ho hd => q v H' f hf (e.trans e') (Fm.ok_mono (fun x hx => List.mem_append_left _ hx) ho) (by omega)⟩
  walk_at "go"
  refine w_two (fun e1 => ?_) (fun e1 => ?_)
  · walk_at "go"
    exact endby H (Same.refl H)
  · walk_at "go"
    refine w_two (fun e2 => ?_) (fun e2 => ?_)
    · walk_at "go"
      exact endby H (Same.refl H)
    · have e1 := of_decide_eq_false e1
      walk_at "go"
      refine w_new (by walk_at "sz") (fun p hp => ?_)
      walk_at "go"
      refine w_new (by walk_at "sz") (fun p2 hp2 => ?_)
      walk_at "go"
      have hd2 : atI [V.int 8, V.int 10] (if d then 1 else 0) = some (.int (if d then 10 else 8)) := by cases d <;> rfl
      refine w_ixL (SqL.of upd_same) hd2 ?_
      have m := mod_in (r / 8) (show (0 : Int) < (if d then 10 else 8) by cases d <;> decide)
      refine w_mod (by cases d <;> decide) ?_
      have m10 : r / 8 % (if d then 10 else 8) < 10 := by
        cases d
        · exact Int.lt_trans m.2 (by decide)
        · exact m.2
      generalize hx : r / 8 % (if d then 10 else 8) = x at m m10 ⊢
      have np : p ≠ p2 := ne_of_none upd_same hp2
      obtain ⟨z, zm, _, hz⟩ := at_map (f := fun s : Sg => V.str s.txt) (xs := [.add, .sub, .mul, .lt, .eq, .add, .sub, .lt, .div, .div]) (k := x) m.1 m10
      refine w_ixL (SqL.of ((upd_ne np).trans upd_same)) hz ?_
      have e0 : Same H (upd (upd H p (.lst [.str "+", .str "-", .str "*", .str "<", .str "=", .str "+", .str "-", .str "<", .str "/", .str "/"])) p2 (.lst [.int 8, .int 10])) := (same_new hp).trans (same_new hp2)
      generalize (upd (upd H p (.lst [.str "+", .str "-", .str "*", .str "<", .str "=", .str "+", .str "-", .str "<", .str "/", .str "/"])) p2 (.lst [.int 8, .int 10])) = H0 at e0 ⊢
      walk_at "go"
      refine w_mulI (.inr ⟨by decide, by decide⟩) ?_
      walk_at "go"
      refine ⟨_, a, b, ns, ms, d, _, rfl, same_l e0 hS, same_l e0 hT, hN, hM, hl, hm, by omega, by omega, fun u H1 f hf e3 of df => ?_⟩
      walk_at "go"
      rw [sg_div]
      have last : ∀ (H2 : Hp) (w : V) (g : Fm), Same H1 H2 → FmAt K H2 w g → g.ok (ns ++ ms) → (g.depth : Int) ≤ l - 1 → [V.str z.txt, u, w].length ≤ sizeLine ∧ ∀ p, H2 p = none → Q (.ref p) (upd H2 p (.tup [.str z.txt, u, w])) := fun H2 w g e4 hg og dg =>
        ⟨by walk_at "sz", fun p hp => q _ _ (.op z f g) (.op (SqT.of upd_same) (hf.mono (e4.trans (same_new hp))) (hg.mono (same_new hp))) (((e0.trans e3).trans e4).trans (same_new hp)) ⟨of, og⟩ (by simp only [Fm.depth]; omega)⟩
      have again : ∀ c : Addr, (c = a ∨ c = b) → ∀ i' : Int, sp_law_formula_by K n [.int i', .ref c, .ref b, .bl d, .int (l - 1)] H1 (fun w H2 => [V.str z.txt, u, w].length ≤ sizeLine ∧ ∀ p, H2 p = none → Q (.ref p) (upd H2 p (.tup [.str z.txt, u, w]))) E0 := by
        rintro c (rfl | rfl) i'
        · exact ⟨_, c, b, ns, ms, d, _, rfl, same_l (e0.trans e3) hS, same_l (e0.trans e3) hT, hN, hM, hl, hm, by omega, by omega, fun w H2 g hg e4 og dg => last H2 w g e4 hg og dg⟩
        · exact ⟨_, c, c, ms, ms, d, _, rfl, same_l (e0.trans e3) hT, same_l (e0.trans e3) hT, hM, hM, hm, hm, by omega, by omega, fun w H2 g hg e4 og dg => last H2 w g e4 hg (Fm.ok_mono (fun x hx => List.mem_append_right _ (by simpa using hx)) og) dg⟩
      have tail : (tSeq (tIfS (tTest (tOp (rEq2 K) (tVar 5) (tC (.str "/")))) (tRet (tTup (tCons (tVar 5) (tCons (tVar 6) (tCons (tF (sp_law_formula_by K n) (tCons (tOp (rAdd K) (tOp rMul (tVar 0) (tC (.int 5))) (tC (.int 2))) (tCons (tVar 2) (tCons (tVar 2) (tCons (tVar 3) (tCons (tOp rSub (tVar 4) (tC (.int 1))) tNil)))))) tNil))))) tNext) (tRet (tTup (tCons (tVar 5) (tCons (tVar 6) (tCons (tF (sp_law_formula_by K n) (tCons (tOp (rAdd K) (tOp rMul (tVar 0) (tC (.int 5))) (tC (.int 2))) (tCons (tVar 1) (tCons (tVar 2) (tCons (tVar 3) (tCons (tOp rSub (tVar 4) (tC (.int 1))) tNil)))))) tNil))))))
          { nx := fun _ H' => Q .non H', rt := Q } [some (.int r), some (.ref a), some (.ref b), some (.bl d), some (.int l), some (.str z.txt), some u] H1 := by
        walk_at "go"
        rw [sg_div]
        refine w_two (fun _ => ?_) (fun _ => ?_)
        · walk_at "go"
          refine w_mulI (.inr ⟨by decide, by decide⟩) ?_
          walk_at "go"
          exact again b (.inr rfl) _
        · walk_at "go"
          refine w_mulI (.inr ⟨by decide, by decide⟩) ?_
          walk_at "go"
          exact again a (.inl rfl) _
      refine w_two (fun e4 => ?_) (fun e4 => ?_)
      · walk_at "go"
        refine w_two (fun e5 => ?_) (fun e5 => ?_)
        · walk_at "go"
          refine w_new (by walk_at "sz") (fun p3 hp3 => ?_)
          walk_at "go"
          have m9 := mod_in (r / 320) (show (0 : Int) < 9 by decide)
          exact last _ _ (.num _) (same_new hp3) (.num (SqT.of upd_same)) ⟨by omega, by omega⟩ (by simp only [Fm.depth]; omega)
        · walk_at "gn"
          exact tail
      · walk_at "gn"
        exact tail
mutual
theorem eqv_self : ∀ d : PyData, d.canLay0 = true → PyData.eqv d d = true
  | .none, _ => rfl
  | .bool b, _ => by show (b == b) = true; simp
  | .int i, _ => by show (i == i) = true; simp
  | .str x, _ => by show (x == x) = true; simp
  | .list xs, h => eqvAll_self xs h
  | .tuple xs, h => eqvAll_self xs h
  | .dict _, h => nomatch h
theorem eqvAll_self : ∀ xs : List PyData, PyData.canLayAll0 xs = true → PyData.eqvAll xs xs = true
  | [], _ => rfl
  | x :: r, h => by
    have h' := Bool.and_eq_true_iff.mp (show (x.canLay0 && PyData.canLayAll0 r) = true from h)
    show (PyData.eqv x x && PyData.eqvAll r r) = true
    rw [eqv_self x h'.1, eqvAll_self r h'.2] <;> rfl
end
structure Dk (d : PyData) (k : Nat) : Prop where
  lay : d.canLay0 = true
  dep : d.depth ≤ k
theorem Dk.shaped {d : PyData} {k : Nat} (h : Dk d k) (hk : k ≤ 64) : SeqAt.shaped d = true := by
  unfold SeqAt.shaped
  rw [h.lay, decide_eq_true (Nat.le_trans h.dep hk)] <;> rfl
theorem Dk.mono {d : PyData} {k j : Nat} (h : Dk d k) (hk : k ≤ j) : Dk d j := ⟨h.lay, Nat.le_trans h.dep hk⟩
theorem Dk.int {i : Int} {k : Nat} : Dk (.int i) k := ⟨rfl, Nat.zero_le _⟩
theorem Dk.bl {i : Bool} {k : Nat} : Dk (.bool i) k := ⟨rfl, Nat.zero_le _⟩
theorem Dk.non {k : Nat} : Dk .none k := ⟨rfl, Nat.zero_le _⟩
theorem Dk.str {x : Str} {k : Nat} (h : PyData.strOk x = true) : Dk (.str x) k := ⟨h, Nat.zero_le _⟩
theorem dk_all {k : Nat} : ∀ {ds : List PyData}, (∀ d ∈ ds, Dk d k) → PyData.canLayAll0 ds = true ∧ PyData.depthAll ds ≤ k
  | [], _ => ⟨rfl, Nat.zero_le _⟩
  | d :: r, h => by
    have h1 := h d List.mem_cons_self
    have h2 := dk_all fun y hy => h y (List.mem_cons_of_mem d hy)
    constructor
    · show (d.canLay0 && PyData.canLayAll0 r) = true
      rw [h1.lay, h2.1] <;> rfl
    · show max d.depth (PyData.depthAll r) ≤ k
      exact Nat.max_le.mpr ⟨h1.dep, h2.2⟩
theorem Dk.list {ds : List PyData} {k : Nat} (h : ∀ d ∈ ds, Dk d k) : Dk (.list ds) (k + 1) := ⟨(dk_all h).1, Nat.succ_le_succ (dk_all h).2⟩
theorem Dk.tup {ds : List PyData} {k : Nat} (h : ∀ d ∈ ds, Dk d k) : Dk (.tuple ds) (k + 1) := ⟨(dk_all h).1, Nat.succ_le_succ (dk_all h).2⟩
theorem dk_nil {k : Nat} : ∀ d ∈ ([] : List PyData), Dk d k := fun _ h => nomatch h
theorem dk_cons {k : Nat} {x : PyData} {ds : List PyData} (a : Dk x k) (b : ∀ d ∈ ds, Dk d k) : ∀ d ∈ x :: ds, Dk d k := fun d h => (List.mem_cons.mp h).elim (fun e => e ▸ a) (b d)
section
variable {K : PySem.W.Frag} {H : Hp} {Q : VK} {x y : V} {d : PyData}
theorem w_neSelf {k : Nat} (hx : Dp K H x d) (hy : Dp K H y d) (hd : Dk d k) (hk : k ≤ 64) (q : Q (.bl false) H) : rNe2 K x y H Q := w_neD hx hy (hd.shaped hk) (hd.shaped hk) (by rw [eqv_self d hd.lay]; exact q)
theorem tyx_list {a : Addr} {xs : List V} (h : H a = some (.lst xs)) : TyX K H (.ref a) (.type "list") := .base (.lst h)
theorem w_isi {t c : String} (h : TyX K H x (.type t)) (e : PySem.W.kitOne K (.type t) (.type c) = some true) (q : Q (.bl true) H) : rIsi2 K [x, .ty c] H Q := .inl ⟨_, _, _, _, _, rfl, .ty _, h, e, q⟩
theorem w_isiNo {t c : String} (h : TyX K H x (.type t)) (e : PySem.W.kitOne K (.type t) (.type c) = some false) (q : Q (.bl false) H) : rIsi2 K [x, .ty c] H Q := .inl ⟨_, _, _, _, _, rfl, .ty _, h, e, q⟩
theorem w_listL {p : Addr} {xs : List V} (h : SqL K H p xs) (q : ∀ l, H l = none → Q (.ref l) (upd H l (.lst xs))) : rList K [.ref p] H Q := .inl ⟨p, xs, rfl, .inl h, q⟩
end
theorem none_of {H H' : Hp} {a : Addr} (e : Same H H') (h : H' a = none) : H a = none := by
  cases c : H a with
  | none => rfl
  | some u => rw [e a u c] at h; exact nomatch h
theorem w_lc {wi : TI} {g : TG} {tt : TT} {te : TE} {vs : List Nat} {σ : L2.St} {H : Hp} {Q : VK} (h : wi σ H fun J H1 => ∀ D, H1 D = none → ∃ W : Nat → Nat → Hp → Prop, (∃ m, W 0 m (upd H1 D (.lst []))) ∧ ∀ i m H, W i m H →
  (J.stop i H ∧ Q (.ref D) H) ∨ (J.go i H ∧ ∃ Nx : Hp → Prop, (∀ H', Nx H' → ∃ m', m' < m ∧ W (i + 1) m' H') ∧ ∀ x H', J.yld i H x H' → g x (wipe σ vs) H' fun σ2 H2 => wipe σ2 vs = wipe σ vs ∧ tt σ2 H2 fun b H3 =>
    if b = true then te σ2 H3 fun y H4 => ∃ acc, H4 D = some (.lst acc) ∧ acc.length < sizeLine ∧ Nx (upd H4 D (.lst (acc ++ [y]))) else Nx H3)) : tLc wi g tt te vs σ H Q := h
def SameX (D : Addr) (H H' : Hp) : Prop := ∀ a u, a ≠ D → H a = some u → H' a = some u
theorem list_one {α : Type} : ∀ {l : List α}, l.length = 1 → ∃ a, l = [a]
  | [a], _ => ⟨a, rfl⟩
theorem for_enum {K : PySem.W.Frag} {a : Addr} {xs : List V} {g : TG} {tb : TS} {D : Ends} {σ : L2.St} {H : Hp} (Pv : Nat → L2.St → Hp → Prop) (h0 : Pv 0 σ H) (hl : ∀ i σ H, i ≤ xs.length → Pv i σ H → SqL K H a xs)
    (hs : ∀ i x σ H T, xs[i]? = some x → H T = none → Pv i σ H → g (.ref T) σ (upd H T (.tup [.int (i : Nat), x])) fun σ2 H2 => tb { D with nx := Pv (i + 1), ct := Pv (i + 1), bk := D.nx } σ2 H2) (hd : ∀ σ H, Pv xs.length σ H → D.nx σ H) :
    ∃ W : Nat → Nat → L2.St → Hp → Prop, (∃ m, W 0 m σ H) ∧ ∀ i m σ H, W i m σ H →
      ((Ite K a).stop i H ∧ D.nx σ H) ∨ ((Ite K a).go i H ∧ ∃ N : L2.St → Hp → Prop, (∀ σ' H', N σ' H' → ∃ m', m' < m ∧ W (i + 1) m' σ' H') ∧ ∀ x H', (Ite K a).yld i H x H' → g x σ H' fun σ2 H2 => tb { D with nx := N, ct := N, bk := D.nx } σ2 H2) := by
  refine ⟨fun i m σ H => m = xs.length - i ∧ i ≤ xs.length ∧ Pv i σ H, ⟨xs.length, by simp, Nat.zero_le _, h0⟩, ?_⟩
  rintro i m σ H ⟨rfl, hi, p⟩
  have q := hl i σ H hi p
  by_cases hlt : i < xs.length
  · refine .inr ⟨⟨xs, xs[i], q, by simp [hlt]⟩, Pv (i + 1), fun σ' H' p' => ⟨xs.length - (i + 1), by omega, rfl, hlt, p'⟩, fun x H' y => ?_⟩
    obtain ⟨T, z, rfl, hT, rfl, hz⟩ := y
    exact hs i z σ _ T (hz xs q) hT p
  · have e : i = xs.length := by omega
    subst e
    exact .inl ⟨⟨xs, q, Nat.le_refl _⟩, hd σ H p⟩
theorem Fm.ok_names {ns : List Str} : ∀ {f : Fm}, f.ok ns → ∀ x ∈ f.names, x ∈ ns
  | .num _, _, x, hx => nomatch hx
  | .nam y, q, x, hx => by rw [List.mem_singleton.mp hx]; exact q
  | .op _ a b, q, x, hx => (List.mem_append.mp hx).elim (Fm.ok_names q.1 x) (Fm.ok_names q.2 x)
theorem Fm.names_small18 {f : Fm} (h : f.depth ≤ 18) : f.names.length ≤ 262144 := Nat.le_trans f.names_len (Nat.pow_le_pow_right (by decide) h)
def Sg.put : Sg → Int → Int → Option Int
  | .add, a, b => some ((a + b) % 1000000)
  | .sub, a, b => some ((a - b) % 1000000)
  | .mul, a, b => some (a * b % 1000000)
  | .lt, a, b => some (if decide (a < b) = true then 1 else 0)
  | .eq, a, b => some (if decide (a = b) = true then 1 else 0)
  | .div, a, b => if b = 0 then none else some (a / b)
def In6 (i : Int) : Prop := 0 ≤ i ∧ i < 1000000
def Fm.reck (g : Str → Int) : Fm → Option Int
  | .num n => some n
  | .nam x => some (g x)
  | .op s a b => match a.reck g, b.reck g with
    | some u, some v => s.put u v
    | _, _ => none
def DAt (H : Hp) (a : Addr) (ns : List Str) (g : Str → Int) : Prop := ∃ kvs : List (Key × V), H a = some (.dK kvs) ∧ ∀ x ∈ ns, valV kvs (.inr x) = some (.int (g x))
theorem DAt.mono {H H' : Hp} {a : Addr} {ns : List Str} {g : Str → Int} (e : Same H H') (h : DAt H a ns g) : DAt H' a ns g := by
  obtain ⟨kvs, h1, h2⟩ := h
  exact ⟨kvs, e a _ h1, h2⟩
inductive Rw where
  | set (x : Str) (f : Fm)
  | tell (f : Fm)
  | skip
  | ite (f : Fm) (a b : List Rw)
  | whl (f : Fm) (a : List Rw)
mutual
def Rw.size : Rw → Nat
  | .set _ _ => 1
  | .tell _ => 1
  | .skip => 1
  | .ite _ a b => 1 + (szs a + szs b)
  | .whl _ a => 1 + szs a
def szs : List Rw → Nat
  | [] => 0
  | r :: l => r.size + szs l
end
mutual
def Rw.nest : Rw → Nat
  | .set _ _ => 1
  | .tell _ => 1
  | .skip => 1
  | .ite _ a b => 1 + max (nests a) (nests b)
  | .whl _ a => 1 + nests a
def nests : List Rw → Nat
  | [] => 0
  | r :: l => max r.nest (nests l)
end
def Fm.fine (ns : List Str) (f : Fm) : Prop := f.ok ns ∧ f.depth ≤ 12
mutual
def Rw.ok (ns : List Str) : Rw → Prop
  | .set x f => x ∈ ns ∧ f.fine ns
  | .tell f => f.fine ns
  | .skip => True
  | .ite f a b => f.fine ns ∧ oks ns a ∧ oks ns b
  | .whl f a => f.fine ns ∧ oks ns a
def oks (ns : List Str) : List Rw → Prop
  | [] => True
  | r :: l => r.ok ns ∧ oks ns l
end
theorem szs_app : ∀ a b : List Rw, szs (a ++ b) = szs a + szs b
  | [], b => by show szs b = 0 + szs b; omega
  | r :: l, b => by
    show r.size + szs (l ++ b) = r.size + szs l + szs b
    rw [szs_app l b]
    omega
theorem nests_app : ∀ a b : List Rw, nests (a ++ b) = max (nests a) (nests b)
  | [], b => by show nests b = max 0 (nests b); omega
  | r :: l, b => by
    show max r.nest (nests (l ++ b)) = max (max r.nest (nests l)) (nests b)
    rw [nests_app l b]
    omega
theorem oks_app {ns : List Str} : ∀ {a b : List Rw}, oks ns a → oks ns b → oks ns (a ++ b)
  | [], _, _, hb => hb
  | _ :: _, _, ha, hb => ⟨ha.1, oks_app ha.2 hb⟩
theorem oks_mem {ns : List Str} : ∀ {a : List Rw}, oks ns a → ∀ r ∈ a, r.ok ns
  | _ :: _, h, r, hr => (List.mem_cons.mp hr).elim (fun e => e ▸ h.1) fun hr => oks_mem h.2 r hr
theorem nest_mem : ∀ {a : List Rw} {r : Rw}, r ∈ a → r.nest ≤ nests a
  | s :: l, r, hr => by
    show r.nest ≤ max s.nest (nests l)
    rcases List.mem_cons.mp hr with e | hr
    · rw [e]; omega
    · have := nest_mem hr; omega
theorem size_pos (r : Rw) : 1 ≤ r.size := by
  cases r <;> simp only [Rw.size] <;> omega
theorem nest_pos (r : Rw) : 1 ≤ r.nest := by
  cases r <;> simp only [Rw.nest] <;> omega
theorem szs_len : ∀ a : List Rw, a.length ≤ szs a
  | [] => Nat.zero_le _
  | r :: l => by
    show l.length + 1 ≤ r.size + szs l
    have := size_pos r
    have := szs_len l
    omega
theorem sz_mem : ∀ {a : List Rw} {r : Rw}, r ∈ a → r.size ≤ szs a
  | s :: l, r, hr => by
    show r.size ≤ s.size + szs l
    rcases List.mem_cons.mp hr with e | hr
    · rw [e]; omega
    · have := sz_mem hr; omega
/-- rows as they stand in a heap; S tells how a row's blocks stand: as tuples, as lists, either -/
abbrev SQ := Hp → Addr → List V → Prop
mutual
inductive RwAt (K : PySem.W.Frag) (S : SQ) (H : Hp) : V → Rw → Prop where
  | set {a : Addr} {x : Str} {u : V} {f : Fm} (h : SqT K H a [.str "set", .str x, u]) (hf : FmAt K H u f) : RwAt K S H (.ref a) (.set x f)
  | tell {a : Addr} {u : V} {f : Fm} (h : SqT K H a [.str "tell", u]) (hf : FmAt K H u f) : RwAt K S H (.ref a) (.tell f)
  | skip {a : Addr} (h : SqT K H a [.str "skip"]) : RwAt K S H (.ref a) .skip
  | ite {a p q : Addr} {u : V} {f : Fm} {xs ys : List V} {b c : List Rw} (h : SqT K H a [.str "if", u, .ref p, .ref q]) (hf : FmAt K H u f) (hp : S H p xs) (hb : BkAt K S H xs b) (hq : S H q ys) (hc : BkAt K S H ys c) : RwAt K S H (.ref a) (.ite f b c)
  | whl {a p : Addr} {u : V} {f : Fm} {xs : List V} {b : List Rw} (h : SqT K H a [.str "while", u, .ref p]) (hf : FmAt K H u f) (hp : S H p xs) (hb : BkAt K S H xs b) : RwAt K S H (.ref a) (.whl f b)
inductive BkAt (K : PySem.W.Frag) (S : SQ) (H : Hp) : List V → List Rw → Prop where
  | nil : BkAt K S H [] []
  | cons {v : V} {vs : List V} {r : Rw} {l : List Rw} (h : RwAt K S H v r) (t : BkAt K S H vs l) : BkAt K S H (v :: vs) (r :: l)
end
/-- what never changes is as it was -/
def Fix : HO → Bool
  | .tup _ => true
  | .frz _ _ => true
  | _ => false
def SameT (H H' : Hp) : Prop := ∀ a o, H a = some o → Fix o = true → H' a = some o
theorem SameT.refl (H : Hp) : SameT H H := fun _ _ h _ => h
theorem SameT.of {H H' : Hp} (e : Same H H') : SameT H H' := fun a o h _ => e a o h
theorem SameT.trans {H H1 H2 : Hp} (a : SameT H H1) (b : SameT H1 H2) : SameT H H2 := fun x o h f => b x o (a x o h f) f
theorem SameT.upd {H : Hp} {p : Addr} {o o' : HO} (h : H p = some o) (f : Fix o = false) : SameT H (upd H p o') := fun a u ha hu => by
  rw [upd_ne (fun e => by rw [e, h] at ha; rw [← Option.some.inj ha, f] at hu; exact nomatch hu)]
  exact ha
theorem sameT_t {K : PySem.W.Frag} {H H' : Hp} {a : Addr} {xs : List V} (e : SameT H H') (h : SqT K H a xs) : SqT K H' a xs := by
  rcases h with (h | ⟨o, h⟩) | h
  · exact .inl (.inl (e a _ h rfl))
  · exact .inl (.inr ⟨o, e a _ h rfl⟩)
  · exact .inr h
theorem FmAt.monoT {K : PySem.W.Frag} {H H' : Hp} (e : SameT H H') {v : V} {f : Fm} (h : FmAt K H v f) : FmAt K H' v f := by
  induction h with
  | num h => exact .num (sameT_t e h)
  | nam h => exact .nam (sameT_t e h)
  | op h _ _ i1 i2 => exact .op (sameT_t e h) i1 i2
mutual
theorem RwAt.go {K : PySem.W.Frag} {S S' : SQ} {H H' : Hp} (e : SameT H H') (s : ∀ a xs, S H a xs → S' H' a xs) : ∀ {v : V} {r : Rw}, RwAt K S H v r → RwAt K S' H' v r
  | _, _, .set h hf => .set (sameT_t e h) (hf.monoT e)
  | _, _, .tell h hf => .tell (sameT_t e h) (hf.monoT e)
  | _, _, .skip h => .skip (sameT_t e h)
  | _, _, .ite h hf hp hb hq hc => .ite (sameT_t e h) (hf.monoT e) (s _ _ hp) (BkAt.go e s hb) (s _ _ hq) (BkAt.go e s hc)
  | _, _, .whl h hf hp hb => .whl (sameT_t e h) (hf.monoT e) (s _ _ hp) (BkAt.go e s hb)
theorem BkAt.go {K : PySem.W.Frag} {S S' : SQ} {H H' : Hp} (e : SameT H H') (s : ∀ a xs, S H a xs → S' H' a xs) : ∀ {vs : List V} {l : List Rw}, BkAt K S H vs l → BkAt K S' H' vs l
  | _, _, .nil => .nil
  | _, _, .cons h t => .cons (RwAt.go e s h) (BkAt.go e s t)
end
theorem BkAt.monoT {K : PySem.W.Frag} {H H' : Hp} (e : SameT H H') {vs : List V} {l : List Rw} (h : BkAt K (SqT K) H vs l) : BkAt K (SqT K) H' vs l := h.go e fun _ _ => sameT_t e
theorem RwAt.monoT {K : PySem.W.Frag} {H H' : Hp} (e : SameT H H') {v : V} {r : Rw} (h : RwAt K (SqT K) H v r) : RwAt K (SqT K) H' v r := h.go e fun _ _ => sameT_t e
theorem BkAt.len {K : PySem.W.Frag} {S : SQ} {H : Hp} : ∀ {vs : List V} {l : List Rw}, BkAt K S H vs l → vs.length = l.length
  | _, _, .nil => rfl
  | _, _, .cons _ t => congrArg (· + 1) t.len
theorem BkAt.app {K : PySem.W.Frag} {S : SQ} {H : Hp} : ∀ {vs : List V} {l : List Rw} {us : List V} {m : List Rw}, BkAt K S H vs l → BkAt K S H us m → BkAt K S H (vs ++ us) (l ++ m)
  | _, _, _, _, .nil, h => h
  | _, _, _, _, .cons a t, h => .cons a (t.app h)
theorem BkAt.one {K : PySem.W.Frag} {S : SQ} {H : Hp} {v : V} {r : Rw} (h : RwAt K S H v r) : BkAt K S H [v] [r] := .cons h .nil
theorem BkAt.get {K : PySem.W.Frag} {S : SQ} {H : Hp} : ∀ {vs : List V} {l : List Rw} {i : Nat} {v : V}, BkAt K S H vs l → vs[i]? = some v → ∃ r, l[i]? = some r ∧ RwAt K S H v r
  | _, _, 0, _, .cons h _, e => ⟨_, rfl, by rw [← Option.some.inj e]; exact h⟩
  | _, _, i + 1, _, .cons _ t, e => t.get (i := i) e
  | _, _, _, _, .nil, e => by simp at e
theorem BkAt.ref {K : PySem.W.Frag} {S : SQ} {H : Hp} {v : V} {r : Rw} (h : RwAt K S H v r) : ∃ a, v = .ref a := by
  cases h <;> exact ⟨_, rfl⟩
def Fm.pd : Fm → PyData
  | .num n => .tuple [.str "number", .int n]
  | .nam x => .tuple [.str "name", .str x]
  | .op s a b => .tuple [.str s.txt, a.pd, b.pd]
theorem FmAt.dp {K : PySem.W.Frag} {H : Hp} {v : V} {f : Fm} (h : FmAt K H v f) : Dp K H v f.pd := by
  induction h with
  | num h => exact .tup h (.cons (.str _) (.cons (.int _) .nil))
  | nam h => exact .tup h (.cons (.str _) (.cons (.str _) .nil))
  | op h _ _ i1 i2 => exact .tup h (.cons (.str _) (.cons i1 (.cons i2 .nil)))
theorem sg_ok (s : Sg) : PyData.strOk s.txt = true := by cases s <;> decide +kernel
theorem num_ok : PyData.strOk ("number" : Str) = true := by decide +kernel
theorem nam_ok : PyData.strOk ("name" : Str) = true := by decide +kernel
theorem Fm.dk {ns : List Str} (hn : ∀ x ∈ ns, Nm x) : ∀ {f : Fm}, f.ok ns → Dk f.pd f.depth
  | .num _, _ => Dk.tup (dk_cons (Dk.str num_ok) (dk_cons Dk.int dk_nil))
  | .nam x, h => Dk.tup (dk_cons (Dk.str nam_ok) (dk_cons (Dk.str (ok_txt (hn x h))) dk_nil))
  | .op s a b, h => Dk.tup (dk_cons (Dk.str (sg_ok s)) (dk_cons ((Fm.dk hn h.1).mono (Nat.le_max_left _ _)) (dk_cons ((Fm.dk hn h.2).mono (Nat.le_max_right _ _)) dk_nil)))
mutual
def Rw.pd (B : List PyData → PyData) : Rw → PyData
  | .set x f => .tuple [.str "set", .str x, f.pd]
  | .tell f => .tuple [.str "tell", f.pd]
  | .skip => .tuple [.str "skip"]
  | .ite f a b => .tuple [.str "if", f.pd, B (pds B a), B (pds B b)]
  | .whl f a => .tuple [.str "while", f.pd, B (pds B a)]
def pds (B : List PyData → PyData) : List Rw → List PyData
  | [] => []
  | r :: l => r.pd B :: pds B l
end
mutual
theorem RwAt.dp {K : PySem.W.Frag} {S : SQ} {H : Hp} {B : List PyData → PyData} (s : ∀ a xs ds, S H a xs → DpAll K H xs ds → Dp K H (.ref a) (B ds)) : ∀ {v : V} {r : Rw}, RwAt K S H v r → Dp K H v (r.pd B)
  | _, _, .set h hf => .tup h (.cons (.str _) (.cons (.str _) (.cons hf.dp .nil)))
  | _, _, .tell h hf => .tup h (.cons (.str _) (.cons hf.dp .nil))
  | _, _, .skip h => .tup h (.cons (.str _) .nil)
  | _, _, .ite h hf hp hb hq hc => .tup h (.cons (.str _) (.cons hf.dp (.cons (s _ _ _ hp (BkAt.dp s hb)) (.cons (s _ _ _ hq (BkAt.dp s hc)) .nil))))
  | _, _, .whl h hf hp hb => .tup h (.cons (.str _) (.cons hf.dp (.cons (s _ _ _ hp (BkAt.dp s hb)) .nil)))
theorem BkAt.dp {K : PySem.W.Frag} {S : SQ} {H : Hp} {B : List PyData → PyData} (s : ∀ a xs ds, S H a xs → DpAll K H xs ds → Dp K H (.ref a) (B ds)) : ∀ {vs : List V} {l : List Rw}, BkAt K S H vs l → DpAll K H vs (pds B l)
  | _, _, .nil => .nil
  | _, _, .cons h t => .cons (RwAt.dp s h) (BkAt.dp s t)
end
theorem set_ok : PyData.strOk ("set" : Str) = true := by decide +kernel
theorem tell_ok : PyData.strOk ("tell" : Str) = true := by decide +kernel
theorem skip_ok : PyData.strOk ("skip" : Str) = true := by decide +kernel
theorem if_ok : PyData.strOk ("if" : Str) = true := by decide +kernel
theorem while_ok : PyData.strOk ("while" : Str) = true := by decide +kernel
mutual
theorem Rw.dk {ns : List Str} (hn : ∀ x ∈ ns, Nm x) {B : List PyData → PyData} (s : ∀ ds k, (∀ d ∈ ds, Dk d k) → Dk (B ds) (k + 1)) : ∀ {r : Rw}, r.ok ns → Dk (r.pd B) (2 * r.nest + 11)
  | .set x f, h => (Dk.tup (k := 12) (dk_cons (Dk.str set_ok) (dk_cons (Dk.str (ok_txt (hn x h.1))) (dk_cons ((Fm.dk hn h.2.1).mono h.2.2) dk_nil)))).mono (Nat.le_refl 13)
  | .tell f, h => (Dk.tup (k := 12) (dk_cons (Dk.str tell_ok) (dk_cons ((Fm.dk hn h.1).mono h.2) dk_nil))).mono (Nat.le_refl 13)
  | .skip, _ => (Dk.tup (k := 12) (dk_cons (Dk.str skip_ok) dk_nil)).mono (Nat.le_refl 13)
  | .ite f a b, h => by
    have e : (Rw.ite f a b).nest = 1 + max (nests a) (nests b) := rfl
    have q1 := s _ _ (pds_dk hn s h.2.1)
    have q2 := s _ _ (pds_dk hn s h.2.2)
    exact (Dk.tup (k := 2 * max (nests a) (nests b) + 12) (dk_cons (Dk.str if_ok) (dk_cons ((Fm.dk hn h.1.1).mono (Nat.le_trans h.1.2 (by omega))) (dk_cons (q1.mono (by omega)) (dk_cons (q2.mono (by omega)) dk_nil))))).mono (by omega)
  | .whl f a, h => by
    have e : (Rw.whl f a).nest = 1 + nests a := rfl
    have q1 := s _ _ (pds_dk hn s h.2)
    exact (Dk.tup (k := 2 * nests a + 12) (dk_cons (Dk.str while_ok) (dk_cons ((Fm.dk hn h.1.1).mono (Nat.le_trans h.1.2 (by omega))) (dk_cons (q1.mono (by omega)) dk_nil)))).mono (by omega)
theorem pds_dk {ns : List Str} (hn : ∀ x ∈ ns, Nm x) {B : List PyData → PyData} (s : ∀ ds k, (∀ d ∈ ds, Dk d k) → Dk (B ds) (k + 1)) : ∀ {l : List Rw}, oks ns l → ∀ d ∈ pds B l, Dk d (2 * nests l + 11)
  | [], _ => dk_nil
  | r :: l, h => by
    have e : nests (r :: l) = max r.nest (nests l) := rfl
    exact dk_cons ((Rw.dk hn s h.1).mono (by omega)) fun d hd => (pds_dk hn s h.2 d hd).mono (by omega)
end
theorem tupB {K : PySem.W.Frag} {H : Hp} : ∀ a xs ds, SqT K H a xs → DpAll K H xs ds → Dp K H (.ref a) (PyData.tuple ds) := fun _ _ _ h t => .tup h t
theorem lstB {K : PySem.W.Frag} {H : Hp} : ∀ a xs ds, SqL K H a xs → DpAll K H xs ds → Dp K H (.ref a) (PyData.list ds) := fun _ _ _ h t => .lst h t
theorem tupD : ∀ (ds : List PyData) k, (∀ d ∈ ds, Dk d k) → Dk (.tuple ds) (k + 1) := fun _ _ h => Dk.tup h
theorem lstD : ∀ (ds : List PyData) k, (∀ d ∈ ds, Dk d k) → Dk (.list ds) (k + 1) := fun _ _ h => Dk.list h
section
variable {K : PySem.W.Frag} {σ : L2.St} {H : Hp} {ta tb : TE} {t u : TT} {Q : VK}
theorem w_andP {c d : Bool} {Q : Bool → Hp → Prop} (h1 : ∀ Q : Bool → Hp → Prop, Q c H → t σ H Q) (h2 : ∀ Q : Bool → Hp → Prop, Q d H → u σ H Q) (q : Q (c && d) H) : tAnd t u σ H Q := by
  refine w_and (h1 _ ?_)
  cases c with
  | true => exact iteT (h2 _ q)
  | false => exact iteF q
end
structure Frm where
  a : Addr
  r : Addr
  kd : Nat
  f : Fm
  rows : List Rw
  sec : Bool
  els : Option (List Rw)
def kdT : Nat → Str
  | 0 => ""
  | 1 => "if"
  | _ => "while"
def elSz : Option (List Rw) → Nat
  | none => 0
  | some b => szs b
def Frm.w (x : Frm) : Nat := szs x.rows + elSz x.els + 2
def Frm.mu (x : Frm) : Nat := if x.kd = 1 ∧ x.els = none then 2 else 1
def ElAt (K : PySem.W.Frag) (H : Hp) (v : V) : Option (List Rw) → Prop
  | none => v = .non
  | some b => ∃ p ys, v = .ref p ∧ SqT K H p ys ∧ BkAt K (SqT K) H ys b
theorem ElAt.monoT {K : PySem.W.Frag} {H H' : Hp} (e : SameT H H') {v : V} : ∀ {o : Option (List Rw)}, ElAt K H v o → ElAt K H' v o
  | none, h => h
  | some _, ⟨p, ys, h1, h2, h3⟩ => ⟨p, ys, h1, sameT_t e h2, h3.monoT e⟩
structure FrIn (K : PySem.W.Frag) (H : Hp) (x : Frm) (vf ve : V) (xs : List V) : Prop where
  ha : H x.a = some (.lst [.str (kdT x.kd), vf, .ref x.r, .bl x.sec, ve])
  hr : H x.r = some (.lst xs)
  hb : BkAt K (SqT K) H xs x.rows
  f0 : x.kd = 0 → vf = .non
  f1 : x.kd ≠ 0 → FmAt K H vf x.f
  he : ElAt K H ve x.els
def FrAt (K : PySem.W.Frag) (H : Hp) (x : Frm) : Prop := ∃ vf ve xs, FrIn K H x vf ve xs
theorem FrIn.moves {K : PySem.W.Frag} {H H' : Hp} {x : Frm} {vf ve : V} {xs : List V} (e : SameT H H') (h : FrIn K H x vf ve xs) (ha : H' x.a = H x.a) (hr : H' x.r = H x.r) : FrIn K H' x vf ve xs :=
  ⟨ha.trans h.ha, hr.trans h.hr, h.hb.monoT e, h.f0, fun c => (h.f1 c).monoT e, h.he.monoT e⟩
theorem FrAt.mono {K : PySem.W.Frag} {H H' : Hp} {x : Frm} (e : Same H H') (h : FrAt K H x) : FrAt K H' x := by
  obtain ⟨vf, ve, xs, h⟩ := h
  exact ⟨vf, ve, xs, h.moves (SameT.of e) ((e _ _ h.ha).trans h.ha.symm) ((e _ _ h.hr).trans h.hr.symm)⟩
theorem FrAt.other {K : PySem.W.Frag} {H : Hp} {x : Frm} {q : Addr} {zs : List V} {o : HO} (h : FrAt K H x) (hq : H q = some (.lst zs)) (na : x.a ≠ q) (nr : x.r ≠ q) : FrAt K (upd H q o) x := by
  obtain ⟨vf, ve, xs, h⟩ := h
  exact ⟨vf, ve, xs, h.moves (SameT.upd hq rfl) (upd_ne na) (upd_ne nr)⟩
theorem bk_not5 {K : PySem.W.Frag} {H : Hp} {z : Str} {b c d e : V} {l : List Rw} (h : BkAt K (SqT K) H [.str z, b, c, d, e] l) : False := by
  cases h with
  | cons h _ =>
    obtain ⟨a, e⟩ := BkAt.ref h
    exact nomatch e
theorem FrAt.ne {K : PySem.W.Frag} {H : Hp} {x : Frm} {q : Addr} {zs : List V} {l : List Rw} (h : FrAt K H x) (hq : H q = some (.lst zs)) (hb : BkAt K (SqT K) H zs l) : x.a ≠ q := by
  intro e
  obtain ⟨vf, ve, xs, h⟩ := h
  have := h.ha
  rw [e, hq] at this
  have := HO.lst.inj (Option.some.inj this)
  rw [this] at hb
  exact bk_not5 hb
structure Stk (K : PySem.W.Frag) (H0 H : Hp) (st : Addr) (ns : List Str) (L : List Frm) (W : Nat) : Prop where
  same : Same H0 H
  s0 : H0 st = none
  hs : H st = some (.lst (L.map fun x => .ref x.a))
  fr : ∀ x ∈ L, FrAt K H x
  r0 : ∀ x ∈ L, H0 x.r = none
  ra : ∀ x ∈ L, x.r ≠ st
  nd : (L.map (·.r)).Nodup
  ok : ∀ x ∈ L, oks ns x.rows ∧ (x.kd ≠ 0 → x.f.fine ns) ∧ ∀ b, x.els = some b → oks ns b
  nest : ∀ (i : Nat) x, L[i]? = some x → nests x.rows + i ≤ 8 ∧ (∀ b, x.els = some b → nests b + i ≤ 8) ∧ (i = 0 → x.kd = 0 ∧ x.els = none) ∧ (0 < i → x.kd ≠ 0)
  len : 1 ≤ L.length ∧ L.length ≤ 8
  w : (L.map Frm.w).sum ≤ W
def mus (L : List Frm) : Nat := (L.map Frm.mu).sum
section
variable {K : PySem.W.Frag} {H0 H H' : Hp} {st : Addr} {ns : List Str} {L : List Frm} {W : Nat}
theorem Stk.mono (S : Stk K H0 H st ns L W) (e : Same H H') : Stk K H0 H' st ns L W :=
  ⟨S.same.trans e, S.s0, e _ _ S.hs, fun x hx => (S.fr x hx).mono e, S.r0, S.ra, S.nd, S.ok, S.nest, S.len, S.w⟩
theorem Stk.wle (S : Stk K H0 H st ns L W) {W' : Nat} (h : W ≤ W') : Stk K H0 H st ns L W' :=
  ⟨S.same, S.s0, S.hs, S.fr, S.r0, S.ra, S.nd, S.ok, S.nest, S.len, Nat.le_trans S.w h⟩
theorem ref_not5 {z : Str} {b c d e : V} {l : List Frm} (h : [.str z, b, c, d, e] = l.map fun x => V.ref x.a) : False := by
  cases l with
  | nil => exact nomatch h
  | cons x r => exact nomatch (List.cons.inj h).1
theorem Stk.ast (S : Stk K H0 H st ns L W) {x : Frm} (hx : FrAt K H x) : x.a ≠ st := by
  intro e
  obtain ⟨vf, ve, xs, h⟩ := hx
  have := h.ha
  rw [e, S.hs] at this
  exact ref_not5 (HO.lst.inj (Option.some.inj this)).symm
theorem Stk.other {q : Addr} {zs zs' : List V} (S : Stk K H0 H st ns L W) (q0 : H0 q = none) (hq : H q = some (.lst zs)) (qs : q ≠ st) (qa : ∀ x ∈ L, x.a ≠ q) (qr : ∀ x ∈ L, x.r ≠ q) : Stk K H0 (upd H q (.lst zs')) st ns L W :=
  ⟨same_mut S.same q0, S.s0, (upd_ne qs.symm).trans S.hs, fun x hx => (S.fr x hx).other hq (qa x hx) (qr x hx), S.r0, S.ra, S.nd, S.ok, S.nest, S.len, S.w⟩
theorem sum_snoc (l : List Nat) (n : Nat) : (l ++ [n]).sum = l.sum + n := by simp
/-- one more row in the topmost frame -/
theorem Stk.row {x : Frm} {vf ve v : V} {xs : List V} {r : Rw} (S : Stk K H0 H st ns (L ++ [x]) W) (h : FrIn K H x vf ve xs) (hv : RwAt K (SqT K) H v r) (ho : r.ok ns) (hn : r.nest + L.length ≤ 8) :
    Stk K H0 (upd H x.r (.lst (xs ++ [v]))) st ns (L ++ [{ x with rows := x.rows ++ [r] }]) (W + r.size) := by
  have hx : x ∈ L ++ [x] := List.mem_append_right _ (List.mem_singleton.mpr rfl)
  have eT : SameT H (upd H x.r (.lst (xs ++ [v]))) := SameT.upd h.hr rfl
  have nd := S.nd
  rw [List.map_append, List.nodup_append] at nd
  have rx : ∀ y ∈ L, y.r ≠ x.r := fun y hy => nd.2.2 y.r (List.mem_map.mpr ⟨y, hy, rfl⟩) x.r (List.mem_map.mpr ⟨x, List.mem_singleton.mpr rfl, rfl⟩)
  have hm : ∀ y ∈ L ++ [{ x with rows := x.rows ++ [r] }], y ∈ L ∨ y = { x with rows := x.rows ++ [r] } := fun y hy => (List.mem_append.mp hy).imp_right List.mem_singleton.mp
  refine ⟨same_mut S.same (S.r0 x hx), S.s0, ?_, ?_, ?_, ?_, ?_, ?_, ?_, ?_, ?_⟩
  · rw [upd_ne (S.ra x hx).symm, S.hs, List.map_append, List.map_append] <;> rfl
  · intro y hy
    rcases hm y hy with hy | rfl
    · exact (S.fr y (List.mem_append_left _ hy)).other h.hr ((S.fr y (List.mem_append_left _ hy)).ne h.hr h.hb) (rx y hy)
    · exact ⟨vf, ve, xs ++ [v], (upd_ne (FrAt.ne ⟨vf, ve, xs, h⟩ h.hr h.hb)).trans h.ha, upd_same, (h.hb.app (BkAt.one hv)).monoT eT, h.f0, fun c => (h.f1 c).monoT eT, h.he.monoT eT⟩
  · intro y hy
    rcases hm y hy with hy | rfl
    · exact S.r0 y (List.mem_append_left _ hy)
    · exact S.r0 x hx
  · intro y hy
    rcases hm y hy with hy | rfl
    · exact S.ra y (List.mem_append_left _ hy)
    · exact S.ra x hx
  · have := S.nd
    rw [List.map_append] at this ⊢
    exact this
  · intro y hy
    rcases hm y hy with hy | rfl
    · exact S.ok y (List.mem_append_left _ hy)
    · have := S.ok x hx
      exact ⟨oks_app this.1 ⟨ho, trivial⟩, this.2⟩
  · intro i y hy
    rcases Nat.lt_or_ge i L.length with lt | ge
    · rw [List.getElem?_append_left lt] at hy
      exact S.nest i y (by rw [List.getElem?_append_left lt]; exact hy)
    · rw [List.getElem?_append_right ge] at hy
      have hj : i - L.length = 0 := by
        have := (List.getElem?_eq_some_iff.mp hy).1
        simp only [List.length_singleton] at this
        omega
      have hi : i = L.length := by omega
      rw [hj] at hy
      have hy := Option.some.inj hy
      have q := S.nest i x (by rw [List.getElem?_append_right ge, hj]; rfl)
      rw [← hy]
      refine ⟨?_, q.2⟩
      show nests (x.rows ++ [r]) + i ≤ 8
      rw [nests_app]
      have : nests [r] = r.nest := by show max r.nest 0 = r.nest; omega
      rw [this]
      have := q.1
      omega
  · have := S.len
    rw [List.length_append] at this ⊢
    exact this
  · have := S.w
    rw [List.map_append, List.map_cons, List.map_nil, sum_snoc] at this ⊢
    have : Frm.w { x with rows := x.rows ++ [r] } = x.w + r.size := by
      show szs (x.rows ++ [r]) + elSz x.els + 2 = szs x.rows + elSz x.els + 2 + r.size
      rw [szs_app]
      have : szs [r] = r.size := by show r.size + 0 = r.size; omega
      rw [this]
      omega
    rw [this]
    omega
/-- a new frame -/
theorem Stk.push {x : Frm} (S : Stk K H0 H st ns L W) (h : FrAt K H x) (r0 : H0 x.r = none) (rs : x.r ≠ st) (rr : ∀ y ∈ L, y.r ≠ x.r) (kd : x.kd ≠ 0) (ok : oks ns x.rows ∧ (x.kd ≠ 0 → x.f.fine ns) ∧ ∀ b, x.els = some b → oks ns b)
    (hl : L.length < 8) (n1 : nests x.rows + L.length ≤ 8) (n2 : ∀ b, x.els = some b → nests b + L.length ≤ 8) :
    Stk K H0 (upd H st (.lst (L.map (fun x => V.ref x.a) ++ [.ref x.a]))) st ns (L ++ [x]) (W + x.w) := by
  have hm : ∀ y ∈ L ++ [x], y ∈ L ∨ y = x := fun y hy => (List.mem_append.mp hy).imp_right List.mem_singleton.mp
  refine ⟨same_mut S.same S.s0, S.s0, ?_, ?_, ?_, ?_, ?_, ?_, ?_, ?_, ?_⟩
  · rw [upd_same, List.map_append] <;> rfl
  · intro y hy
    rcases hm y hy with hy | rfl
    · exact (S.fr y hy).other S.hs (S.ast (S.fr y hy)) (S.ra y hy)
    · exact h.other S.hs (S.ast h) rs
  · intro y hy
    rcases hm y hy with hy | rfl
    · exact S.r0 y hy
    · exact r0
  · intro y hy
    rcases hm y hy with hy | rfl
    · exact S.ra y hy
    · exact rs
  · rw [List.map_append, List.nodup_append]
    refine ⟨S.nd, List.nodup_cons.mpr ⟨List.not_mem_nil, List.nodup_nil⟩, fun u hu w hw => ?_⟩
    obtain ⟨y, hy, rfl⟩ := List.mem_map.mp hu
    rw [List.mem_singleton.mp hw]
    exact rr y hy
  · intro y hy
    rcases hm y hy with hy | rfl
    · exact S.ok y hy
    · exact ok
  · intro i y hy
    rcases Nat.lt_or_ge i L.length with lt | ge
    · rw [List.getElem?_append_left lt] at hy
      exact S.nest i y hy
    · rw [List.getElem?_append_right ge] at hy
      have hj : i - L.length = 0 := by
        have := (List.getElem?_eq_some_iff.mp hy).1
        simp only [List.length_singleton] at this
        omega
      have hi : i = L.length := by omega
      rw [hj] at hy
      have hy := Option.some.inj hy
      have l1 := S.len.1
      rw [← hy, hi]
      exact ⟨n1, n2, fun c => by omega, fun _ => kd⟩
  · rw [List.length_append, List.length_singleton]
    have := S.len
    omega
  · have := S.w
    rw [List.map_append, List.map_cons, List.map_nil, sum_snoc]
    omega
/-- the topmost frame is taken off -/
theorem Stk.pop {x : Frm} (S : Stk K H0 H st ns (L ++ [x]) W) (hl : L ≠ []) : Stk K H0 (upd H st (.lst (L.map fun x => .ref x.a))) st ns L (W - x.w) ∧ FrAt K (upd H st (.lst (L.map fun x => .ref x.a))) x := by
  have hx : x ∈ L ++ [x] := List.mem_append_right _ (List.mem_singleton.mpr rfl)
  have hm : ∀ y ∈ L, y ∈ L ++ [x] := fun y hy => List.mem_append_left _ hy
  refine ⟨⟨same_mut S.same S.s0, S.s0, upd_same, fun y hy => (S.fr y (hm y hy)).other S.hs (S.ast (S.fr y (hm y hy))) (S.ra y (hm y hy)), fun y hy => S.r0 y (hm y hy), fun y hy => S.ra y (hm y hy), ?_, fun y hy => S.ok y (hm y hy), ?_, ?_, ?_⟩,
    (S.fr x hx).other S.hs (S.ast (S.fr x hx)) (S.ra x hx)⟩
  · have := S.nd
    rw [List.map_append, List.nodup_append] at this
    exact this.1
  · intro i y hy
    exact S.nest i y (by rw [List.getElem?_append_left (List.getElem?_eq_some_iff.mp hy).1]; exact hy)
  · have := S.len
    rw [List.length_append] at this
    have := List.length_pos_iff.mpr hl
    omega
  · have := S.w
    rw [List.map_append, List.map_cons, List.map_nil, sum_snoc] at this
    omega
theorem snoc_of {α : Type} {l : List α} (h : l ≠ []) : ∃ m x, l = m ++ [x] := ⟨l.dropLast, l.getLast h, (List.dropLast_concat_getLast h).symm⟩
end
def sp_law_all_names (K : PySem.W.Frag) (n : Nat) : Sp := fun vs H Q _ => ∃ (v : V) (f : Fm), vs = [v] ∧ FmAt K H v f ∧ f.depth ≤ n ∧ f.depth ≤ 18 ∧ ∀ p H', Same H H' → H p = none → H' p = some (.lst (f.names.map V.str)) → Q (.ref p) H'
def sp_law_row_by (K : PySem.W.Frag) : Sp := fun vs H Q _ => ∃ (a : Addr) (ns : List Str) (m : Int) (d : Bool) (o : Int), vs = [.ref a, .int m, .bl d, .int o] ∧ SqL K H a (ns.map V.str) ∧ Ten ns ∧
  ∀ (p : Addr) (H' : Hp) (u : V) (f : Fm) (b : Bool), Same H H' → SqT K H' p [u, .bl b] → FmAt K H' u f → f.ok ns → f.depth ≤ 4 → Q (.ref p) H'
def sp_law_closed (K : PySem.W.Frag) : Sp := fun vs H Q _ => ∃ (H0 : Hp) (st : Addr) (ns : List Str) (L : List Frm) (W : Nat), vs = [.ref st] ∧ Stk K H0 H st ns L W ∧ 2 ≤ L.length ∧ W ≤ 1000 ∧
  ∀ (v : V) (H' : Hp) (L' : List Frm), Stk K H0 H' st ns L' W → mus L' < mus L → Q v H'
def sp_law_put (K : PySem.W.Frag) : Sp := fun vs H Q _ => ∃ (H0 : Hp) (st a : Addr) (ns : List Str) (L : List Frm) (W : Nat) (m o : Int), vs = [.ref st, .ref a, .int m, .int o] ∧ Stk K H0 H st ns L W ∧ SqL K H0 a (ns.map V.str) ∧ Ten ns ∧ 0 ≤ o ∧ o ≤ 2 ∧ W ≤ 1000 ∧
  ∀ (v : V) (H' : Hp) (L' : List Frm), Stk K H0 H' st ns L' (W + 2) → Q v H'
structure GoodB (K : PySem.W.Frag) (H : Hp) (ns : List Str) (xs : List V) (b : List Rw) : Prop where
  at_ : BkAt K (SqT K) H xs b
  ok : oks ns b
  nest : nests b ≤ 8
def sp_law_block_by (K : PySem.W.Frag) : Sp := fun vs H Q _ => ∃ (c a : Addr) (cells : List Int) (ns : List Str) (o : Int), vs = [.ref c, .ref a, .int o] ∧ SqL K H c (cells.map V.int) ∧ cells.length ≤ 63 ∧ SqL K H a (ns.map V.str) ∧ Ten ns ∧
  ∀ (p : Addr) (H' : Hp) (xs : List V) (b : List Rw), Same H H' → H p = none → H' p = some (.lst xs) → GoodB K H' ns xs b → szs b ≤ 130 → Q (.ref p) H'
abbrev N_law_all_names : List Str := ["_law_formula_here"]
def t_law_all_names (K : PySem.W.Frag) (n : Nat) : TS :=
  (tSeq (tIfS (tTest (tOp (rEq2 K) (tOp (rIx K) (tVar 0) (tC (.int 0))) (tC (.str "number")))) (tRet (tLst tNil)) tNext) (tSeq (tIfS (tTest (tOp (rEq2 K) (tOp (rIx K) (tVar 0) (tC (.int 0))) (tC (.str "name")))) (tRet (tLst (tCons (tOp (rIx K) (tVar 0) (tC (.int 1))) tNil))) tNext) (tRet (tOp (rAdd K) (tF (sp_law_all_names K n) (tCons (tOp (rIx K) (tVar 0) (tC (.int 1))) tNil)) (tF (sp_law_all_names K n) (tCons (tOp (rIx K) (tVar 0) (tC (.int 2))) tNil))))))
abbrev N_law_row_by : List Str := ["_law_names_here", "_law_more_here", "_law_dark", "_law_mode", "_law_low", "_law_some", "_law_formula_here", "_law_name"]
def t_law_row_by_j1 (K : PySem.W.Frag) : TS :=
  (tSeq (tAsg (tF (sp_law_formula_by K 6) (tCons (tVar 1) (tCons (tVar 5) (tCons (tVar 4) (tCons (tOrV (tOp rGt (tVar 3) (tC (.int 0))) (tNotV (tVar 2))) (tCons (tOp (rAdd K) (tC (.int 1)) (tOp rMod (tOp rDiv (tVar 1) (tC (.int 24))) (tC (.int 4)))) tNil)))))) (gName 6)) (tRet (tTup (tCons (tVar 6) (tCons (tOp (rNe2 K) (tLc (iSeq K (tF (sp_law_all_names K 18) (tCons (tVar 6) tNil))) (gName 7) (tTest (tOp (rIn2 K false) (tVar 7) (tSl (rSl K) (tVar 0) (tPart (tC (.int 5))) tNoPart))) (tVar 7) [7]) (tLst tNil)) tNil)))))
def t_law_row_by_j2 (K : PySem.W.Frag) : TS :=
  (tSeq (tIfS (tTest (tOp rGt (tVar 3) (tC (.int 0)))) (tAsg (tVar 5) (gName 4)) tNext) (t_law_row_by_j1 K))
def t_law_row_by (K : PySem.W.Frag) : TS :=
  (tSeq (tAsg (tSl (rSl K) (tVar 0) tNoPart (tPart (tC (.int 5)))) (gName 4)) (tSeq (tAsg (tVar 0) (gName 5)) (tSeq (tIfS (tOr (tAnd (tTest (tOp (rEq2 K) (tVar 3) (tC (.int 0)))) (tTest (tOp (rEq2 K) (tOp rMod (tOp rDiv (tVar 1) (tC (.int 12))) (tC (.int 2))) (tC (.int 0))))) (tAnd (tTest (tOp (rEq2 K) (tVar 3) (tC (.int 2)))) (tAnd (tB (tVar 2)) (tTest (tOp rGt (tOp rMod (tOp rDiv (tVar 1) (tC (.int 12))) (tC (.int 3))) (tC (.int 0))))))) (tAsg (tVar 4) (gName 5)) (tIfS (tTest (tOp (rEq2 K) (tVar 3) (tC (.int 2)))) (tAsg (tSl (rSl K) (tVar 0) (tPart (tC (.int 5))) tNoPart) (gName 5)) tNext)) (t_law_row_by_j2 K))))
abbrev N_law_closed : List Str := ["_law_stack", "_law_frame"]
def t_law_closed_j1 (K : PySem.W.Frag) : TS :=
  (tDrop (tBM K "list" rAppend (tOp (rIx K) (tOp (rIx K) (tVar 0) (tUn rNeg (tC (.int 1)))) (tC (.int 2))) (tCons (tTup (tCons (tC (.str "while")) (tCons (tOp (rIx K) (tVar 1) (tC (.int 1))) (tCons (tCB (rTupO K) (tCons (tOp (rIx K) (tVar 1) (tC (.int 2))) tNil)) tNil)))) tNil)))
def t_law_closed (K : PySem.W.Frag) : TS :=
  (tSeq (tAsg (tBM0 K "list" rPop (tVar 0)) (gName 1)) (tIfS (tTest (tOp (rEq2 K) (tOp (rIx K) (tVar 1) (tC (.int 0))) (tC (.str "while")))) (tSeq (tIfS (tAnd (tTest (tOp (rEq2 K) (tOp (rIx K) (tOp (rIx K) (tVar 1) (tC (.int 1))) (tC (.int 0))) (tC (.str "<")))) (tTest (tOp (rEq2 K) (tOp (rIx K) (tOp (rIx K) (tOp (rIx K) (tVar 1) (tC (.int 1))) (tC (.int 1))) (tC (.int 0))) (tC (.str "name"))))) (tDrop (tBM K "list" rAppend (tOp (rIx K) (tVar 1) (tC (.int 2))) (tCons (tTup (tCons (tC (.str "set")) (tCons (tOp (rIx K) (tOp (rIx K) (tOp (rIx K) (tVar 1) (tC (.int 1))) (tC (.int 1))) (tC (.int 1))) (tCons (tTup (tCons (tC (.str "+")) (tCons (tOp (rIx K) (tOp (rIx K) (tVar 1) (tC (.int 1))) (tC (.int 1))) (tCons (tTup (tCons (tC (.str "number")) (tCons (tC (.int 1)) tNil))) tNil)))) tNil)))) tNil))) tNext) (t_law_closed_j1 K)) (tIfS (tTest (tOp (rIsN2 false) (tOp (rIx K) (tVar 1) (tC (.int 4))) (tC .non))) (tDrop (tBM K "list" rAppend (tVar 0) (tCons (tLst (tCons (tOp (rIx K) (tVar 1) (tC (.int 0))) (tCons (tOp (rIx K) (tVar 1) (tC (.int 1))) (tCons (tLst tNil) (tCons (tOp (rIx K) (tVar 1) (tC (.int 3))) (tCons (tCB (rTupO K) (tCons (tOp (rIx K) (tVar 1) (tC (.int 2))) tNil)) tNil)))))) tNil))) (tDrop (tBM K "list" rAppend (tOp (rIx K) (tOp (rIx K) (tVar 0) (tUn rNeg (tC (.int 1)))) (tC (.int 2))) (tCons (tTup (tCons (tC (.str "if")) (tCons (tOp (rIx K) (tVar 1) (tC (.int 1))) (tCons (tOp (rIx K) (tVar 1) (tC (.int 4))) (tCons (tCB (rTupO K) (tCons (tOp (rIx K) (tVar 1) (tC (.int 2))) tNil)) tNil))))) tNil))))))
abbrev N_law_put : List Str := ["_law_stack", "_law_names_here", "_law_more_here", "_law_mode", "_law_way", "_law_dark", "_law_frame", "_law_formula_here", "_law_secret", "_law_shut", "_law_some"]
def t_law_put_j1 (K : PySem.W.Frag) : TS :=
  (tDrop (tBM K "list" rAppend (tOp (rIx K) (tOp (rIx K) (tVar 0) (tUn rNeg (tC (.int 1)))) (tC (.int 2))) (tCons (tTup (tCons (tC (.str "set")) (tCons (tOp (rIx K) (tVar 10) (tOp rMod (tOp rDiv (tVar 2) (tC (.int 96))) (tCB (rLenA K) (tCons (tVar 10) tNil)))) (tCons (tVar 7) tNil)))) tNil)))
def t_law_put_j2 (K : PySem.W.Frag) : TS :=
  (tDrop (tBM K "list" rAppend (tVar 0) (tCons (tLst (tCons (tC (.str "while")) (tCons (tVar 7) (tCons (tLst tNil) (tCons (tVar 8) (tCons (tC .non) tNil)))))) tNil)))
def t_law_put_j3 (K : PySem.W.Frag) : TS :=
  (tIfS (tTest (tOp rLt (tVar 4) (tC (.int 4)))) (tSeq (tAsg (tOp (rIx K) (tLst (tCons (tVar 1) (tCons (tVar 1) (tCons (tOp (rIx K) (tLst (tCons (tSl (rSl K) (tVar 1) tNoPart (tPart (tC (.int 5)))) (tCons (tSl (rSl K) (tVar 1) (tPart (tC (.int 5))) tNoPart) tNil))) (tCB rInt (tCons (tOp (rEq2 K) (tOp rMod (tOp rDiv (tVar 2) (tC (.int 7))) (tC (.int 4))) (tC (.int 3))) tNil))) tNil)))) (tVar 3)) (gName 10)) (tSeq (tIfS (tB (tVar 9)) (tAsg (tSl (rSl K) (tVar 1) (tPart (tC (.int 5))) tNoPart) (gName 10)) tNext) (t_law_put_j1 K))) (tIfS (tAnd (tTest (tOp (rEq2 K) (tVar 4) (tC (.int 4)))) (tNot (tB (tVar 9)))) (tDrop (tBM K "list" rAppend (tOp (rIx K) (tOp (rIx K) (tVar 0) (tUn rNeg (tC (.int 1)))) (tC (.int 2))) (tCons (tTup (tCons (tC (.str "tell")) (tCons (tVar 7) tNil))) tNil))) (tIfS (tTest (tOp (rEq2 K) (tVar 4) (tC (.int 5)))) (tDrop (tBM K "list" rAppend (tOp (rIx K) (tOp (rIx K) (tVar 0) (tUn rNeg (tC (.int 1)))) (tC (.int 2))) (tCons (tTup (tCons (tC (.str "skip")) tNil)) tNil))) (tIfS (tAnd (tTest (tOp rLt (tVar 4) (tC (.int 8)))) (tTest (tOp rLt (tCB (rLenA K) (tCons (tVar 0) tNil)) (tC (.int 8))))) (tDrop (tBM K "list" rAppend (tVar 0) (tCons (tLst (tCons (tC (.str "if")) (tCons (tVar 7) (tCons (tLst tNil) (tCons (tVar 8) (tCons (tC .non) tNil)))))) tNil))) (tIfS (tAnd (tTest (tOp rLt (tVar 4) (tC (.int 10)))) (tAnd (tTest (tOp rLt (tCB (rLenA K) (tCons (tVar 0) tNil)) (tC (.int 8)))) (tNot (tB (tVar 9))))) (tSeq (tIfS (tAnd (tTest (tOp (rEq2 K) (tVar 3) (tC (.int 0)))) (tTest (tOp rGt (tOp rMod (tOp rDiv (tVar 2) (tC (.int 96))) (tC (.int 4))) (tC (.int 0))))) (tAsg (tTup (tCons (tC (.str "<")) (tCons (tTup (tCons (tC (.str "name")) (tCons (tOp (rIx K) (tVar 1) (tOp rMod (tOp rDiv (tVar 2) (tC (.int 384))) (tC (.int 5)))) tNil))) (tCons (tTup (tCons (tC (.str "number")) (tCons (tOp (rAdd K) (tC (.int 1)) (tOp rMod (tOp rDiv (tVar 2) (tC (.int 1920))) (tC (.int 4)))) tNil))) tNil)))) (gName 7)) tNext) (t_law_put_j2 K)) (tIfS (tTest (tOp rGt (tCB (rLenA K) (tCons (tVar 0) tNil)) (tC (.int 1)))) (tDrop (tF (sp_law_closed K) (tCons (tVar 0) tNil))) tNext))))))
def t_law_put (K : PySem.W.Frag) : TS :=
  (tSeq (tAsg (tOp rMod (tVar 2) (tC (.int 12))) (gName 4)) (tSeq (tAsg (tOp (rNe2 K) (tLc (iSeq K (tVar 0)) (gName 6) (tB (tOp (rIx K) (tVar 6) (tC (.int 3)))) (tVar 6) [6]) (tLst tNil)) (gName 5)) (tSeq (tAsg (tF (sp_law_row_by K) (tCons (tVar 1) (tCons (tVar 2) (tCons (tVar 5) (tCons (tVar 3) tNil))))) (gTup K 2 (gCons (gName 7) (gCons (gName 8) gNil)))) (tSeq (tAsg (tAndV (tOp (rEq2 K) (tVar 3) (tC (.int 0))) (tOrV (tVar 5) (tVar 8))) (gName 9)) (tSeq (tIfS (tTest (tOp (rEq2 K) (tVar 3) (tC (.int 2)))) (tAsg (tOp (rIx K) (tLst (tCons (tC (.int 0)) (tCons (tC (.int 4)) (tCons (tC (.int 8)) (tCons (tC (.int 0)) tNil))))) (tOp rMod (tOp rDiv (tVar 2) (tC (.int 7))) (tC (.int 4)))) (gName 4)) tNext) (t_law_put_j3 K))))))
abbrev N_law_block_by : List Str := ["_law_cells", "_law_names_here", "_law_loose", "_law_stack", "_law_turn", "_law_cell", "_law_more_here", "_law_mode"]
def t_law_block_by_j1 (K : PySem.W.Frag) : TS :=
  (tDrop (tF (sp_law_put K) (tCons (tVar 3) (tCons (tVar 1) (tCons (tVar 6) (tCons (tVar 7) tNil))))))
def t_law_block_by_j2 (K : PySem.W.Frag) : TS :=
  (tSeq (tIfS (tAnd (tTest (tOp rGt (tVar 2) (tC (.int 1)))) (tTest (tOp (rEq2 K) (tVar 4) (tOp rMod (tVar 2) (tCB (rLenA K) (tCons (tVar 0) tNil)))))) (tAsg (tC (.int 2)) (gName 7)) tNext) (t_law_block_by_j1 K))
def t_law_block_by (K : PySem.W.Frag) : TS :=
  (tSeq (tAsg (tLst (tCons (tLst (tCons (tC (.str "")) (tCons (tC .non) (tCons (tLst tNil) (tCons (tC (.bl false)) (tCons (tC .non) tNil)))))) tNil)) (gName 3)) (tSeq (tFor (iEnum K (tCons (tVar 0) tNil)) (gTup K 2 (gCons (gName 4) (gCons (gName 5) gNil))) (tSeq (tAsg (tF (sp_law_mixed K) (tCons (tOp rMul (tF (sp_law_mixed K) (tCons (tOp (rAdd K) (tVar 5) (tOp rMul (tC (.int 131)) (tVar 4))) tNil)) (tOp (rAdd K) (tVar 4) (tC (.int 2)))) tNil)) (gName 6)) (tSeq (tAsg (tC (.int 0)) (gName 7)) (tSeq (tIfS (tAnd (tTest (tOp (rEq2 K) (tVar 2) (tC (.int 1)))) (tTest (tOp (rEq2 K) (tOp rMod (tOp rDiv (tVar 6) (tC (.int 4096))) (tC (.int 4))) (tC (.int 0))))) (tAsg (tC (.int 1)) (gName 7)) tNext) (t_law_block_by_j2 K))))) (tSeq (tWhile (tTest (tOp rGt (tCB (rLenA K) (tCons (tVar 3) tNil)) (tC (.int 1)))) (tDrop (tF (sp_law_closed K) (tCons (tVar 3) tNil)))) (tRet (tOp (rIx K) (tOp (rIx K) (tVar 3) (tC (.int 0))) (tC (.int 2)))))))
theorem pure_law_all_names (K : PySem.W.Frag) (n : Nat) (vs : List V) (H : Hp) (Q : VK) (E : XK) (h : sp_law_all_names K (n + 1) vs H Q E) :
    t_law_all_names K n { nx := fun _ H' => Q .non H', rt := Q } (start N_law_all_names vs) H := by
  obtain ⟨v, f, rfl, hf, hd, hn, q⟩ := h
  unfold t_law_all_names
  cases hf with
  | num h =>
    walk_at "go"
    exact w_new (by walk_at "sz") (fun p hp => q _ _ (same_new hp) hp upd_same)
  | nam h =>
    walk_at "go"
    exact w_new (by walk_at "sz") (fun p hp => q _ _ (same_new hp) hp upd_same)
  | @op a s u v f g h h1 h2 =>
    have e1 := sg_num s
    have e2 := sg_nam s
    have l1 : f.depth ≤ n := by simp only [Fm.depth] at hd; omega
    have l2 : g.depth ≤ n := by simp only [Fm.depth] at hd; omega
    have k1 : f.depth ≤ 18 := by simp only [Fm.depth] at hn; omega
    have k2 : g.depth ≤ 18 := by simp only [Fm.depth] at hn; omega
    walk_at "go"
    refine ⟨_, f, rfl, h1, l1, k1, fun p H1 e hp hp1 => ?_⟩
    walk_at "go"
    refine ⟨_, g, rfl, h2.mono e, l2, k2, fun p2 H2 e' hp2 hp3 => ?_⟩
    have y1 := Fm.names_small18 k1
    have y2 := Fm.names_small18 k2
    refine w_addL (e' p _ hp1) hp3 (sz (by rw [List.length_map, List.length_map]; omega)) fun p4 hp4 => ?_
    exact q _ _ ((e.trans e').trans (same_new hp4)) (none_of (e.trans e') hp4) (by rw [upd_same, ← List.map_append] <;> rfl)
theorem no_law_all_names {K : PySem.W.Frag} : ∀ vs H Q E, ¬ sp_law_all_names K 0 vs H Q E := by
  rintro vs H Q E ⟨v, f, _, _, h, _⟩
  have := f.depth_pos
  omega
theorem cut_map {α : Type} {f : α → V} {xs : List α} (lo hi : Option Int) : ∃ ys, cutV (xs.map f) lo hi = ys.map f ∧ List.Sublist ys xs := by
  unfold cutV
  exact ⟨_, by rw [← List.map_drop, ← List.map_take], (List.take_sublist _ _).trans (List.drop_sublist _ _)⟩
theorem cut_lo {α : Type} {f : α → V} {xs : List α} {k : Nat} : cutV (xs.map f) none (some (k : Int)) = (xs.take k).map f := by
  unfold cutV
  rw [HT.sIx_none, show HT.sIx (xs.map f).length (xs.map f).length (some (k : Int)) = min k (xs.map f).length from HT.sIx_nat _ _ k, List.drop_zero, Nat.sub_zero, ← List.map_take, List.length_map]
  congr 1
  rcases Nat.le_total k xs.length with h | h
  · rw [Nat.min_eq_left h]
  · rw [Nat.min_eq_right h, List.take_of_length_le (Nat.le_refl _), List.take_of_length_le h]
theorem cut_hi {α : Type} {f : α → V} {xs : List α} {k : Nat} : cutV (xs.map f) (some (k : Int)) none = (xs.drop k).map f := by
  unfold cutV
  rw [HT.sIx_none, show HT.sIx (xs.map f).length 0 (some (k : Int)) = min k (xs.map f).length from HT.sIx_nat _ _ k, List.length_map]
  rw [← List.map_drop]
  rcases Nat.le_total k xs.length with h | h
  · rw [Nat.min_eq_left h, List.take_of_length_le (by rw [List.length_map, List.length_drop] <;> exact Nat.le_refl _)]
  · rw [Nat.min_eq_right h, List.drop_of_length_le (Nat.le_refl _), List.drop_of_length_le h]
    simp
/-- some of a list, by a test of each -/
theorem lc_filter {K : PySem.W.Frag} {α : Type} {f : α → V} {ys : List α} {a : Addr} {g : TG} {tt : TT} {te : TE} {vs : List Nat} {σ : L2.St} {H0 : Hp} {D : Addr} {Qd : Hp → Prop} (p : α → Bool) (hv : α → V) (hq : SqL K H0 a (ys.map f)) (hl : ys.length ≤ 16000000) (hD : H0 D = none)
    (hs : ∀ x H (Nx : Hp → Prop), x ∈ ys → Same H0 H → (∃ zs, H D = some (.lst zs)) → (p x = true → ∀ H4, Same H H4 → ∃ acc, H4 D = some (.lst acc) ∧ acc.length < sizeLine ∧ Nx (upd H4 D (.lst (acc ++ [hv x])))) → (p x = false → ∀ H4, Same H H4 → Nx H4) →
      g (f x) (wipe σ vs) H fun σ2 H2 => wipe σ2 vs = wipe σ vs ∧ tt σ2 H2 fun b H3 => if b = true then te σ2 H3 fun y H4 => ∃ acc, H4 D = some (.lst acc) ∧ acc.length < sizeLine ∧ Nx (upd H4 D (.lst (acc ++ [y]))) else Nx H3)
    (hd : ∀ H, Same H0 H → H D = some (.lst ((ys.filter p).map hv)) → Qd H) :
    ∃ W : Nat → Nat → Hp → Prop, (∃ m, W 0 m (upd H0 D (.lst []))) ∧ ∀ i m H, W i m H →
      ((Itl K a).stop i H ∧ Qd H) ∨ ((Itl K a).go i H ∧ ∃ Nx : Hp → Prop, (∀ H', Nx H' → ∃ m', m' < m ∧ W (i + 1) m' H') ∧ ∀ x H', (Itl K a).yld i H x H' → g x (wipe σ vs) H' fun σ2 H2 => wipe σ2 vs = wipe σ vs ∧ tt σ2 H2 fun b H3 =>
        if b = true then te σ2 H3 fun y H4 => ∃ acc, H4 D = some (.lst acc) ∧ acc.length < sizeLine ∧ Nx (upd H4 D (.lst (acc ++ [y]))) else Nx H3) := by
  refine lc_list (xs := ys.map f) (fun i H => Same H0 H ∧ H D = some (.lst (((ys.take i).filter p).map hv))) ⟨same_new hD, upd_same⟩ (fun i H _ h => same_l h.1 hq) ?_ ?_
  · rintro i x H hx ⟨e, hD2⟩
    rw [List.getElem?_map] at hx
    cases c : ys[i]? with
    | none => rw [c] at hx; exact nomatch hx
    | some y =>
      rw [c] at hx
      obtain rfl : f y = x := Option.some.inj hx
      have tk : ys.take (i + 1) = ys.take i ++ [y] := by rw [List.take_succ, c] <;> rfl
      refine hs y H _ (List.mem_of_getElem? c) e ⟨_, hD2⟩ (fun hp H4 e4 => ?_) (fun hp H4 e4 => ?_)
      · refine ⟨_, e4 D _ hD2, Nat.lt_of_le_of_lt (Nat.le_trans (by rw [List.length_map]; exact Nat.le_trans (List.length_filter_le _ _) (List.length_take_le' _ _)) hl) (by decide), same_mut (e.trans e4) hD, ?_⟩
        rw [upd_same, tk, List.filter_append, List.map_append, List.filter_cons_of_pos hp] <;> rfl
      · refine ⟨e.trans e4, ?_⟩
        rw [e4 D _ hD2, tk, List.filter_append, List.filter_cons_of_neg (by rw [hp]; decide), List.filter_nil, List.append_nil]
  · rintro H ⟨e, hD2⟩
    rw [List.length_map, List.take_length] at hD2
    exact hd H e hD2
theorem pure_law_row_by (K : PySem.W.Frag) (vs : List V) (H : Hp) (Q : VK) (E : XK) (h : sp_law_row_by K vs H Q E) :
    t_law_row_by K { nx := fun _ H' => Q .non H', rt := Q } (start N_law_row_by vs) H := by
  obtain ⟨a, ns, m, d, o, rfl, hS, hT, q⟩ := h
  unfold t_law_row_by
  have m4 := mod_in (m / 24) (show (0 : Int) < 4 by decide)
  have j2 : ∀ (H1 : Hp) (c e : Addr) (ls ms : List Str), Same H H1 → SqL K H1 c (ls.map V.str) → SqL K H1 e (ms.map V.str) → List.Sublist ls ns → List.Sublist ms ns →
      t_law_row_by_j2 K { nx := fun _ H' => Q .non H', rt := Q } [some (.ref a), some (.int m), some (.bl d), some (.int o), some (.ref c), some (.ref e), none, none] H1 := by
    intro H1 c e ls ms e1 hc he sl sm
    unfold t_law_row_by_j2
    have j1 : ∀ (H2 : Hp) (c : Addr) (ls : List Str), Same H H2 → SqL K H2 c (ls.map V.str) → SqL K H2 e (ms.map V.str) → List.Sublist ls ns →
        t_law_row_by_j1 K { nx := fun _ H' => Q .non H', rt := Q } [some (.ref a), some (.int m), some (.bl d), some (.int o), some (.ref c), some (.ref e), none, none] H2 := by
      intro H2 c ls e2 hc he sl
      unfold t_law_row_by_j1
      have fml : ∀ b : Bool, sp_law_formula_by K 6 [.int m, .ref e, .ref c, .bl b, .int (1 + m / 24 % 4)] H2 (fun x H1 => (tRet (tTup (tCons (tVar 6) (tCons (tOp (rNe2 K) (tLc (iSeq K (tF (sp_law_all_names K 18) (tCons (tVar 6) tNil))) (gName 7) (tTest (tOp (rIn2 K false) (tVar 7) (tSl (rSl K) (tVar 0) (tPart (tC (.int 5))) tNoPart))) (tVar 7) [7]) (tLst tNil)) tNil)))) { nx := fun _ H' => Q .non H', rt := Q }
            [some (.ref a), some (.int m), some (.bl d), some (.int o), some (.ref c), some (.ref e), some x, none] H1) E0 := by
        intro b
        have nl : ns.length ≤ 1000 := by rw [hT.len]; decide
        refine ⟨m, e, c, ms, ls, b, _, rfl, he, hc, fun x hx => hT.nm x (sm.subset hx), fun x hx => hT.nm x (sl.subset hx), Nat.le_trans sm.length_le nl, Nat.le_trans sl.length_le nl, by omega, by omega, fun u H3 f hf e3 ho hd => ?_⟩
        have ho' : f.ok ns := Fm.ok_mono (fun x hx => (List.mem_append.mp hx).elim (fun h => sm.subset h) fun h => sl.subset h) ho
        have hd4 : f.depth ≤ 4 := by omega
        walk_at "go"
        refine w_lc ?_
        walk_at "go"
        refine ⟨_, f, rfl, hf, by omega, by omega, fun p1 H4 e4 hp1 hp2 => ?_⟩
        refine w_isL (SqL.of hp2) (fun D hD => ?_)
        refine lc_filter (ys := f.names) (fun x => decide (x ∈ ns.drop 5)) V.str (SqL.of hp2) (Nat.le_trans (Fm.names_small18 (by omega)) (by decide)) hD ?_ ?_
        · rintro x H5 Nx hx e5 ⟨zs, hzs⟩ yes no
          refine ⟨rfl, ?_⟩
          have hS5 := same_l (e2.trans (e3.trans (e4.trans e5))) hS
          walk_at "go"
          refine w_slL hS5 (fun p6 hp6 => ?_)
          have := cut_hi (f := V.str) (xs := ns) (k := 5)
          refine w_inTxt (xs := ns.drop 5) (by rw [← this]; exact SqL.of upd_same) ?_
          walk_at "go"
          refine w_two (fun c => ?_) (fun c => ?_)
          · walk_at "go"
            exact yes c _ (same_new hp6)
          · exact no c _ (same_new hp6)
        · intro H5 e5 hD5
          walk_at "go"
          refine w_new (by walk_at "sz") (fun p6 hp6 => ?_)
          have nmz : ∀ x ∈ f.names.filter (fun x => decide (x ∈ ns.drop 5)), PyData.strOk x = true := fun x hx => ok_txt (hT.nm x (Fm.ok_names ho' x (List.mem_filter.mp hx).1))
          refine w_neTxt (xs := f.names.filter fun x => decide (x ∈ ns.drop 5)) (ys := []) (SqL.of ((same_new hp6) D _ hD5)) (SqL.of upd_same) nmz (fun x hx => nomatch hx) ?_
          walk_at "go"
          refine w_new (by walk_at "sz") (fun p7 hp7 => ?_)
          have e67 := e4.trans (e5.trans (same_new (o := .lst []) hp6))
          exact q p7 _ u f _ (e2.trans (e3.trans (e67.trans (same_new hp7)))) (SqT.of upd_same) (hf.mono (e67.trans (same_new hp7))) ho' hd4
      walk_at "go"
      refine w_two (fun c1 => ?_) (fun c1 => ?_)
      · walk_at "go"
        exact fml _
      · walk_at "go"
        exact fml _
    walk_at "go"
    refine w_two (fun c1 => ?_) (fun c1 => ?_)
    · walk_at "go"
      exact j1 H1 e ms e1 he he sm
    · walk_at "go"
      exact j1 H1 c ls e1 hc he sl
  walk_at "go"
  have c5 : cutV (ns.map V.str) none (some 5) = (ns.take 5).map V.str := cut_lo (k := 5)
  have c6 : cutV (ns.map V.str) (some 5) none = (ns.drop 5).map V.str := cut_hi (k := 5)
  refine w_slL hS (fun p1 hp1 => ?_)
  rw [c5]
  have e1 := same_new (o := .lst ((ns.take 5).map V.str)) hp1
  have hp1' : upd H p1 (.lst ((ns.take 5).map V.str)) p1 = _ := upd_same
  generalize upd H p1 (.lst ((ns.take 5).map V.str)) = H1 at e1 hp1'
  have hS1 := same_l e1 hS
  have low := j2 H1 p1 p1 _ _ e1 (SqL.of hp1') (SqL.of hp1') (List.take_sublist 5 ns) (List.take_sublist 5 ns)
  have all := j2 H1 p1 a _ _ e1 (SqL.of hp1') hS1 (List.take_sublist 5 ns) (List.Sublist.refl _)
  have high : ∀ p2, H1 p2 = none → t_law_row_by_j2 K { nx := fun _ H' => Q .non H', rt := Q } [some (.ref a), some (.int m), some (.bl d), some (.int o), some (.ref p1), some (.ref p2), none, none] (upd H1 p2 (.lst ((ns.drop 5).map V.str))) := fun p2 hp2 =>
    j2 _ p1 p2 _ _ (e1.trans (same_new hp2)) (SqL.of ((same_new hp2) p1 _ hp1')) (SqL.of upd_same) (List.take_sublist 5 ns) (List.drop_sublist 5 ns)
  repeat' (first | walk_at "go1" | (refine w_two (fun _ => ?_) (fun _ => ?_)) | (refine w_slL hS1 (fun p2 hp2 => ?_); rw [c6]; exact high p2 hp2) | exact low | exact all)
theorem at_last {α : Type} {f : α → V} {L : List α} {x : α} : atI ((L ++ [x]).map f) (-1) = some (f x) := by
  have e : (L ++ [x]).map f = L.map f ++ [f x] := by rw [List.map_append] <;> rfl
  rw [e]
  exact atI_last _ _
theorem sum_le {l : List Nat} {n : Nat} (h : n ∈ l) : n ≤ l.sum := by
  induction l with
  | nil => exact nomatch h
  | cons m r ih =>
    rw [List.sum_cons]
    rcases List.mem_cons.mp h with e | h
    · omega
    · have := ih h; omega
theorem pure_law_closed (K : PySem.W.Frag) (vs : List V) (H : Hp) (Q : VK) (E : XK) (h : sp_law_closed K vs H Q E) :
    t_law_closed K { nx := fun _ H' => Q .non H', rt := Q } (start N_law_closed vs) H := by
  obtain ⟨H0, st, ns, L, W, rfl, S, hl, hW0, q⟩ := h
  obtain ⟨M, x, rfl⟩ := snoc_of (show L ≠ [] from fun e => by rw [e] at hl; simp at hl)
  have hM : M ≠ [] := fun e => by rw [e] at hl; simp at hl
  obtain ⟨L1, y, rfl⟩ := snoc_of hM
  unfold t_law_closed
  have hx : x ∈ (L1 ++ [y]) ++ [x] := List.mem_append_right _ (List.mem_singleton.mpr rfl)
  have hy0 : y ∈ L1 ++ [y] := List.mem_append_right _ (List.mem_singleton.mpr rfl)
  have hxk : x.kd ≠ 0 := by
    have := S.nest (L1 ++ [y]).length x (by rw [List.getElem?_append_right (Nat.le_refl _), Nat.sub_self]; rfl)
    exact this.2.2.2 (by rw [List.length_append, List.length_singleton]; omega)
  have xok := S.ok x hx
  have xn := S.nest (L1 ++ [y]).length x (by rw [List.getElem?_append_right (Nat.le_refl _), Nat.sub_self]; rfl)
  have xrs := S.ra x hx
  have x0 := S.r0 x hx
  have nd := S.nd
  rw [List.map_append, List.nodup_append] at nd
  have rne : ∀ z ∈ L1 ++ [y], z.r ≠ x.r := fun z hz => nd.2.2 z.r (List.mem_map.mpr ⟨z, hz, rfl⟩) x.r (List.mem_map.mpr ⟨x, List.mem_singleton.mpr rfl, rfl⟩)
  obtain ⟨S1, F1⟩ := S.pop hM
  have hW : x.w ≤ W := Nat.le_trans (sum_le (List.mem_map.mpr ⟨x, hx, rfl⟩)) S.w
  have dl : (((L1 ++ [y]) ++ [x]).map fun x => V.ref x.a).dropLast = (L1 ++ [y]).map fun x => V.ref x.a := by
    rw [List.map_append, List.map_cons, List.map_nil, List.dropLast_concat]
  have lst : (((L1 ++ [y]) ++ [x]).map fun x => V.ref x.a)[(((L1 ++ [y]) ++ [x]).map fun x => V.ref x.a).length - 1]? = some (.ref x.a) := by
    rw [List.map_append (l₁ := L1 ++ [y]), List.length_append, List.getElem?_append_right (by simp only [List.length_map, List.length_singleton]; omega)]
    simp
  walk_at "go"
  refine ⟨.inl ⟨rfl, _, SqL.of S.hs⟩, ?_⟩
  refine w_pop S.hs lst ?_
  rw [dl]
  walk_at "go"
  generalize hH1 : upd H st (.lst ((L1 ++ [y]).map fun x => V.ref x.a)) = H1 at S1 F1
  obtain ⟨vf, ve, xs, G⟩ := F1
  have hf := G.f1 hxk
  have hst := S1.hs
  have hst1 : H1 x.a = some (.lst [.str (kdT x.kd), vf, .ref x.r, .bl x.sec, ve]) := G.ha
  -- the row that comes of the frame is put into the next one
  have close : ∀ (H3 : Hp) (T : Addr) (r : Rw) (vf3 ve3 : V) (zs : List V), Stk K H0 H3 st ns (L1 ++ [y]) (W - x.w) → FrIn K H3 y vf3 ve3 zs → RwAt K (SqT K) H3 (.ref T) r → r.ok ns → r.size ≤ x.w → r.nest + L1.length ≤ 8 →
      rAppend (.ref y.r) [.ref T] H3 (fun v H4 => Q .non H4) := by
    intro H3 T r vf3 ve3 zs S3 G3 hr ro rs rn
    have b1 : szs y.rows ≤ y.w := by unfold Frm.w; omega
    have b2 : y.w ≤ W - x.w := Nat.le_trans (sum_le (List.mem_map.mpr ⟨y, hy0, rfl⟩)) S3.w
    have b3 := szs_len y.rows
    have b4 := G3.hb.len
    refine w_app G3.hr (Nat.lt_of_le_of_lt (by omega : zs.length ≤ 1000) (by decide)) (q _ _ _ ((S3.row G3 hr ro rn).wle (by omega)) ?_)
    unfold mus
    rw [List.map_append, List.map_append (l₁ := L1 ++ [y]), List.map_append, List.map_cons, List.map_nil, List.map_cons, List.map_nil, List.map_cons, List.map_nil, sum_snoc, sum_snoc, sum_snoc]
    have : 1 ≤ x.mu := by unfold Frm.mu; split <;> omega
    have e : Frm.mu { y with rows := y.rows ++ [r] } = y.mu := rfl
    rw [e]
    omega
  have xl : L1.length + 1 + nests x.rows ≤ 8 := by have := xn.1; rw [List.length_append, List.length_singleton] at this; omega
  have yl : L1.length + 2 ≤ 8 := by have := S.len.2; simp only [List.length_append, List.length_singleton] at this; omega
  have j1 : ∀ (H3 : Hp) (xs3 : List V) (rows3 : List Rw), Stk K H0 H3 st ns (L1 ++ [y]) (W - x.w) → H3 x.a = some (.lst [.str "while", vf, .ref x.r, .bl x.sec, ve]) → H3 x.r = some (.lst xs3) → BkAt K (SqT K) H3 xs3 rows3 → FmAt K H3 vf x.f → oks ns rows3 →
      szs rows3 ≤ szs x.rows + 1 → nests rows3 ≤ max (nests x.rows) 1 → t_law_closed_j1 K { nx := fun _ H' => Q .non H', rt := Q } [some (.ref st), some (.ref x.a)] H3 := by
    intro H3 xs3 rows3 S3 h1 h2 h3 h4 h5 h6 h7
    unfold t_law_closed_j1
    obtain ⟨vf3, ve3, zs, G3⟩ := S3.fr y hy0
    have hst3 := S3.hs
    have gy := G3.ha
    have gr := G3.hr
    walk_at "go"
    refine w_ixL (SqL.of hst3) at_last ?_
    walk_at "go"
    refine w_tupL (SqL.of h2) (fun t1 ht1 => ?_)
    walk_at "go"
    refine w_new (by walk_at "sz") (fun T hT => ?_)
    have e1 := same_new (o := .tup xs3) ht1
    have e12 := e1.trans (same_new (o := .tup [.str "while", vf, .ref t1]) hT)
    refine close _ T (.whl x.f rows3) vf3 ve3 zs (S3.mono e12) (G3.moves (SameT.of e12) ((e12 _ _ gy).trans gy.symm) ((e12 _ _ gr).trans gr.symm))
      (.whl (SqT.of upd_same) (h4.mono e12) (sameT_t (SameT.of (same_new hT)) (SqT.of upd_same)) (h3.monoT (SameT.of e12))) ⟨xok.2.1 hxk, h5⟩ ?_ ?_
    · show 1 + szs rows3 ≤ szs x.rows + elSz x.els + 2
      omega
    · show 1 + nests rows3 + L1.length ≤ 8
      omega
  have other : ∀ (H2 : Hp) (xs2 xs3 : List V) (l : List Rw), Stk K H0 H2 st ns (L1 ++ [y]) (W - x.w) → H2 x.r = some (.lst xs2) → BkAt K (SqT K) H2 xs2 l → Stk K H0 (upd H2 x.r (.lst xs3)) st ns (L1 ++ [y]) (W - x.w) := fun H2 xs2 xs3 l S2 h hb =>
    S2.other x0 h xrs (fun z hz => (S2.fr z hz).ne h hb) rne
  rcases Nat.lt_or_ge x.kd 2 with k2 | k2
  · -- an if
    have k1 : x.kd = 1 := by omega
    have hk1 : kdT x.kd = "if" := by rw [k1] <;> rfl
    rw [hk1] at hst1
    have gxr := G.hr
    cases hel : x.els with
    | none =>
      have hve : ve = .non := by have := G.he; rw [hel] at this; exact this
      subst hve
      walk_at "go"
      refine w_new (by walk_at "sz") (fun r' hr' => ?_)
      have e1 := same_new (o := .lst []) hr'
      have a1 := e1 _ _ hst1
      have g1 := e1 _ _ gxr
      have r1 : upd H1 r' (.lst []) r' = _ := upd_same
      generalize upd H1 r' (.lst []) = H2 at e1 a1 g1 r1
      walk_at "go"
      refine w_tupL (SqL.of g1) (fun t1 ht1 => ?_)
      have e2 := same_new (o := .tup xs) ht1
      have t2 : upd H2 t1 (.tup xs) t1 = _ := upd_same
      have r2 := e2 _ _ r1
      generalize upd H2 t1 (.tup xs) = H3 at e2 t2 r2
      walk_at "go"
      refine w_new (by walk_at "sz") (fun F hF => ?_)
      have e3 := same_new (o := .lst [.str "if", vf, .ref r', .bl x.sec, .ref t1]) hF
      have f3 : upd H3 F (.lst [.str "if", vf, .ref r', .bl x.sec, .ref t1]) F = _ := upd_same
      have r3 := e3 _ _ r2
      have t3 := sameT_t (K := K) (SameT.of e3) (SqT.of t2)
      generalize upd H3 F (.lst [.str "if", vf, .ref r', .bl x.sec, .ref t1]) = H4 at e3 f3 r3 t3
      have e14 := e1.trans (e2.trans e3)
      have S4 := S1.mono e14
      have P := S4.push (x := { x with a := F, r := r', rows := [], els := some x.rows }) ⟨vf, .ref t1, [], by show H4 F = some (.lst [.str (kdT x.kd), vf, .ref r', .bl x.sec, .ref t1]); rw [hk1]; exact f3, r3, .nil, fun c => absurd (show x.kd = 0 from c) hxk, fun _ => hf.mono e14, t1, xs, rfl, t3, G.hb.monoT (SameT.of e14)⟩
        (none_of S1.same hr') (ne_of_none hst hr').symm (fun z hz => by obtain ⟨_, _, _, Gz⟩ := S1.fr z hz; exact ne_of_none Gz.hr hr') hxk ⟨trivial, xok.2.1, fun b hb => by rw [← Option.some.inj hb]; exact xok.1⟩
        (by rw [List.length_append, List.length_singleton]; omega) (by rw [List.length_append, List.length_singleton]; show 0 + _ ≤ 8; omega) (fun b hb => by rw [← Option.some.inj hb, List.length_append, List.length_singleton]; omega)
      have xw : x.w = szs x.rows + 2 := by unfold Frm.w; rw [hel]; show szs x.rows + 0 + 2 = _; omega
      have xw' : Frm.w { x with a := F, r := r', rows := [], els := some x.rows } = szs x.rows + 2 := by show 0 + szs x.rows + 2 = _; omega
      refine w_app S4.hs (Nat.lt_of_le_of_lt (by rw [List.length_map, List.length_append, List.length_singleton]; omega : _ ≤ 8) (by decide)) (q _ _ _ (P.wle (by omega)) ?_)
      unfold mus
      rw [List.map_append, List.map_append (l₂ := [x]), List.map_cons, List.map_nil, List.map_cons (a := x), List.map_nil, sum_snoc, sum_snoc]
      have m1 : x.mu = 2 := by unfold Frm.mu; rw [if_pos ⟨k1, hel⟩]
      have m2 : Frm.mu { x with a := F, r := r', rows := [], els := some x.rows } = 1 := by unfold Frm.mu; rw [if_neg (fun c => nomatch c.2)]
      omega
    | some b =>
      obtain ⟨p, ys, rfl, hp, hpb⟩ : ElAt K H1 ve (some b) := by have := G.he; rw [hel] at this; exact this
      obtain ⟨vf3, ve3, zs, G3⟩ := S1.fr y hy0
      have gy := G3.ha
      have gr := G3.hr
      walk_at "go"
      refine w_ixL (SqL.of hst) at_last ?_
      walk_at "go"
      refine w_tupL (SqL.of gxr) (fun t1 ht1 => ?_)
      walk_at "go"
      refine w_new (by walk_at "sz") (fun T hT => ?_)
      have e1 := same_new (o := .tup xs) ht1
      have e12 := e1.trans (same_new (o := .tup [.str "if", vf, .ref p, .ref t1]) hT)
      have bn := xn.2.1 b hel
      rw [List.length_append, List.length_singleton] at bn
      have xw : x.w = szs x.rows + szs b + 2 := by unfold Frm.w; rw [hel] <;> rfl
      refine close _ T (.ite x.f b x.rows) vf3 ve3 zs (S1.mono e12) (G3.moves (SameT.of e12) ((e12 _ _ gy).trans gy.symm) ((e12 _ _ gr).trans gr.symm))
        (.ite (SqT.of upd_same) (hf.mono e12) (sameT_t (SameT.of e12) hp) (hpb.monoT (SameT.of e12)) (sameT_t (SameT.of (same_new hT)) (SqT.of upd_same)) (G.hb.monoT (SameT.of e12))) ⟨xok.2.1 hxk, xok.2.2 b hel, xok.1⟩ ?_ ?_
      · show 1 + (szs b + szs x.rows) ≤ x.w
        omega
      · show 1 + max (nests b) (nests x.rows) + L1.length ≤ 8
        omega
  · -- a while
    have hk : kdT x.kd = "while" := by
      match h : x.kd with
      | 0 => rw [h] at k2; omega
      | 1 => rw [h] at k2; omega
      | _ + 2 => rfl
    rw [hk] at hst1
    have gxr := G.hr
    have base := j1 H1 xs x.rows S1 hst1 gxr G.hb hf xok.1 (by omega) (by omega)
    -- name < ..: one more row
    cases hx1 : x.f with
    | num i =>
      rw [hx1] at hf
      cases hf with
      | num hq => walk_at "go"; exact base
    | nam i =>
      rw [hx1] at hf
      cases hf with
      | nam hq => walk_at "go"; exact base
    | op s f1 f2 =>
      have hff := hf
      rw [hx1] at hf
      cases hf with
      | op hq hu hv =>
        walk_at "go"
        refine w_two (fun c1 => ?_) (fun c1 => ?_)
        · cases hu with
          | num hq1 => walk_at "go"; exact base
          | @op pu s2 u1 v1 g1 g2 hq1 hu1 hv1 =>
            have sn := sg_nam s2
            walk_at "go"
            exact base
          | @nam pu z hq1 =>
            walk_at "go"
            refine w_new (by walk_at "sz") (fun n1 hn1 => ?_)
            walk_at "go"
            refine w_new (by walk_at "sz") (fun n2 hn2 => ?_)
            walk_at "go"
            refine w_new (by walk_at "sz") (fun n3 hn3 => ?_)
            have d1 := same_new (o := .tup [.str "number", .int 1]) hn1
            have d2 := same_new (o := .tup [.str "+", .ref pu, .ref n1]) hn2
            have d3 := same_new (o := .tup [.str "set", .str z, .ref n2]) hn3
            have d13 := d1.trans (d2.trans d3)
            have y3 := SqT.of (K := K) (upd_same (H := upd (upd H1 n1 (.tup [.str "number", .int 1])) n2 (.tup [.str "+", .ref pu, .ref n1])) (a := n3) (o := .tup [.str "set", .str z, .ref n2]))
            have y2 := same_t d3 (SqT.of (K := K) (upd_same (H := upd H1 n1 (.tup [.str "number", .int 1])) (a := n2) (o := .tup [.str "+", .ref pu, .ref n1])))
            have y1 := same_t (d2.trans d3) (SqT.of (K := K) (upd_same (H := H1) (a := n1) (o := .tup [.str "number", .int 1])))
            generalize upd (upd (upd H1 n1 (.tup [.str "number", .int 1])) n2 (.tup [.str "+", .ref pu, .ref n1])) n3 (.tup [.str "set", .str z, .ref n2]) = H4 at d13 y1 y2 y3
            have g4 := d13 _ _ gxr
            have hz : z ∈ ns := by have := (xok.2.1 hxk).1; rw [hx1] at this; exact this.1
            have b1 : szs x.rows ≤ x.w := by unfold Frm.w; omega
            have b3 := szs_len x.rows
            have b4 := G.hb.len
            have xne := FrAt.ne ⟨_, ve, xs, G⟩ G.hr G.hb
            have hr4 : RwAt K (SqT K) H4 (.ref n3) (.set z (.op .add (.nam z) (.num 1))) := .set y3 (.op (s := .add) y2 (.nam (same_t d13 hq1)) (.num y1))
            have eT : SameT H4 (upd H4 x.r (.lst (xs ++ [.ref n3]))) := SameT.upd g4 rfl
            have eT1 := (SameT.of d13).trans eT
            walk_at "go"
            refine w_app g4 (Nat.lt_of_le_of_lt (by omega : xs.length ≤ 1000) (by decide)) ?_
            refine j1 _ (xs ++ [.ref n3]) (x.rows ++ [.set z (.op .add (.nam z) (.num 1))]) (other H4 xs _ x.rows (S1.mono d13) g4 (G.hb.monoT (SameT.of d13))) ((upd_ne xne).trans (d13 _ _ hst1)) upd_same ((G.hb.monoT eT1).app (BkAt.one (hr4.monoT eT)))
              (by rw [hx1]; rw [hx1] at hff; exact hff.monoT eT1) (oks_app (b := [.set z (.op .add (.nam z) (.num 1))]) xok.1 ⟨⟨hz, ⟨⟨hz, by decide, by decide⟩, show 2 ≤ 12 from by decide⟩⟩, trivial⟩) ?_ ?_
            · rw [szs_app]; exact Nat.le_refl _
            · rw [nests_app]; exact Nat.le_refl _
        · walk_at "go"
          exact base
local macro_rules | `(tactic| walk_at "pv") => `(tactic| (intro Qp qp; walk_at "go"; exact qp))
theorem root_ok : PyData.strOk ("" : Str) = true := by decide +kernel
theorem kdT_ok (k : Nat) : PyData.strOk (kdT k) = true := by
  match k with
  | 0 => exact root_ok
  | 1 => exact if_ok
  | _ + 2 => exact while_ok
theorem frs_dp {K : PySem.W.Frag} {H : Hp} {ns : List Str} (hn : ∀ x ∈ ns, Nm x) : ∀ {L : List Frm}, (∀ x ∈ L, FrAt K H x) → (∀ x ∈ L, oks ns x.rows ∧ (x.kd ≠ 0 → x.f.fine ns) ∧ ∀ b, x.els = some b → oks ns b) → (∀ x ∈ L, nests x.rows ≤ 8 ∧ ∀ b, x.els = some b → nests b ≤ 8) →
    ∃ ds, DpAll K H (L.map fun x => .ref x.a) ds ∧ ∀ d ∈ ds, Dk d 40
  | [], _, _, _ => ⟨[], .nil, dk_nil⟩
  | x :: L, h1, h2, h3 => by
    obtain ⟨ds, i1, i2⟩ := frs_dp hn (L := L) (fun y hy => h1 y (List.mem_cons_of_mem _ hy)) (fun y hy => h2 y (List.mem_cons_of_mem _ hy)) fun y hy => h3 y (List.mem_cons_of_mem _ hy)
    obtain ⟨vf, ve, xs, G⟩ := h1 x List.mem_cons_self
    have o := h2 x List.mem_cons_self
    have n := h3 x List.mem_cons_self
    have df : ∃ d, Dp K H vf d ∧ Dk d 30 := by
      rcases Nat.eq_zero_or_pos x.kd with k | k
      · rw [G.f0 k]; exact ⟨_, .non, Dk.non⟩
      · have c : x.kd ≠ 0 := by omega
        have q := o.2.1 c
        exact ⟨_, (G.f1 c).dp, (Fm.dk hn q.1).mono (Nat.le_trans q.2 (by decide))⟩
    have de : ∃ d, Dp K H ve d ∧ Dk d 30 := by
      have he := G.he
      cases e : x.els with
      | none => rw [e] at he; rw [show ve = .non from he]; exact ⟨_, .non, Dk.non⟩
      | some b =>
        rw [e] at he
        obtain ⟨p, ys, rfl, hp, hb⟩ := he
        exact ⟨_, .tup hp (hb.dp tupB), Dk.tup fun d hd => (pds_dk hn tupD (o.2.2 b e) d hd).mono (by have := n.2 b e; omega)⟩
    obtain ⟨d1, f1, f2⟩ := df
    obtain ⟨d2, g1, g2⟩ := de
    exact ⟨_, .cons (.lst (SqL.of G.ha) (.cons (.str _) (.cons f1 (.cons (.lst (SqL.of G.hr) (G.hb.dp tupB)) (.cons (.bl _) (.cons g1 .nil)))))) i1,
      dk_cons (Dk.list (k := 39) (dk_cons (Dk.str (kdT_ok _)) (dk_cons (f2.mono (by decide)) (dk_cons ((Dk.list fun d hd => (pds_dk hn tupD o.1 d hd)).mono (by have := n.1; omega)) (dk_cons Dk.bl (dk_cons (g2.mono (by decide)) dk_nil)))))) i2⟩
theorem sl5 {ns : List Str} : cutV (ns.map V.str) none (some 5) = (ns.take 5).map V.str ∧ cutV (ns.map V.str) (some 5) none = (ns.drop 5).map V.str := ⟨cut_lo (k := 5), cut_hi (k := 5)⟩
theorem pure_law_put (K : PySem.W.Frag) (vs : List V) (H : Hp) (Q : VK) (E : XK) (h : sp_law_put K vs H Q E) :
    t_law_put K { nx := fun _ H' => Q .non H', rt := Q } (start N_law_put vs) H := by
  obtain ⟨H0, st, a, ns, L, W, m, o, rfl, S, hA, hT, o0, o2, hW, q⟩ := h
  have hne : L ≠ [] := fun e => by have := S.len.1; rw [e] at this; simp at this
  have lst_put : ∀ (M : List Frm) (x : Frm), L = M ++ [x] → ∀ (H7 : Hp) (T : Addr) (r : Rw), Stk K H0 H7 st ns L W → RwAt K (SqT K) H7 (.ref T) r → r.ok ns → r.nest = 1 → r.size = 1 → ∀ vf ve xs, FrIn K H7 x vf ve xs → rAppend (.ref x.r) [.ref T] H7 (fun _ H8 => Q .non H8) := by
    rintro M x rfl H7 T r S7 hr ro rn rs vf ve xs G
    have b1 : szs x.rows ≤ x.w := by unfold Frm.w; omega
    have b2 : x.w ≤ W := Nat.le_trans (sum_le (List.mem_map.mpr ⟨x, List.mem_append_right _ (List.mem_singleton.mpr rfl), rfl⟩)) S7.w
    have b3 := szs_len x.rows
    have b4 := G.hb.len
    have ml := S7.len.2
    rw [List.length_append, List.length_singleton] at ml
    exact w_app G.hr (Nat.lt_of_le_of_lt (by omega : xs.length ≤ 1000) (by decide)) (q _ _ _ ((S7.row G hr ro (by omega)).wle (by omega)))
  have push : ∀ (H7 : Hp) (kd : Nat) (u : V) (f : Fm) (b : Bool) (r F : Addr), Stk K H0 H7 st ns L W → FmAt K H7 u f → f.fine ns → kd ≠ 0 → L.length < 8 → H7 r = none → upd H7 r (.lst []) F = none →
      rAppend (.ref st) [.ref F] (upd (upd H7 r (.lst [])) F (.lst [.str (kdT kd), u, .ref r, .bl b, .non])) (fun _ H8 => Q .non H8) := by
    intro H7 kd u f b r F S7 hf ff hk hl hr hF
    have e1 := same_new (o := .lst []) hr
    have e2 := same_new (o := .lst [.str (kdT kd), u, .ref r, .bl b, .non]) hF
    have S9 := S7.mono (e1.trans e2)
    have P := S9.push (x := ⟨F, r, kd, f, [], b, none⟩) ⟨u, .non, [], upd_same, e2 _ _ upd_same, .nil, fun c => absurd c hk, fun _ => hf.mono (e1.trans e2), rfl⟩
      (none_of S7.same hr) (ne_of_none S7.hs hr).symm (fun z hz => by obtain ⟨_, _, _, Gz⟩ := S7.fr z hz; exact ne_of_none Gz.hr hr) hk ⟨trivial, fun _ => ff, fun b hb => nomatch hb⟩ hl (by show 0 + L.length ≤ 8; omega) (fun b hb => nomatch hb)
    exact w_app S9.hs (Nat.lt_of_le_of_lt (by rw [List.length_map]; omega : _ ≤ 8) (by decide)) (q _ _ _ (P.wle (Nat.le_refl _)))
  unfold t_law_put
  walk_at "go"
  refine w_lc ?_
  walk_at "go"
  refine w_isL (SqL.of S.hs) (fun D hD => ?_)
  refine lc_filter (ys := L) (fun x => x.sec) (fun x => .ref x.a) (SqL.of S.hs) (Nat.le_trans S.len.2 (by decide)) hD ?_ ?_
  · rintro x H5 Nx hx e5 ⟨zs, hzs⟩ yes no
    refine ⟨rfl, ?_⟩
    obtain ⟨vf, ve, xs, G⟩ := (S.mono e5).fr x hx
    have ga := G.ha
    walk_at "go"
    refine w_two (fun c => ?_) (fun c => ?_)
    · walk_at "go"
      exact yes c _ (Same.refl _)
    · exact no c _ (Same.refl _)
  · intro H5 e5 hD5
    walk_at "go"
    refine w_new (by walk_at "sz") (fun p hp => ?_)
    have e6 := e5.trans (same_new (o := .lst []) hp)
    have S6 := S.mono e6
    obtain ⟨ds, dd, dk⟩ := frs_dp hT.nm (L := L.filter fun x => x.sec) (fun x hx => S6.fr x (List.mem_filter.mp hx).1) (fun x hx => S6.ok x (List.mem_filter.mp hx).1) (fun x hx => by
      obtain ⟨i, hi⟩ := List.getElem?_of_mem (List.mem_filter.mp hx).1
      have := S6.nest i x hi
      exact ⟨by omega, fun b hb => by have := this.2.1 b hb; omega⟩)
    refine w_neD (.lst (SqL.of ((same_new hp) _ _ hD5)) dd) (.lst (SqL.of upd_same) .nil) ((Dk.list dk).shaped (by decide)) ((Dk.list (k := 0) dk_nil).shaped (by decide)) ?_
    generalize (!PyData.eqv (.list ds) (.list [])) = d
    generalize upd H5 p (.lst []) = H6 at e6 S6
    walk_at "go"
    refine ⟨a, ns, m, d, o, rfl, same_l S6.same hA, hT, fun p1 H7 u f b e7 hp1 hf ho hd => ?_⟩
    have S7 := S6.mono e7
    have hA7 := same_l S7.same hA
    have ff : f.fine ns := ⟨ho, by omega⟩
    obtain ⟨M, x, hLx⟩ := snoc_of hne
    have hst : H7 st = some (.lst ((M ++ [x]).map fun x => V.ref x.a)) := by rw [← hLx]; exact S7.hs
    have hxL : x ∈ L := by rw [hLx]; exact List.mem_append_right _ (List.mem_singleton.mpr rfl)
    obtain ⟨vf, ve, xs, G⟩ := S7.fr x hxL
    have ga := G.ha
    have gr := G.hr
    have j1 : ∀ (way : Int) (sh : Bool) (H8 : Hp) (z : Addr) (zs : List Str), Same H7 H8 → SqL K H8 z (zs.map V.str) → List.Sublist zs ns → 0 < zs.length →
        t_law_put_j1 K { nx := fun _ H' => Q .non H', rt := Q } [some (.ref st), some (.ref a), some (.int m), some (.int o), some (.int way), some (.bl d), none, some u, some (.bl b), some (.bl sh), some (.ref z)] H8 := by
      intro way sh H8 z zs e8 hz sl pos
      unfold t_law_put_j1
      have ga8 := e8 _ _ ga
      have gr8 := e8 _ _ gr
      walk_at "go"
      refine w_ixL (SqL.of (e8 _ _ hst)) at_last ?_
      walk_at "go"
      have pm : (0 : Int) < ((zs.map V.str).length : Nat) := by rw [List.length_map]; omega
      refine w_mod pm ?_
      have mm := mod_in (m / 96) pm
      rw [List.length_map] at mm
      obtain ⟨y, ym, _, hy⟩ := at_map (f := V.str) (xs := zs) mm.1 mm.2
      refine w_ixL hz (by rw [List.length_map]; exact hy) ?_
      walk_at "go"
      refine w_new (by walk_at "sz") (fun T hT1 => ?_)
      have e9 := e8.trans (same_new (o := .tup [.str "set", .str y, u]) hT1)
      exact lst_put M x hLx _ T (.set y f) (S7.mono e9) (.set (SqT.of upd_same) (hf.mono e9)) ⟨sl.subset ym, ff⟩ rfl rfl vf ve xs (G.moves (SameT.of e9) ((e9 _ _ ga).trans ga.symm) ((e9 _ _ gr).trans gr.symm))
    have j3 : ∀ (way : Int) (sh : Bool) (w10 : Unit) (H8 : Hp), Same H7 H8 → t_law_put_j3 K { nx := fun _ H' => Q .non H', rt := Q } [some (.ref st), some (.ref a), some (.int m), some (.int o), some (.int way), some (.bl d), none, some u, some (.bl b), some (.bl sh), none] H8 := by
      intro way sh _ H8 e8
      unfold t_law_put_j3
      have S8 := S7.mono e8
      have hA8 := same_l S8.same hA
      have ga8 := e8 _ _ ga
      have gr8 := e8 _ _ gr
      have hst8 := e8 _ _ hst
      have hf8 := hf.mono e8
      have hlen : ((M ++ [x]).map fun x => V.ref x.a).length = L.length := by rw [hLx, List.length_map]
      walk_at "go"
      refine w_two (fun _ => ?_) (fun _ => ?_)
      · walk_at "go"
        refine w_slL hA8 (fun p2 hp2 => ?_)
        rw [sl5.1]
        have f1 := same_new (o := .lst ((ns.take 5).map V.str)) hp2
        have q2 : upd H8 p2 (.lst ((ns.take 5).map V.str)) p2 = _ := upd_same
        generalize upd H8 p2 (.lst ((ns.take 5).map V.str)) = H9 at f1 q2
        have hA9 := same_l f1 hA8
        walk_at "go"
        refine w_slL hA9 (fun p3 hp3 => ?_)
        rw [sl5.2]
        have f2 := same_new (o := .lst ((ns.drop 5).map V.str)) hp3
        have q3 : upd H9 p3 (.lst ((ns.drop 5).map V.str)) p3 = _ := upd_same
        have q23 := f2 _ _ q2
        generalize upd H9 p3 (.lst ((ns.drop 5).map V.str)) = H10 at f2 q3 q23
        walk_at "go"
        refine w_new (by walk_at "sz") (fun p4 hp4 => ?_)
        have f3 := same_new (o := .lst [.ref p2, .ref p3]) hp4
        have q4 : upd H10 p4 (.lst [.ref p2, .ref p3]) p4 = _ := upd_same
        have q33 := f3 _ _ q3
        have q24 := f3 _ _ q23
        generalize upd H10 p4 (.lst [.ref p2, .ref p3]) = H11 at f3 q4 q33 q24
        walk_at "go"
        have pick : ∃ (w : Addr) (ws : List Str), atI [V.ref p2, V.ref p3] (if decide (m / 7 % 4 = 3) = true then 1 else 0) = some (.ref w) ∧ H11 w = some (.lst (ws.map V.str)) ∧ List.Sublist ws ns ∧ 0 < ws.length := by
          cases decide (m / 7 % 4 = 3) with
          | true => exact ⟨p3, _, rfl, q33, List.drop_sublist _ _, by rw [List.length_drop, hT.len]; decide⟩
          | false => exact ⟨p2, _, rfl, q24, List.take_sublist _ _, by rw [List.length_take, hT.len]; decide⟩
        obtain ⟨w, ws, hw1, hw2, hw3, hw4⟩ := pick
        refine w_ixL (SqL.of q4) hw1 ?_
        walk_at "go"
        refine w_new (by walk_at "sz") (fun p5 hp5 => ?_)
        have f4 := same_new (o := .lst [.ref a, .ref a, .ref w]) hp5
        have q5 : upd H11 p5 (.lst [.ref a, .ref a, .ref w]) p5 = _ := upd_same
        have hw5 := f4 _ _ hw2
        generalize upd H11 p5 (.lst [.ref a, .ref a, .ref w]) = H12 at f4 q5 hw5
        have f14 : Same H8 H12 := f1.trans (f2.trans (f3.trans f4))
        have hA12 := same_l f14 hA8
        have pick2 : ∃ (z : Addr) (zs : List Str), atI [V.ref a, V.ref a, V.ref w] o = some (.ref z) ∧ SqL K H12 z (zs.map V.str) ∧ List.Sublist zs ns ∧ 0 < zs.length := by
          have c : o = 0 ∨ o = 1 ∨ o = 2 := by omega
          rcases c with rfl | rfl | rfl
          · exact ⟨a, ns, rfl, hA12, List.Sublist.refl _, by rw [hT.len]; decide⟩
          · exact ⟨a, ns, rfl, hA12, List.Sublist.refl _, by rw [hT.len]; decide⟩
          · exact ⟨w, ws, rfl, SqL.of hw5, hw3, hw4⟩
        obtain ⟨z, zs, hz1, hz2, hz3, hz4⟩ := pick2
        walk_at "go"
        refine w_ixL (SqL.of q5) hz1 ?_
        walk_at "go"
        cases sh with
        | true =>
          walk_at "go"
          refine w_slL hA12 (fun p6 hp6 => ?_)
          rw [sl5.2]
          walk_at "go"
          exact j1 way true _ p6 (ns.drop 5) (e8.trans (f14.trans (same_new hp6))) (SqL.of upd_same) (List.drop_sublist _ _) (by rw [List.length_drop, hT.len]; decide)
        | false =>
          walk_at "go"
          exact j1 way false _ z zs (e8.trans f14) hz2 hz3 hz4
      · refine w_if (w_andP (c := decide (way = 4)) (d := !sh) (by walk_at "pv") (by walk_at "pv") ?_)
        refine w_two (fun _ => ?_) (fun _ => ?_)
        · walk_at "go"
          refine w_ixL (SqL.of hst8) at_last ?_
          walk_at "go"
          refine w_new (by walk_at "sz") (fun T hT1 => ?_)
          have e9 := e8.trans (same_new (o := .tup [.str "tell", u]) hT1)
          exact lst_put M x hLx _ T (.tell f) (S7.mono e9) (.tell (SqT.of upd_same) (hf.mono e9)) ff rfl rfl vf ve xs (G.moves (SameT.of e9) ((e9 _ _ ga).trans ga.symm) ((e9 _ _ gr).trans gr.symm))
        walk_at "go"
        refine w_two (fun _ => ?_) (fun _ => ?_)
        · walk_at "go"
          refine w_ixL (SqL.of hst8) at_last ?_
          walk_at "go"
          refine w_new (by walk_at "sz") (fun T hT1 => ?_)
          have e9 := e8.trans (same_new (o := .tup [.str "skip"]) hT1)
          exact lst_put M x hLx _ T .skip (S7.mono e9) (.skip (SqT.of upd_same)) trivial rfl rfl vf ve xs (G.moves (SameT.of e9) ((e9 _ _ ga).trans ga.symm) ((e9 _ _ gr).trans gr.symm))
        refine w_if (w_andP (c := decide (way < 8)) (d := decide ((((M ++ [x]).map fun x => V.ref x.a).length : Int) < 8)) (by walk_at "pv") (by walk_at "pv") ?_)
        refine w_two (fun c => ?_) (fun _ => ?_)
        · have c := of_decide_eq_true (Bool.and_eq_true_iff.mp c).2
          rw [hlen] at c
          walk_at "go"
          refine w_new (by walk_at "sz") (fun r' hr' => ?_)
          walk_at "go"
          refine w_new (by walk_at "sz") (fun F hF => ?_)
          walk_at "go"
          exact push H8 1 u f b r' F S8 hf8 ff (by decide) (by omega) hr' hF
        refine w_if (w_andP (c := decide (way < 10)) (d := decide ((((M ++ [x]).map fun x => V.ref x.a).length : Int) < 8) && !sh) (by walk_at "pv") (fun Qp qp => w_andP (by walk_at "pv") (by walk_at "pv") qp) ?_)
        refine w_two (fun c => ?_) (fun _ => ?_)
        · have c := of_decide_eq_true (Bool.and_eq_true_iff.mp (Bool.and_eq_true_iff.mp c).2).1
          rw [hlen] at c
          have j2 : ∀ (H9 : Hp) (u' : V) (f' : Fm), Same H8 H9 → FmAt K H9 u' f' → f'.fine ns →
              t_law_put_j2 K { nx := fun _ H' => Q .non H', rt := Q } [some (.ref st), some (.ref a), some (.int m), some (.int o), some (.int way), some (.bl d), none, some u', some (.bl b), some (.bl sh), none] H9 := by
            intro H9 u' f' e9 hf9 ff9
            unfold t_law_put_j2
            have S9 := S8.mono e9
            have hst9 := e9 _ _ hst8
            walk_at "go"
            refine w_new (by walk_at "sz") (fun r' hr' => ?_)
            walk_at "go"
            refine w_new (by walk_at "sz") (fun F hF => ?_)
            walk_at "go"
            exact push H9 2 u' f' b r' F S9 hf9 ff9 (by decide) (by omega) hr' hF
          refine w_seq (w_if (w_andP (c := decide (o = 0)) (d := decide (0 < m / 96 % 4)) (by walk_at "pv") (by walk_at "pv") ?_))
          refine w_two (fun _ => ?_) (fun _ => ?_)
          · walk_at "go"
            have m5 := mod_in (m / 384) (show (0 : Int) < 5 by decide)
            have m4 := mod_in (m / 1920) (show (0 : Int) < 4 by decide)
            obtain ⟨y, ym, _, hy⟩ := at_map (f := V.str) (xs := ns) m5.1 (by rw [hT.len]; omega)
            refine w_ixL hA8 hy ?_
            walk_at "go"
            refine w_new (by walk_at "sz") (fun n1 hn1 => ?_)
            walk_at "go"
            refine w_new (by walk_at "sz") (fun n2 hn2 => ?_)
            walk_at "go"
            refine w_new (by walk_at "sz") (fun n3 hn3 => ?_)
            walk_at "go"
            have d1 := same_new (o := .tup [.str "name", .str y]) hn1
            have d2 := same_new (o := .tup [.str "number", .int (1 + m / 1920 % 4)]) hn2
            have d3 := same_new (o := .tup [.str "<", .ref n1, .ref n2]) hn3
            exact j2 _ _ (.op .lt (.nam y) (.num (1 + m / 1920 % 4))) (d1.trans (d2.trans d3)) (.op (s := .lt) (SqT.of upd_same) (.nam (same_t (d2.trans d3) (SqT.of upd_same))) (.num (same_t d3 (SqT.of upd_same)))) ⟨⟨ym, by omega, by omega⟩, show 2 ≤ 12 from by decide⟩
          · walk_at "go"
            exact j2 H8 u f (Same.refl _) hf8 ff
        walk_at "go"
        refine w_two (fun c => ?_) (fun _ => ?_)
        · have c := of_decide_eq_true c
          rw [hlen] at c
          walk_at "go"
          exact ⟨H0, st, ns, L, W, rfl, S8, by omega, hW, fun v H9 L' S9 _ => q _ _ _ (S9.wle (by omega))⟩
        · walk_at "go"
          exact q _ _ _ (S8.wle (by omega))
    walk_at "go"
    have sh : ∀ (s : Bool), tSeq (tIfS (tTest (tOp (rEq2 K) (tVar 3) (tC (.int 2)))) (tAsg (tOp (rIx K) (tLst (tCons (tC (.int 0)) (tCons (tC (.int 4)) (tCons (tC (.int 8)) (tCons (tC (.int 0)) tNil))))) (tOp rMod (tOp rDiv (tVar 2) (tC (.int 7))) (tC (.int 4)))) (gName 4)) tNext) (t_law_put_j3 K) { nx := fun _ H' => Q .non H', rt := Q }
        [some (.ref st), some (.ref a), some (.int m), some (.int o), some (.int (m % 12)), some (.bl d), none, some u, some (.bl b), some (.bl s), none] H7 := by
      intro s
      walk_at "go"
      refine w_two (fun _ => ?_) (fun _ => ?_)
      · walk_at "go"
        refine w_new (by walk_at "sz") (fun p5 hp5 => ?_)
        walk_at "go"
        have m4 := mod_in (m / 7) (show (0 : Int) < 4 by decide)
        obtain ⟨z, zm, _, hz⟩ := at_map (f := V.int) (xs := [0, 4, 8, 0]) m4.1 m4.2
        refine w_ixL (SqL.of upd_same) hz ?_
        exact j3 z s () _ (same_new hp5)
      · walk_at "go"
        exact j3 (m % 12) s () H7 (Same.refl _)
    refine w_two (fun _ => ?_) (fun _ => ?_)
    · walk_at "go"
      cases d with
      | true => walk_at "go1"; exact sh _
      | false => walk_at "go1"; walk_at "go1"; exact sh _
    · exact sh _
theorem Stk.init {K : PySem.W.Frag} {H H' : Hp} {ns : List Str} {st a r : Addr} (f : Fm) (e : Same H H') (s0 : H st = none) (r0 : H r = none) (rs : r ≠ st) (hs : H' st = some (.lst [.ref a])) (ha : H' a = some (.lst [.str "", .non, .ref r, .bl false, .non])) (hr : H' r = some (.lst [])) :
    Stk K H H' st ns [⟨a, r, 0, f, [], false, none⟩] 2 := by
  have one : ∀ x ∈ [(⟨a, r, 0, f, [], false, none⟩ : Frm)], x = ⟨a, r, 0, f, [], false, none⟩ := fun x hx => List.mem_singleton.mp hx
  refine ⟨e, s0, hs, ?_, ?_, ?_, ?_, ?_, ?_, ⟨Nat.le_refl _, show 1 ≤ 8 from by decide⟩, Nat.le_refl _⟩
  · intro x hx
    rw [one x hx]
    exact ⟨.non, .non, [], ha, hr, .nil, fun _ => rfl, fun c => absurd rfl c, rfl⟩
  · intro x hx; rw [one x hx]; exact r0
  · intro x hx; rw [one x hx]; exact rs
  · exact List.nodup_cons.mpr ⟨List.not_mem_nil, List.nodup_nil⟩
  · intro x hx
    rw [one x hx]
    exact ⟨trivial, fun c => absurd rfl c, fun b hb => nomatch hb⟩
  · intro i x hx
    cases i with
    | zero =>
      rw [← Option.some.inj hx]
      exact ⟨show 0 + 0 ≤ 8 from by decide, (fun b hb => nomatch hb), fun _ => ⟨rfl, rfl⟩, fun c => absurd c (Nat.lt_irrefl 0)⟩
    | succ i => simp at hx
theorem pure_law_block_by (K : PySem.W.Frag) (vs : List V) (H : Hp) (Q : VK) (E : XK) (h : sp_law_block_by K vs H Q E) :
    t_law_block_by K { nx := fun _ H' => Q .non H', rt := Q } (start N_law_block_by vs) H := by
  obtain ⟨c, a, cells, ns, o, rfl, hC, hcl, hA, hT, q⟩ := h
  unfold t_law_block_by
  walk_at "go"
  refine w_new (by walk_at "sz") (fun r0 hr0 => ?_)
  have e1 := same_new (o := .lst []) hr0
  have y1 : upd H r0 (.lst []) r0 = _ := upd_same
  generalize upd H r0 (.lst []) = H1 at e1 y1
  walk_at "go"
  refine w_new (by walk_at "sz") (fun a0 ha0 => ?_)
  have e2 := same_new (o := .lst [.str "", .non, .ref r0, .bl false, .non]) ha0
  have z2 : upd H1 a0 (.lst [.str "", .non, .ref r0, .bl false, .non]) a0 = _ := upd_same
  have y2 := e2 _ _ y1
  generalize upd H1 a0 (.lst [.str "", .non, .ref r0, .bl false, .non]) = H2 at e2 z2 y2
  walk_at "go"
  refine w_new (by walk_at "sz") (fun st hst => ?_)
  have e3 := same_new (o := .lst [.ref a0]) hst
  have S0 : Stk K H (upd H2 st (.lst [.ref a0])) st ns [⟨a0, r0, 0, .num 0, [], false, none⟩] 2 :=
    Stk.init (.num 0) (e1.trans (e2.trans e3)) (none_of (e1.trans e2) hst) hr0 (ne_of_none y2 hst) upd_same (e3 _ _ z2) (e3 _ _ y2)
  generalize upd H2 st (.lst [.ref a0]) = H3 at S0
  walk_at "go"
  refine ⟨c, cells.map V.int, rfl, same_l S0.same hC, for_enum (xs := cells.map V.int)
    (fun i σ H' => ∃ (L : List Frm) (w4 w5 w6 w7 : Option V), Stk K H H' st ns L (2 + 2 * i) ∧ σ = [some (.ref c), some (.ref a), some (.int o), some (.ref st), w4, w5, w6, w7])
    ⟨_, _, _, _, _, S0, rfl⟩ (fun i σ H' _ h => by obtain ⟨L, _, _, _, _, S, _⟩ := h; exact same_l S.same hC) ?_ ?_⟩
  · rintro i x σ H4 T hx hT0 ⟨L, w4, w5, w6, w7, S, rfl⟩
    have hi : i < cells.length := by have := (List.getElem?_eq_some_iff.mp hx).1; rw [List.length_map] at this; exact this
    obtain ⟨y, hy, rfl⟩ : ∃ y, cells[i]? = some y ∧ V.int y = x := by
      rw [List.getElem?_map] at hx
      cases d : cells[i]? with
      | none => rw [d] at hx; exact nomatch hx
      | some y => rw [d] at hx; exact ⟨y, rfl, Option.some.inj hx⟩
    have S5 := S.mono (same_new (o := .tup [.int (i : Nat), .int y]) hT0)
    generalize hH5 : upd H4 T (.tup [.int (i : Nat), .int y]) = H5 at S5
    have hC5 := same_l S5.same hC
    rw [← hH5]
    walk_at "go"
    rw [hH5]
    refine w_mulI (.inl ⟨by decide, by decide⟩) ?_
    walk_at "go"
    refine ⟨_, rfl, fun r1 _ _ => ?_⟩
    walk_at "go"
    refine w_mulI (.inr ⟨by omega, by omega⟩) ?_
    walk_at "go"
    refine ⟨_, rfl, fun r2 _ _ => ?_⟩
    have j1 : ∀ md : Int, 0 ≤ md → md ≤ 2 → t_law_block_by_j1 K ⟨fun σ H' => ∃ (L : List Frm) (w4 w5 w6 w7 : Option V), Stk K H H' st ns L (2 + 2 * (i + 1)) ∧ σ = [some (.ref c), some (.ref a), some (.int o), some (.ref st), w4, w5, w6, w7], Q, fun _ _ => False, fun _ _ => False⟩
        [some (.ref c), some (.ref a), some (.int o), some (.ref st), some (.int (i : Nat)), some (.int y), some (.int r2), some (.int md)] H5 := by
      intro md m0 m2
      unfold t_law_block_by_j1
      walk_at "go"
      exact ⟨H, st, a, ns, L, _, r2, md, rfl, S5, hA, hT, m0, m2, by omega, fun v H6 L' S6 => ⟨L', _, _, _, _, S6, rfl⟩⟩
    have pl : (0 : Int) < ((cells.map V.int).length : Nat) := by rw [List.length_map]; omega
    have a1 := j1 0 (by decide) (by decide)
    have a2 := j1 1 (by decide) (by decide)
    have a3 := j1 2 (by decide) (by decide)
    repeat' (first | walk_at "go1" | (refine w_two (fun _ => ?_) (fun _ => ?_)) | exact a1 | exact a2 | exact a3 | (unfold t_law_block_by_j2; skip))
  · rintro σ H4 ⟨L, w4, w5, w6, w7, S, rfl⟩
    rw [List.length_map] at S
    refine w_seq (w_while' (fun m σ H' => ∃ (L : List Frm) (w4 w5 w6 w7 : Option V), Stk K H H' st ns L (2 + 2 * cells.length) ∧ mus L = m ∧ σ = [some (.ref c), some (.ref a), some (.int o), some (.ref st), w4, w5, w6, w7]) (mus L) ⟨L, _, _, _, _, S, rfl, rfl⟩ ?_)
    rintro m σ H5 ⟨L, w4, w5, w6, w7, S, rfl, rfl⟩
    have hs5 := S.hs
    walk_at "go"
    rw [List.length_map]
    refine w_two (fun c1 => ?_) (fun c1 => ?_)
    · have c1 := of_decide_eq_true c1
      refine ⟨_, fun _ _ h => h, ?_⟩
      walk_at "go"
      exact ⟨H, st, ns, L, _, rfl, S, by omega, by omega, fun v H6 L' S6 lt => ⟨mus L', lt, L', _, _, _, _, S6, rfl, rfl⟩⟩
    · have c1 := of_decide_eq_false c1
      have l1 := S.len.1
      obtain ⟨x, rfl⟩ := list_one (show L.length = 1 by omega)
      have hx : x ∈ [x] := List.mem_singleton.mpr rfl
      obtain ⟨vf, ve, xs, G⟩ := S.fr x hx
      have hs6 : H5 st = some (.lst [.ref x.a]) := hs5
      have ga := G.ha
      walk_at "go"
      have w := S.w
      have wx : szs x.rows + elSz x.els + 2 + 0 ≤ 2 + 2 * cells.length := w
      have n := (S.nest 0 x rfl).1
      exact q x.r H5 xs x.rows S.same (S.r0 x hx) G.hr ⟨G.hb, (S.ok x hx).1, n⟩ (by omega)
def sgs : List Str := ["+", "-", "*", "/", "<", "="]
def nmB (x : Str) : Bool := decide (1 ≤ (cs x).length) && (decide ((cs x).length ≤ 8) && (!decide (x ∈ words) && ((match (cs x)[0]? with | some c => decide (c ∈ cs az) | none => false) && (cs x).all fun c => decide (c ∈ cs az) || decide (c ∈ cs n09))))
theorem az_let {c : Nat} (h : IsLet c) : c ∈ cs az := by
  rw [az_cs]
  exact List.mem_map.mpr ⟨c - 97, List.mem_range.mpr (by have := h.1; have := h.2; omega), by have := h.1; omega⟩
theorem n09_fig {c : Nat} (h : 48 ≤ c ∧ c ≤ 57) : c ∈ cs n09 := by
  rw [n09_cs]
  exact List.mem_map.mpr ⟨c - 48, List.mem_range.mpr (by omega), by omega⟩
theorem let_az {c : Nat} (h : c ∈ cs az) : IsLet c := by
  rw [az_cs] at h
  obtain ⟨i, hi, rfl⟩ := List.mem_map.mp h
  have := List.mem_range.mp hi
  exact ⟨by omega, by omega⟩
theorem fig_n09 {c : Nat} (h : c ∈ cs n09) : 48 ≤ c ∧ c ≤ 57 := by
  rw [n09_cs] at h
  obtain ⟨i, hi, rfl⟩ := List.mem_map.mp h
  have := List.mem_range.mp hi
  exact ⟨by omega, by omega⟩
theorem nm_iff {x : Str} : nmB x = true ↔ Nm x := by
  unfold nmB
  rw [Bool.and_eq_true_iff, Bool.and_eq_true_iff, Bool.and_eq_true_iff, Bool.and_eq_true_iff, List.all_eq_true]
  constructor
  · rintro ⟨h1, h2, h3, h4, h5⟩
    refine ⟨of_decide_eq_true h1, of_decide_eq_true h2, fun c hc => ?_, fun c hc => ?_, by simpa using h3⟩
    · rw [hc] at h4
      exact let_az (of_decide_eq_true h4)
    · rcases Bool.or_eq_true_iff.mp (h5 c hc) with h | h
      · exact .inl (let_az (of_decide_eq_true h))
      · exact .inr (fig_n09 (of_decide_eq_true h))
  · intro h
    refine ⟨decide_eq_true h.pos, decide_eq_true h.most, by simpa using h.nw, ?_, fun c hc => ?_⟩
    · have : 0 < (cs x).length := h.pos
      rw [List.getElem?_eq_getElem this]
      exact decide_eq_true (az_let (h.hd _ (List.getElem?_eq_getElem this)))
    · rcases h.all c hc with h | h
      · rw [decide_eq_true (az_let h), Bool.true_or]
      · rw [decide_eq_true (n09_fig h), Bool.or_true]
def SE (K : PySem.W.Frag) : SQ := fun H a xs => SqL K H a xs ∨ SqT K H a xs
theorem se_same {K : PySem.W.Frag} {H H' : Hp} (e : Same H H') {a : Addr} {xs : List V} (h : SE K H a xs) : SE K H' a xs := h.imp (same_l e) (same_t e)
theorem BkAt.monoE {K : PySem.W.Frag} {H H' : Hp} (e : Same H H') {vs : List V} {l : List Rw} (h : BkAt K (SE K) H vs l) : BkAt K (SE K) H' vs l := h.go (SameT.of e) fun _ _ => se_same e
theorem RwAt.monoE {K : PySem.W.Frag} {H H' : Hp} (e : Same H H') {v : V} {r : Rw} (h : RwAt K (SE K) H v r) : RwAt K (SE K) H' v r := h.go (SameT.of e) fun _ _ => se_same e
theorem BkAt.toE {K : PySem.W.Frag} {H : Hp} {vs : List V} {l : List Rw} (h : BkAt K (SqT K) H vs l) : BkAt K (SE K) H vs l := h.go (SameT.refl H) fun _ _ q => .inr q
theorem RwAt.toE {K : PySem.W.Frag} {H : Hp} {v : V} {r : Rw} (h : RwAt K (SqT K) H v r) : RwAt K (SE K) H v r := h.go (SameT.refl H) fun _ _ q => .inr q
def sp_is_name (K : PySem.W.Frag) : Sp := fun vs H Q _ => ∃ x : Str, vs = [.str x] ∧ x.length ≤ sizeLine ∧ Q (.bl (nmB x)) H
abbrev N_is_name : List Str := ["thing", "sign"]
def t_is_name_j1 (K : PySem.W.Frag) : TS :=
  (tSeq (tFor (iStr (tVar 0)) (gName 1) (tIfS (tAnd (tTest (tOp (rIn2 K true) (tVar 1) (tC (.str "abcdefghijklmnopqrstuvwxyz")))) (tTest (tOp (rIn2 K true) (tVar 1) (tC (.str "0123456789"))))) (tRet (tC (.bl false))) tNext)) (tRet (tC (.bl true))))
def t_is_name (K : PySem.W.Frag) : TS :=
  (tSeq (tIfS (tOr (tNot (tB (tCB (rIsi2 K) (tCons (tVar 0) (tCons (tC (.ty "str")) tNil))))) (tOr (tNot (tTest (tChain rLe rLe (tC (.int 1)) (tCB (rLenA K) (tCons (tVar 0) tNil)) (tC (.int 8))))) (tOr (tTest (tOp (rIn2 K false) (tVar 0) (tGT K (words.map V.str)))) (tTest (tOp (rIn2 K true) (tOp (rIx K) (tVar 0) (tC (.int 0))) (tC (.str "abcdefghijklmnopqrstuvwxyz"))))))) (tRet (tC (.bl false))) tNext) (t_is_name_j1 K))
local macro_rules | `(tactic| walk_at "pv") => `(tactic| (intro Qp qp; walk_at "go"; exact qp))
theorem pure_is_name (K : PySem.W.Frag) (vs : List V) (H : Hp) (Q : VK) (E : XK) (h : sp_is_name K vs H Q E) :
    t_is_name K { nx := fun _ H' => Q .non H', rt := Q } (start N_is_name vs) H := by
  obtain ⟨x, rfl, hz, q⟩ := h
  have hl : ((x.length : Nat) : Int) = ((cs x).length : Nat) := by rw [cs_len]
  have no : ∀ {b : Bool}, nmB x = b → b = false → Q (.bl false) H := fun h1 h2 => by rw [h1, h2] at q; exact q
  unfold t_is_name
  walk_at "go"
  refine w_isi (.base (.str x)) rfl ?_
  walk_at "go"
  refine w_two (fun c => ?_) (fun c => ?_)
  · have c1 := of_decide_eq_true c
    walk_at "go"
    by_cases c2 : (cs x).length ≤ 8
    · have d2 : decide (((x.length : Nat) : Int) ≤ 8) = true := decide_eq_true (by omega)
      rw [d2]
      walk_at "go"
      intro a ha
      refine w_inTxtT (xs := words) (ha H) ?_
      walk_at "go"
      refine w_two (fun c3 => ?_) (fun c3 => ?_)
      · walk_at "go"
        exact no (b := nmB x) rfl (by unfold nmB; rw [c3]; simp)
      · walk_at "go"
        have pos : 0 < (cs x).length := by omega
        refine w_ixS (i := 0) hz (c := (cs x)[0]) (atI_nat (j := 0) (List.getElem?_eq_getElem pos)) ?_
        walk_at "go"
        refine w_inSg ?_
        show ∃ k, V.bl (!decide ((cs x)[0] ∈ cs az)) = .bl k ∧ _
        have hd : (match (cs x)[0]? with | some c => decide (c ∈ cs az) | none => false) = decide ((cs x)[0] ∈ cs az) := by rw [List.getElem?_eq_getElem pos]
        walk_at "go"
        by_cases c4 : (cs x)[0] ∈ cs az
        · rw [decide_eq_true c4] at hd ⊢
          walk_at "go"
          unfold t_is_name_j1
          walk_at "go"
          refine ⟨x, rfl, for_str (x := x) (fun i σ H' => H' = H ∧ (∃ w, σ = [some (.str x), w]) ∧ ∀ c ∈ (cs x).take i, (decide (c ∈ cs az) || decide (c ∈ cs n09)) = true) ⟨rfl, ⟨_, rfl⟩, fun c hc => by simp at hc⟩ ?_ ?_⟩
          · rintro i c σ H' hc ⟨rfl, ⟨w, rfl⟩, hall⟩
            have hc' : (cs x)[i]? = some c := by rw [← hc]; exact Array.getElem?_toList
            walk_at "go"
            refine w_inSg ?_
            show ∃ k, V.bl (!decide (c ∈ cs az)) = .bl k ∧ _
            walk_at "go"
            by_cases a1 : c ∈ cs az
            · rw [decide_eq_true a1]
              walk_at "go"
              refine ⟨rfl, ⟨_, rfl⟩, fun d hd2 => ?_⟩
              rw [List.take_succ, hc'] at hd2
              rcases List.mem_append.mp hd2 with h | h
              · exact hall d h
              · rw [List.mem_singleton.mp h, decide_eq_true a1, Bool.true_or]
            · rw [decide_eq_false a1]
              walk_at "go"
              refine w_inSg ?_
              show ∃ k, V.bl (!decide (c ∈ cs n09)) = .bl k ∧ _
              walk_at "go"
              by_cases a2 : c ∈ cs n09
              · rw [decide_eq_true a2]
                walk_at "go"
                refine ⟨rfl, ⟨_, rfl⟩, fun d hd2 => ?_⟩
                rw [List.take_succ, hc'] at hd2
                rcases List.mem_append.mp hd2 with h | h
                · exact hall d h
                · rw [List.mem_singleton.mp h, decide_eq_true a2, Bool.or_true]
              · rw [decide_eq_false a2]
                walk_at "go"
                refine no (b := nmB x) rfl ?_
                have : ((cs x).all fun c => decide (c ∈ cs az) || decide (c ∈ cs n09)) = false := by
                  rw [Bool.eq_false_iff]
                  intro h
                  have := List.all_eq_true.mp h c (List.mem_of_getElem? hc')
                  rw [decide_eq_false a1, decide_eq_false a2] at this
                  exact nomatch this
                unfold nmB
                rw [this]
                simp
          · rintro σ H' ⟨rfl, ⟨w, rfl⟩, hall⟩
            walk_at "go"
            have sz : (cs x).take x.cps.size = cs x := List.take_of_length_le (by show (cs x).length ≤ _; rw [Array.length_toList]; exact Nat.le_refl _)
            rw [sz] at hall
            have e : nmB x = true := by
              unfold nmB
              rw [hd, List.all_eq_true.mpr hall, c3, decide_eq_true (show 1 ≤ (cs x).length from pos), decide_eq_true c2] <;> rfl
            rw [e] at q
            exact q
        · rw [decide_eq_false c4] at hd ⊢
          walk_at "go"
          exact no (b := nmB x) rfl (by unfold nmB; rw [hd]; simp)
    · have d2 : decide (((x.length : Nat) : Int) ≤ 8) = false := decide_eq_false (by omega)
      rw [d2]
      walk_at "go"
      exact no (b := nmB x) rfl (by unfold nmB; rw [decide_eq_false c2]; simp)
  · have c1 := of_decide_eq_false c
    walk_at "go"
    exact no (b := nmB x) rfl (by unfold nmB; rw [decide_eq_false (by omega : ¬ 1 ≤ (cs x).length)]; simp)
theorem for_se {K : PySem.W.Frag} {a : Addr} {xs : List V} {g : TG} {tb : TS} {D : Ends} {σ : L2.St} {Hb H0 : Hp} (Pv : Nat → L2.St → Hp → Prop) (hq : SE K Hb a xs) (h0 : Pv 0 σ H0) (hl : ∀ i σ H, Pv i σ H → Same Hb H)
    (hs : ∀ i x σ H, xs[i]? = some x → Pv i σ H → g x σ H fun σ2 H2 => tb { D with nx := Pv (i + 1), ct := Pv (i + 1), bk := D.nx } σ2 H2) (hd : ∀ σ H, Pv xs.length σ H → D.nx σ H) :
    ∃ b, V.ref a = .ref b ∧ (((∃ xs, SqL K H0 b xs) ∧ ∃ W : Nat → Nat → L2.St → Hp → Prop, (∃ m, W 0 m σ H0) ∧ ∀ i m σ H, W i m σ H →
      ((Itl K b).stop i H ∧ D.nx σ H) ∨ ((Itl K b).go i H ∧ ∃ N : L2.St → Hp → Prop, (∀ σ' H', N σ' H' → ∃ m', m' < m ∧ W (i + 1) m' σ' H') ∧ ∀ x H', (Itl K b).yld i H x H' → g x σ H' fun σ2 H2 => tb { D with nx := N, ct := N, bk := D.nx } σ2 H2)) ∨
      ((∃ xs, SqT K H0 b xs) ∧ ∃ W : Nat → Nat → L2.St → Hp → Prop, (∃ m, W 0 m σ H0) ∧ ∀ i m σ H, W i m σ H →
      ((Itt K b).stop i H ∧ D.nx σ H) ∨ ((Itt K b).go i H ∧ ∃ N : L2.St → Hp → Prop, (∀ σ' H', N σ' H' → ∃ m', m' < m ∧ W (i + 1) m' σ' H') ∧ ∀ x H', (Itt K b).yld i H x H' → g x σ H' fun σ2 H2 => tb { D with nx := N, ct := N, bk := D.nx } σ2 H2))) := by
  refine ⟨a, rfl, ?_⟩
  rcases hq with hq | hq
  · exact .inl ⟨⟨xs, same_l (hl 0 σ H0 h0) hq⟩, for_list (xs := xs) Pv h0 (fun i σ H _ p => same_l (hl i σ H p) hq) hs hd⟩
  · exact .inr ⟨⟨xs, same_t (hl 0 σ H0 h0) hq⟩, for_tup (xs := xs) Pv h0 (fun i σ H _ p => same_t (hl i σ H p) hq) hs hd⟩
def Rw.word : Rw → Str
  | .set _ _ => "set"
  | .tell _ => "tell"
  | .skip => "skip"
  | .ite _ _ _ => "if"
  | .whl _ _ => "while"
def Rw.fm : Rw → Option Fm
  | .set _ f => some f
  | .tell f => some f
  | .skip => none
  | .ite f _ _ => some f
  | .whl f _ => some f
def Rw.parts : Rw → List (List Rw)
  | .ite _ a b => [a, b]
  | .whl _ a => [a]
  | _ => []
inductive BlksAt (K : PySem.W.Frag) (S : SQ) (H : Hp) : List V → List (List Rw) → Prop where
  | nil : BlksAt K S H [] []
  | cons {q : Addr} {ys : List V} {b : List Rw} {vs : List V} {l : List (List Rw)} (h : S H q ys) (hb : BkAt K S H ys b) (t : BlksAt K S H vs l) : BlksAt K S H (.ref q :: vs) (b :: l)
theorem BlksAt.go {K : PySem.W.Frag} {S S' : SQ} {H H' : Hp} (e : SameT H H') (s : ∀ a xs, S H a xs → S' H' a xs) : ∀ {vs : List V} {l : List (List Rw)}, BlksAt K S H vs l → BlksAt K S' H' vs l
  | _, _, .nil => .nil
  | _, _, .cons h hb t => .cons (s _ _ h) (hb.go e s) (t.go e s)
theorem BlksAt.get {K : PySem.W.Frag} {S : SQ} {H : Hp} : ∀ {vs : List V} {l : List (List Rw)} {i : Nat} {v : V}, BlksAt K S H vs l → vs[i]? = some v → ∃ b q ys, l[i]? = some b ∧ v = .ref q ∧ S H q ys ∧ BkAt K S H ys b
  | _, _, 0, _, .cons h hb _, e => ⟨_, _, _, rfl, (Option.some.inj e).symm, h, hb⟩
  | _, _, i + 1, _, .cons _ _ t, e => t.get (i := i) e
  | _, _, _, _, .nil, e => by simp at e
theorem BlksAt.len {K : PySem.W.Frag} {S : SQ} {H : Hp} : ∀ {vs : List V} {l : List (List Rw)}, BlksAt K S H vs l → vs.length = l.length
  | _, _, .nil => rfl
  | _, _, .cons _ _ t => congrArg (· + 1) t.len
theorem at0 {x : V} {xs : List V} : atI (x :: xs) 0 = some x := atI_nat (j := 0) rfl
abbrev as_Program : List Str := ["opened", "hidden", "inner"]
def prF (o h q : Addr) : List (Str × V) := [("opened", .ref o), ("hidden", .ref h), ("inner", .ref q)]
structure PrIn (K : PySem.W.Frag) (H : Hp) (a : Addr) (os ss : List Str) (b : List Rw) (C dx o h q : Addr) (ys : List V) : Prop where
  ha : H a = some (.ins C dx (prF o h q))
  cc : CC K "Program" as_Program C
  ho : H o = some (.lst (os.map V.str))
  hh : H h = some (.lst (ss.map V.str))
  hq : SqT K H q ys
  hb : BkAt K (SqT K) H ys b
def PrAt (K : PySem.W.Frag) (H : Hp) (a : Addr) (os ss : List Str) (b : List Rw) : Prop := ∃ C dx o h q ys, PrIn K H a os ss b C dx o h q ys
theorem PrAt.mono {K : PySem.W.Frag} {H H' : Hp} {a : Addr} {os ss : List Str} {b : List Rw} (e : Same H H') (h : PrAt K H a os ss b) : PrAt K H' a os ss b := by
  obtain ⟨C, dx, o, hh, q, ys, h⟩ := h
  exact ⟨C, dx, o, hh, q, ys, e _ _ h.ha, h.cc, e _ _ h.ho, e _ _ h.hh, same_t e h.hq, h.hb.monoT (SameT.of e)⟩
inductive All2 {α : Type} (R : V → α → Prop) : List V → List α → Prop where
  | nil : All2 R [] []
  | cons {v : V} {x : α} {vs : List V} {xs : List α} (h : R v x) (t : All2 R vs xs) : All2 R (v :: vs) (x :: xs)
namespace All2
variable {α : Type} {R S : V → α → Prop}
theorem imp (h : ∀ v x, R v x → S v x) : ∀ {vs : List V} {xs : List α}, All2 R vs xs → All2 S vs xs
  | _, _, .nil => .nil
  | _, _, .cons a t => .cons (h _ _ a) (t.imp h)
theorem app : ∀ {vs us : List V} {xs ys : List α}, All2 R vs xs → All2 R us ys → All2 R (vs ++ us) (xs ++ ys)
  | _, _, _, _, .nil, h => h
  | _, _, _, _, .cons a t, h => .cons a (t.app h)
theorem one {v : V} {x : α} (h : R v x) : All2 R [v] [x] := .cons h .nil
theorem len : ∀ {vs : List V} {xs : List α}, All2 R vs xs → vs.length = xs.length
  | _, _, .nil => rfl
  | _, _, .cons _ t => congrArg (· + 1) t.len
theorem get : ∀ {vs : List V} {xs : List α} {i : Nat} {v : V}, All2 R vs xs → vs[i]? = some v → ∃ x, xs[i]? = some x ∧ R v x
  | _, _, 0, _, .cons h _, e => ⟨_, rfl, by rw [← Option.some.inj e]; exact h⟩
  | _, _, i + 1, _, .cons _ t, e => t.get (i := i) e
  | _, _, _, _, .nil, e => by simp at e
end All2
abbrev Ent := Nat × Rw × List Str
def fnames : Option Fm → List Str
  | none => []
  | some f => f.names
/-- an entry of rows_in's list at p -/
def EntP (K : PySem.W.Frag) (H : Hp) (p : Addr) (v : V) (e : Ent) : Prop := ∃ (t : Addr) (vr : V) (al : Addr) (xs : List Str), v = .ref t ∧ SqT K H t [.int (e.1 : Nat), vr, .ref al] ∧ RwAt K (SqT K) H vr e.2.1 ∧ H al = some (.lst (xs.map V.str)) ∧ al ≠ p ∧ (∀ y, y ∈ xs ↔ y ∈ e.2.2) ∧ xs.length ≤ 1000000
theorem EntP.mono {K : PySem.W.Frag} {H H' : Hp} {p : Addr} {v : V} {e : Ent} (s : Same H H') (h : EntP K H p v e) : EntP K H' p v e := by
  obtain ⟨t, vr, al, xs, h1, h2, h3, h4, h5⟩ := h
  exact ⟨t, vr, al, xs, h1, same_t s h2, h3.monoT (SameT.of s), s _ _ h4, h5⟩
theorem EntP.upd {K : PySem.W.Frag} {H : Hp} {p : Addr} {v : V} {e : Ent} {zs : List V} {o : HO} (hp : H p = some (.lst zs)) (h : EntP K H p v e) : EntP K (L2.upd H p o) p v e := by
  obtain ⟨t, vr, al, xs, h1, h2, h3, h4, h5, h6⟩ := h
  have s : SameT H (L2.upd H p o) := SameT.upd hp rfl
  exact ⟨t, vr, al, xs, h1, sameT_t s h2, h3.monoT s, (upd_ne h5).trans h4, h5, h6⟩
theorem EntP.other {K : PySem.W.Frag} {H : Hp} {p q : Addr} {v : V} {e : Ent} (hq : H q = none) (h : EntP K H p v e) : EntP K H q v e := by
  obtain ⟨t, vr, al, xs, h1, h2, h3, h4, h5, h6⟩ := h
  exact ⟨t, vr, al, xs, h1, h2, h3, h4, ne_of_none h4 hq, h6⟩
abbrev Flo := Nat × Str × Str
def FlAt (K : PySem.W.Frag) (H : Hp) (v : V) (f : Flo) : Prop := ∃ t, v = .ref t ∧ SqT K H t [.int (f.1 : Nat), .str f.2.1, .str f.2.2]
theorem FlAt.monoT {K : PySem.W.Frag} {H H' : Hp} (e : SameT H H') {v : V} {f : Flo} (h : FlAt K H v f) : FlAt K H' v f := by
  obtain ⟨t, h1, h2⟩ := h
  exact ⟨t, h1, sameT_t e h2⟩
theorem take_snoc {α : Type} {l : List α} {i : Nat} {x : α} (h : l[i]? = some x) : l.take (i + 1) = l.take i ++ [x] := by rw [List.take_succ, h] <;> rfl
theorem SameX.of {p : Addr} {H H' : Hp} (h : Same H H') : SameX p H H' := fun a u _ ha => h a u ha
theorem SameX.trans {p : Addr} {H H1 H2 : Hp} (h : SameX p H H1) (h2 : SameX p H1 H2) : SameX p H H2 := fun a u n ha => h2 a u n (h a u n ha)
theorem SameX.upd {p : Addr} {H : Hp} {o : HO} : SameX p H (L2.upd H p o) := fun a u n ha => by rw [upd_ne n]; exact ha
theorem SameX.same {p : Addr} {H0 H H' : Hp} (h0 : Same H0 H) (hp : H0 p = none) (h : SameX p H H') : Same H0 H' := fun a u ha => h a u (ne_of_none ha hp) (h0 a u ha)
theorem w_str {H : Hp} {Q : VK} {i : Int} (h : i.natAbs.log2 < 1920) (q : Q (.str (toString i)) H) : rStr [.int i] H Q := ⟨i, rfl, h, q⟩
structure Told (os ss : List Str) : Prop where
  nm : ∀ x ∈ os ++ ss, Nm x
  nd : (os ++ ss).Nodup
  l1 : os.length ≤ 26
  l2 : ss.length ≤ 26
def Rw.own : Rw → List Str
  | .set x f => x :: f.names
  | r => fnames r.fm
abbrev Chn := List (Nat × Str)
abbrev Chs := List (Str × Chn)
def Chs.keys (ch : Chs) : List Str := ch.map (·.1)
def chGet (ch : Chs) (x : Str) : Option Chn := (ch.find? fun p => decide (p.1 = x)).map (·.2)
theorem key_of {ch : Chs} {x : Str} {c : Chn} (h : (x, c) ∈ ch) : x ∈ Chs.keys ch := List.mem_map.mpr ⟨_, h, rfl⟩
theorem key_one {ch : Chs} (nd : (Chs.keys ch).Nodup) {x : Str} {c d : Chn} (h1 : (x, c) ∈ ch) (h2 : (x, d) ∈ ch) : c = d := by
  induction ch with
  | nil => exact nomatch h1
  | cons p r ih =>
    obtain ⟨n1, n2⟩ := List.nodup_cons.mp (show (p.1 :: Chs.keys r).Nodup from nd)
    rcases List.mem_cons.mp h1 with e1 | h1
    · rcases List.mem_cons.mp h2 with e2 | h2
      · exact (Prod.mk.inj (e1.trans e2.symm)).2
      · exact absurd (key_of h2) (by rw [show p.1 = x from congrArg Prod.fst e1.symm] at n1; exact n1)
    · rcases List.mem_cons.mp h2 with e2 | h2
      · exact absurd (key_of h1) (by rw [show p.1 = x from congrArg Prod.fst e2.symm] at n1; exact n1)
      · exact ih n2 h1 h2
theorem keys_app (a b : Chs) : Chs.keys (a ++ b) = Chs.keys a ++ Chs.keys b := List.map_append
/-- at the head of the loop: kn the names whose rows are still to be looked at, all at the end of chains of j + 1 pairs -/
structure WayI (ss : List Str) (rs : List Flo) (ch : Chs) (kn : List Str) (j : Nat) : Prop where
  nd : (Chs.keys ch).Nodup
  base : ∀ s ∈ ss, (s, [(0, s)]) ∈ ch
  each : ∀ x c, (x, c) ∈ ch → (x ∈ ss ∧ c = [(0, x)]) ∨ ∃ f ∈ rs, ∃ d, (f.2.1, d) ∈ ch ∧ f.2.2 = x ∧ c = d ++ [(f.1, x)]
  most : ∀ x c, (x, c) ∈ ch → c.length ≤ j + 1
  now : ∀ k ∈ kn, ∃ c, (k, c) ∈ ch ∧ c.length = j + 1
  past : ∀ f ∈ rs, f.2.1 ∈ Chs.keys ch → f.2.1 ∉ kn → f.2.2 ∈ Chs.keys ch ∧ ∀ c d, (f.2.1, c) ∈ ch → (f.2.2, d) ∈ ch → d.length ≤ c.length + 1
/-- within the pass over the rows: ps those looked at -/
structure WayP (rs ps : List Flo) (ch0 : Chs) (kn : List Str) (j : Nat) (ch : Chs) (fr : List Str) : Prop where
  nd : (Chs.keys ch).Nodup
  ext : ∃ e, ch = ch0 ++ e ∧ fr = Chs.keys e ∧ ∀ x c, (x, c) ∈ e → ∃ f ∈ rs, ∃ d, (f.2.1, d) ∈ ch0 ∧ f.2.2 = x ∧ c = d ++ [(f.1, x)] ∧ d.length = j + 1
  seen : ∀ f ∈ ps, f.2.1 ∈ kn → f.2.2 ∈ Chs.keys ch
theorem WayP.skip {rs ps : List Flo} {ch0 ch : Chs} {kn fr : List Str} {j : Nat} {f : Flo} (h : WayP rs ps ch0 kn j ch fr) (hf : ¬ (f.2.1 ∈ kn ∧ f.2.2 ∉ Chs.keys ch)) : WayP rs (ps ++ [f]) ch0 kn j ch fr :=
  ⟨h.nd, h.ext, fun g hg hk => (List.mem_append.mp hg).elim (fun hg => h.seen g hg hk) fun hg => by
    rw [List.mem_singleton.mp hg] at hk ⊢
    exact Decidable.byContradiction fun c => hf ⟨hk, c⟩⟩
theorem WayP.take {ss : List Str} {rs ps : List Flo} {ch0 ch : Chs} {kn fr : List Str} {j : Nat} {f : Flo} {d : Chn} (I : WayI ss rs ch0 kn j) (h : WayP rs ps ch0 kn j ch fr) (hm : f ∈ rs) (hk : f.2.1 ∈ kn) (hx : f.2.2 ∉ Chs.keys ch) (hd : (f.2.1, d) ∈ ch) :
    WayP rs (ps ++ [f]) ch0 kn j (ch ++ [(f.2.2, d ++ [(f.1, f.2.2)])]) (fr ++ [f.2.2]) := by
  obtain ⟨e, he, hfr, hall⟩ := h.ext
  obtain ⟨c, hc, hl⟩ := I.now _ hk
  have hc2 : (f.2.1, c) ∈ ch := by rw [he]; exact List.mem_append_left _ hc
  have hcd : d = c := key_one h.nd hd hc2
  refine ⟨?_, ⟨e ++ [(f.2.2, d ++ [(f.1, f.2.2)])], by rw [he, List.append_assoc], by rw [keys_app, hfr] <;> rfl, fun x c' hxc => ?_⟩, fun g hg hk => ?_⟩
  · rw [keys_app, List.nodup_append]
    refine ⟨h.nd, List.nodup_cons.mpr ⟨List.not_mem_nil, List.nodup_nil⟩, fun a ha b hb e => ?_⟩
    rw [List.mem_singleton.mp hb] at e
    have e : a = f.2.2 := e
    exact hx (e ▸ ha)
  · rcases List.mem_append.mp hxc with h1 | h1
    · exact hall x c' h1
    · have h1 := List.mem_singleton.mp h1
      obtain ⟨rfl, rfl⟩ := Prod.mk.inj h1
      exact ⟨f, hm, d, by rw [hcd]; exact hc, rfl, rfl, by rw [hcd]; exact hl⟩
  · rw [keys_app, List.mem_append]
    rcases List.mem_append.mp hg with hg | hg
    · exact .inl (h.seen g hg hk)
    · rw [List.mem_singleton.mp hg]; exact .inr (List.mem_singleton.mpr rfl)
def PaAt (K : PySem.W.Frag) (H : Hp) (v : V) (p : Nat × Str) : Prop := ∃ t, v = .ref t ∧ SqT K H t [.int (p.1 : Nat), .str p.2]
theorem PaAt.monoT {K : PySem.W.Frag} {H H' : Hp} (e : SameT H H') {v : V} {p : Nat × Str} (h : PaAt K H v p) : PaAt K H' v p := by
  obtain ⟨t, h1, h2⟩ := h
  exact ⟨t, h1, sameT_t e h2⟩
def ChAt (K : PySem.W.Frag) (H : Hp) (v : V) (c : Chn) : Prop := ∃ l us, v = .ref l ∧ H l = some (.lst us) ∧ All2 (PaAt K H) us c ∧ c ≠ []
/-- lists of pairs stay -/
def SameP (H H' : Hp) : Prop := SameT H H' ∧ ∀ (l t : Addr) (us : List V), H l = some (.lst (.ref t :: us)) → H' l = some (.lst (.ref t :: us))
theorem SameP.of {H H' : Hp} (e : Same H H') : SameP H H' := ⟨SameT.of e, fun l t us h => e l _ h⟩
theorem SameP.trans {H H1 H2 : Hp} (a : SameP H H1) (b : SameP H1 H2) : SameP H H2 := ⟨a.1.trans b.1, fun l t us h => b.2 l t us (a.2 l t us h)⟩
theorem SameP.dict {H : Hp} {D : Addr} {kvs : List (Key × V)} {o : HO} (h : H D = some (.dK kvs)) : SameP H (upd H D o) :=
  ⟨SameT.upd h rfl, fun l t us hl => by
    rw [upd_ne (fun e => by rw [e, h] at hl; exact nomatch Option.some.inj hl)]
    exact hl⟩
theorem ChAt.go {K : PySem.W.Frag} {H H' : Hp} (e : SameP H H') {v : V} {c : Chn} (h : ChAt K H v c) : ChAt K H' v c := by
  obtain ⟨l, us, rfl, h2, h3, h4⟩ := h
  refine ⟨l, us, rfl, ?_, h3.imp fun _ _ q => q.monoT e.1, h4⟩
  cases h3 with
  | nil => exact absurd rfl h4
  | cons q t =>
    obtain ⟨t', rfl, _⟩ := q
    exact e.2 _ _ _ h2
inductive KvAll (K : PySem.W.Frag) (H : Hp) : List (Key × V) → Chs → Prop where
  | nil : KvAll K H [] []
  | cons {x : Str} {v : V} {c : Chn} {kvs : List (Key × V)} {ch : Chs} (h : ChAt K H v c) (t : KvAll K H kvs ch) : KvAll K H ((.inr x, v) :: kvs) ((x, c) :: ch)
theorem KvAll.go {K : PySem.W.Frag} {H H' : Hp} (e : SameP H H') : ∀ {kvs : List (Key × V)} {ch : Chs}, KvAll K H kvs ch → KvAll K H' kvs ch
  | _, _, .nil => .nil
  | _, _, .cons h t => .cons (h.go e) (t.go e)
theorem KvAll.snoc {K : PySem.W.Frag} {H : Hp} {x : Str} {v : V} {c : Chn} (h : ChAt K H v c) : ∀ {kvs : List (Key × V)} {ch : Chs}, KvAll K H kvs ch → KvAll K H (kvs ++ [(.inr x, v)]) (ch ++ [(x, c)])
  | _, _, .nil => .cons h .nil
  | _, _, .cons h2 t => .cons h2 (t.snoc h)
theorem KvAll.keys {K : PySem.W.Frag} {H : Hp} : ∀ {kvs : List (Key × V)} {ch : Chs}, KvAll K H kvs ch → kvs.map (·.1) = (Chs.keys ch).map Sum.inr
  | _, _, .nil => rfl
  | _, _, .cons _ t => congrArg (_ :: ·) t.keys
theorem KvAll.len {K : PySem.W.Frag} {H : Hp} {kvs : List (Key × V)} {ch : Chs} (h : KvAll K H kvs ch) : kvs.length = ch.length := by
  have := congrArg List.length h.keys
  simpa [Chs.keys] using this
theorem KvAll.at_ {K : PySem.W.Frag} {H : Hp} {x : Str} {c : Chn} : ∀ {kvs : List (Key × V)} {ch : Chs}, KvAll K H kvs ch → chGet ch x = some c → ∃ v, valV kvs (.inr x) = some v ∧ ChAt K H v c
  | _, _, .nil, h => nomatch h
  | _, _, .cons (x := y) (v := v) (c := d) (ch := ch) hd t, h => by
    by_cases e : y = x
    · subst e
      have : chGet ((y, d) :: ch) y = some d := by simp [chGet]
      rw [this] at h
      rw [← Option.some.inj h]
      exact ⟨v, valV_pos rfl, hd⟩
    · have : chGet ((y, d) :: ch) x = chGet ch x := by simp [chGet, e]
      rw [this] at h
      obtain ⟨w, h1, h2⟩ := t.at_ h
      exact ⟨w, (valV_neg (p := ((Sum.inr y : Key), v)) (fun z => e (Sum.inr.inj z))).trans h1, h2⟩
theorem KvAll.names {K : PySem.W.Frag} {H : Hp} : ∀ {kvs : List (Key × V)} {ch : Chs}, KvAll K H kvs ch → (kvs.map fun kv => kV kv.1) = (Chs.keys ch).map V.str
  | _, _, .nil => rfl
  | _, _, .cons _ t => congrArg (_ :: ·) t.names
def KdAt (K : PySem.W.Frag) (H : Hp) (v : V) (p : Str × Str) : Prop := ∃ t, v = .ref t ∧ SqT K H t [.str p.1, .str p.2]
theorem KdAt.monoT {K : PySem.W.Frag} {H H' : Hp} (e : SameT H H') {v : V} {p : Str × Str} (h : KdAt K H v p) : KdAt K H' v p := by
  obtain ⟨t, h1, h2⟩ := h
  exact ⟨t, h1, sameT_t e h2⟩
structure Nwo (H H' : Hp) (p : Addr) (o : HO) : Prop where
  eq : H' = upd H p o
theorem nw_eq {Q : VK} {f : List V → HO} : (fun (xs : List V) (H1 : Hp) => xs.length ≤ sizeLine ∧ ∀ p H2, H1 p = none → Nwo H1 H2 p (f xs) → Q (.ref p) H2) = fun xs H1 => xs.length ≤ sizeLine ∧ ∀ p, H1 p = none → Q (.ref p) (upd H1 p (f xs)) := by
  funext xs H1
  exact propext ⟨fun ⟨z, k⟩ => ⟨z, fun p hp => k p _ hp ⟨rfl⟩⟩, fun ⟨z, k⟩ => ⟨z, fun p H2 hp e => by rw [e.eq]; exact k p hp⟩⟩
theorem w_nw {n : Nat} {R : Addr → Hp → Prop} {H1 : Hp} {o : HO} (z : n ≤ sizeLine) (q : ∀ p H2, H1 p = none → Same H1 H2 → H2 p = some o → R p H2) : n ≤ sizeLine ∧ ∀ p H2, H1 p = none → Nwo H1 H2 p o → R p H2 :=
  ⟨z, fun p H2 hp e => q p H2 hp (by rw [e.eq]; exact same_new hp) (by rw [e.eq]; exact upd_same)⟩
theorem same_look {H H' : Hp} {a : Addr} {u : HO} (e : Same H H') (h : H a = some u) : H' a = some u := e a u h
theorem same_mutX {H0 H H' : Hp} {l : Addr} (e : Same H0 H) (n : H0 l = none) (x : SameX l H H') : Same H0 H' := SameX.same e n x
theorem sq_l {K : PySem.W.Frag} {H H' : Hp} {a : Addr} {xs : List V} (e : Same H H') (h : H a = some (.lst xs)) : SqL K H' a xs := SqL.of (e a _ h)
theorem sq_t {K : PySem.W.Frag} {H H' : Hp} {a : Addr} {xs : List V} (e : Same H H') (h : H a = some (.tup xs)) : SqT K H' a xs := SqT.of (e a _ h)
theorem BkAt.monoS {K : PySem.W.Frag} {H H' : Hp} (e : Same H H') {vs : List V} {l : List Rw} (h : BkAt K (SqT K) H vs l) : BkAt K (SqT K) H' vs l := h.monoT (SameT.of e)
theorem RwAt.monoS {K : PySem.W.Frag} {H H' : Hp} (e : Same H H') {v : V} {r : Rw} (h : RwAt K (SqT K) H v r) : RwAt K (SqT K) H' v r := h.monoT (SameT.of e)
section
variable {K : PySem.W.Frag} {σ : L2.St} {H : Hp} {Q : VK} {x y v : V}
theorem w_lst' {t : TA} (q : t σ H fun xs H1 => xs.length ≤ sizeLine ∧ ∀ p H2, H1 p = none → Nwo H1 H2 p (.lst xs) → Q (.ref p) H2) : tLst t σ H Q := by
  rw [nw_eq (f := .lst)] at q
  exact q
theorem w_tup' {t : TA} (q : t σ H fun xs H1 => xs.length ≤ sizeLine ∧ ∀ p H2, H1 p = none → Nwo H1 H2 p (.tup xs) → Q (.ref p) H2) : tTup t σ H Q := by
  rw [nw_eq (f := .tup)] at q
  exact q
theorem w_addL' {a b : Addr} {xs ys : List V} (ha : H a = some (.lst xs)) (hb : H b = some (.lst ys)) (h : xs.length + ys.length ≤ sizeLine) (q : ∀ p H', H p = none → Same H H' → H' p = some (.lst (xs ++ ys)) → Q (.ref p) H') : rAdd K (.ref a) (.ref b) H Q :=
  w_addL ha hb h fun p hp => q p _ hp (same_new hp) upd_same
theorem w_slL' {a : Addr} {xs : List V} {lo hi : Option Int} (h : SqL K H a xs) (q : ∀ p H', H p = none → Same H H' → H' p = some (.lst (cutV xs lo hi)) → Q (.ref p) H') : rSl K (.ref a) lo hi H Q :=
  w_slL h fun p hp => q p _ hp (same_new hp) upd_same
theorem w_tupL' {p : Addr} {xs : List V} (h : SqL K H p xs) (q : ∀ l H', H l = none → Same H H' → H' l = some (.tup xs) → Q (.ref l) H') : rTupO K [.ref p] H Q :=
  w_tupL h fun l hl => q l _ hl (same_new hl) upd_same
theorem w_listL' {p : Addr} {xs : List V} (h : SqL K H p xs) (q : ∀ l H', H l = none → Same H H' → H' l = some (.lst xs) → Q (.ref l) H') : rList K [.ref p] H Q :=
  w_listL h fun l hl => q l _ hl (same_new hl) upd_same
theorem w_app' {l : Addr} {xs : List V} (h : H l = some (.lst xs)) (z : xs.length < sizeLine) (q : ∀ H', SameX l H H' → SameT H H' → H' l = some (.lst (xs ++ [y])) → Q .non H') : rAppend (.ref l) [y] H Q :=
  w_app h z (q _ SameX.upd (SameT.upd h rfl) upd_same)
end
theorem lt_line {n : Nat} (h : n ≤ 16000000) : n < sizeLine := Nat.lt_of_le_of_lt h (by decide)
theorem All2.split {α : Type} {R : V → α → Prop} {vs : List V} {as : List α} {i : Nat} {v : V} (h : All2 R vs as) (e : vs[i]? = some v) : ∃ x, as = as.take i ++ x :: as.drop (i + 1) ∧ as.take (i + 1) = as.take i ++ [x] ∧ R v x := by
  obtain ⟨x, hx, hr⟩ := h.get e
  obtain ⟨hi, rfl⟩ := List.getElem?_eq_some_iff.mp hx
  exact ⟨_, by rw [← List.drop_eq_getElem_cons hi, List.take_append_drop], take_snoc hx, hr⟩
theorem for_al {α : Type} {K : PySem.W.Frag} {a : Addr} {xs : List V} {as : List α} {P : V → α → Prop} {g : TG} {tb : TS} {D : Ends} {σ : L2.St} {Hb H0 : Hp} (Pv : List α → L2.St → Hp → Prop) (hq : SE K Hb a xs) (hx : All2 P xs as) (h0 : Pv [] σ H0) (hl : ∀ pre σ H, Pv pre σ H → Same Hb H)
    (hs : ∀ pre x post v σ H, as = pre ++ x :: post → P v x → Pv pre σ H → g v σ H fun σ2 H2 => tb { D with nx := Pv (pre ++ [x]), ct := Pv (pre ++ [x]), bk := D.nx } σ2 H2) (hd : ∀ σ H, Pv as σ H → D.nx σ H) :
    ∃ b, V.ref a = .ref b ∧ (((∃ xs, SqL K H0 b xs) ∧ ∃ W : Nat → Nat → L2.St → Hp → Prop, (∃ m, W 0 m σ H0) ∧ ∀ i m σ H, W i m σ H →
      ((Itl K b).stop i H ∧ D.nx σ H) ∨ ((Itl K b).go i H ∧ ∃ N : L2.St → Hp → Prop, (∀ σ' H', N σ' H' → ∃ m', m' < m ∧ W (i + 1) m' σ' H') ∧ ∀ x H', (Itl K b).yld i H x H' → g x σ H' fun σ2 H2 => tb { D with nx := N, ct := N, bk := D.nx } σ2 H2)) ∨
      ((∃ xs, SqT K H0 b xs) ∧ ∃ W : Nat → Nat → L2.St → Hp → Prop, (∃ m, W 0 m σ H0) ∧ ∀ i m σ H, W i m σ H →
      ((Itt K b).stop i H ∧ D.nx σ H) ∨ ((Itt K b).go i H ∧ ∃ N : L2.St → Hp → Prop, (∀ σ' H', N σ' H' → ∃ m', m' < m ∧ W (i + 1) m' σ' H') ∧ ∀ x H', (Itt K b).yld i H x H' → g x σ H' fun σ2 H2 => tb { D with nx := N, ct := N, bk := D.nx } σ2 H2))) := by
  refine for_se (xs := xs) (fun i => Pv (as.take i)) hq (by rw [List.take_zero]; exact h0) (fun i σ H h => hl _ σ H h) ?_ ?_
  · intro i x σ H e p
    obtain ⟨y, e1, e2, r⟩ := hx.split e
    rw [e2]
    exact hs _ y _ x σ H e1 r p
  · intro σ H p
    rw [hx.len, List.take_length] at p
    exact hd σ H p
local macro_rules | `(tactic| walk_at "ss") => `(tactic| first
  | with_reducible assumption
  | with_reducible exact Same.refl _
  | ((with_reducible refine Same.trans (H1 := ?M) ?a ?b); (case b => with_reducible assumption); (case a => walk_at "ss"))
  | ((with_reducible refine same_mutX (H := ?M) ?a ?n ?b); (case b => with_reducible assumption); (case n => walk_at "nn"); (case a => walk_at "ss")))
local macro_rules | `(tactic| walk_at "nn") => `(tactic| first
  | with_reducible assumption
  | ((with_reducible refine none_of (H' := ?M) ?e ?h); (case h => with_reducible assumption); (case e => walk_at "ss")))
local macro_rules | `(tactic| walk_at "lk") => `(tactic| first
  | with_reducible assumption
  | ((with_reducible refine same_look (H := ?M) ?e ?h); (case h => with_reducible assumption); (case e => walk_at "ss")))
local macro_rules | `(tactic| walk_at "hp") => `(tactic| first
  | with_reducible assumption
  | walk_at "lk"
  | ((with_reducible refine same_t (H := ?M) ?e ?h); (case h => with_reducible assumption); (case e => walk_at "ss"))
  | ((with_reducible refine same_l (H := ?M) ?e ?h); (case h => with_reducible assumption); (case e => walk_at "ss"))
  | ((with_reducible refine sq_t (H := ?M) ?e ?h); (case h => with_reducible assumption); (case e => walk_at "ss"))
  | ((with_reducible refine sq_l (H := ?M) ?e ?h); (case h => with_reducible assumption); (case e => walk_at "ss"))
  | ((with_reducible refine FmAt.mono (H := ?M) ?e ?h); (case h => with_reducible assumption); (case e => walk_at "ss"))
  | ((with_reducible refine BkAt.monoS (H := ?M) ?e ?h); (case h => with_reducible assumption); (case e => walk_at "ss"))
  | ((with_reducible refine RwAt.monoS (H := ?M) ?e ?h); (case h => with_reducible assumption); (case e => walk_at "ss"))
  | ((with_reducible refine PrAt.mono (H := ?M) ?e ?h); (case h => with_reducible assumption); (case e => walk_at "ss")))
local macro_rules | `(tactic| walk_at "gx1") => `(tactic| first
  | with_reducible refine w_lst' ?_
  | with_reducible refine w_tup' ?_
  | ((with_reducible refine w_nw ?z (fun p H2 hn he hp => ?_)); (case z => walk_at "sz"))
  | ((with_reducible refine w_ixT (xs := ?xs) (v := ?v) ?h ?e ?_); (case h => walk_at "hp"); (case e => rfl))
  | ((with_reducible refine w_ixL (xs := ?xs) (v := ?v) ?h ?e ?_); (case h => walk_at "hp"); (case e => rfl))
  | ((with_reducible refine w_bmL (xs := ?xs) ?h ?_); (case h => walk_at "hp"))
  | ((with_reducible refine w_lenL (xs := ?xs) ?h ?_); (case h => walk_at "hp"))
  | ((with_reducible refine w_lenT (xs := ?xs) ?h ?_); (case h => walk_at "hp"))
  | ((with_reducible refine w_gTup (xs := ?xs) ?h ?l ?_); (case h => walk_at "hp"); (case l => rfl))
  | walk_at "go1"
  | ((with_reducible refine w_no ?e ?_); (case e => (simp only [eq_self_iff_true, decide_true, Bool.not_true]; done)))
  | ((with_reducible refine w_yes ?e ?_); (case e => (simp only [eq_self_iff_true, decide_true, Bool.not_false]; done))))
local macro_rules | `(tactic| walk_at "gx") => `(tactic| repeat walk_at "gx1")
local macro_rules | `(tactic| walk_at "gxn") => `(tactic| repeat ((fail_if_success (with_reducible refine w_next ?_)); walk_at "gx1"))
theorem BkAt.take {K : PySem.W.Frag} {S : SQ} {H : Hp} : ∀ {vs : List V} {l : List Rw} (n : Nat), BkAt K S H vs l → BkAt K S H (vs.take n) (l.take n)
  | _, _, 0, _ => .nil
  | _, _, _ + 1, .nil => .nil
  | _, _, n + 1, .cons h t => .cons h (t.take n)
theorem cut_vh {xs : List V} {k : Nat} : cutV xs (some (k : Int)) none = xs.drop k := by
  have := cut_hi (f := fun v : V => v) (xs := xs) (k := k)
  rw [List.map_id', List.map_id'] at this
  exact this
theorem w_slC' {K : PySem.W.Frag} {H : Hp} {Q : VK} {a : Addr} {ns : List Int} (h : SqL K H a (ns.map V.int)) (lo hi : Option Int) (q : ∀ p H' cs, H p = none → Same H H' → H' p = some (.lst (cs.map V.int)) → List.Sublist cs ns → Q (.ref p) H') : rSl K (.ref a) lo hi H Q :=
  w_slL' h fun p H' hp e hp2 => by
    obtain ⟨cs, e2, s⟩ := cut_map (f := V.int) (xs := ns) lo hi
    rw [e2] at hp2
    exact q p H' cs hp e hp2 s
structure MS where
  g : Str → Int
  turns : Nat
  said : List Int
def setG (g : Str → Int) (x : Str) (v : Int) : Str → Int := fun y => if y = x then v else g y
def items (k : Nat) (A : List Str) : List Rw → List Ent
  | [] => []
  | r :: l => (k, r, A) :: items (k + r.size) A l
/-- one step of the row on top: what is on top then, or how the run stops -/
def stp (k : Nat) (A : List Str) (R : List Ent) (s : MS) : Rw → (List Ent × MS) ⊕ Str
  | .skip => .inl (R, s)
  | .set x f => match f.reck s.g with
    | none => .inr "nought"
    | some v => .inl (R, { s with g := setG s.g x v })
  | .tell f => match f.reck s.g with
    | none => .inr "nought"
    | some v => .inl (R, { s with said := s.said ++ [v] })
  | .ite f a b => match f.reck s.g with
    | none => .inr "nought"
    | some v => if v = 0 then .inl (items (k + 1 + szs a) (A ++ f.names) b ++ R, s) else .inl (items (k + 1) (A ++ f.names) a ++ R, s)
  | .whl f a => match f.reck s.g with
    | none => .inr "nought"
    | some v => if v = 0 then .inl (R, s) else if s.turns = 0 then .inr "tired" else .inl (items (k + 1) (A ++ f.names) a ++ (k, .whl f a, A) :: R, { s with turns := s.turns - 1 })
/-- how a run ends, in so many steps -/
inductive MvN : Nat → List Ent → MS → Str → Nat → MS → Prop where
  | done {s : MS} : MvN 0 [] s "done" 0 s
  | out {e : Ent} {R : List Ent} {s : MS} {w : Str} (h : stp e.1 e.2.2 R s e.2.1 = .inr w) : MvN 1 (e :: R) s w e.1 s
  | next {n k : Nat} {e : Ent} {R R' : List Ent} {s s' t : MS} {w : Str} (h : stp e.1 e.2.2 R s e.2.1 = .inl (R', s')) (m : MvN n R' s' w k t) : MvN (n + 1) (e :: R) s w k t
/-- from the rows I on top on: they are done, or the run stops in them -/
def Ran (I : List Ent) (s : MS) (c : Bool) (w : Str) (r : Nat) (s' : MS) : Prop :=
  (c = true ∧ w = "done" ∧ r = 0 ∧ ∀ R n w k t, MvN n R s' w k t → ∃ m, MvN m (I ++ R) s w k t) ∨ (c = false ∧ ∀ R, ∃ m, MvN m (I ++ R) s w r s')
theorem Ran.nil (s : MS) : Ran [] s true "done" 0 s := .inl ⟨rfl, rfl, rfl, fun _ n _ _ _ h => ⟨n, h⟩⟩
theorem Ran.seq {I J : List Ent} {s s1 s2 : MS} {c : Bool} {w : Str} {r : Nat} (h : Ran I s true "done" 0 s1) (h2 : Ran J s1 c w r s2) : Ran (I ++ J) s c w r s2 := by
  rcases h with ⟨_, _, _, h⟩ | ⟨h, _⟩
  · rcases h2 with ⟨a1, a2, a3, h2⟩ | ⟨a1, h2⟩
    · refine .inl ⟨a1, a2, a3, fun R n w k t m => ?_⟩
      obtain ⟨m1, g1⟩ := h2 R n w k t m
      obtain ⟨m2, g2⟩ := h (J ++ R) m1 w k t g1
      exact ⟨m2, by rw [List.append_assoc]; exact g2⟩
    · refine .inr ⟨a1, fun R => ?_⟩
      obtain ⟨m1, g1⟩ := h2 R
      obtain ⟨m2, g2⟩ := h (J ++ R) m1 _ _ _ g1
      exact ⟨m2, by rw [List.append_assoc]; exact g2⟩
  · exact nomatch h
theorem Ran.stop {e : Ent} {s : MS} {w : Str} (h : ∀ R, stp e.1 e.2.2 R s e.2.1 = .inr w) : Ran [e] s false w e.1 s := .inr ⟨rfl, fun R => ⟨1, .out (h R)⟩⟩
def kvN (ns : List Str) (g : Str → Int) : List (Key × V) := ns.map fun x => (.inr x, .int (g x))
abbrev as_Runner : List Str := ["numbers", "turns", "said", "way", "row"]
def rnF (D : Addr) (t : Nat) (L : Addr) (w : Str) (r : Nat) : List (Str × V) := [("numbers", .ref D), ("turns", .int (t : Nat)), ("said", .ref L), ("way", .str w), ("row", .int (r : Nat))]
structure RnIn (K : PySem.W.Frag) (H : Hp) (a D L C dx : Addr) (nl : List Str) (s : MS) (w : Str) (r : Nat) : Prop where
  ha : H a = some (.ins C dx (rnF D s.turns L w r))
  cc : CC K "Runner" as_Runner C
  hD : H D = some (.dK (kvN nl s.g))
  hL : H L = some (.lst (s.said.map V.int))
def SameR (a D L : Addr) (H H' : Hp) : Prop := ∀ x u, x ≠ a → x ≠ D → x ≠ L → H x = some u → H' x = some u
theorem SameR.refl (a D L : Addr) (H : Hp) : SameR a D L H H := fun _ _ _ _ _ h => h
theorem SameR.of {a D L : Addr} {H H' : Hp} (e : Same H H') : SameR a D L H H' := fun x u _ _ _ h => e x u h
theorem SameR.trans {a D L : Addr} {H H1 H2 : Hp} (h : SameR a D L H H1) (h2 : SameR a D L H1 H2) : SameR a D L H H2 := fun x u n1 n2 n3 q => h2 x u n1 n2 n3 (h x u n1 n2 n3 q)
theorem RnIn.ne {K : PySem.W.Frag} {H : Hp} {a D L C dx : Addr} {nl : List Str} {s : MS} {w : Str} {r : Nat} (h : RnIn K H a D L C dx nl s w r) : a ≠ D ∧ a ≠ L ∧ D ≠ L :=
  ⟨fun e => by have := h.ha; rw [e, h.hD] at this; exact (nomatch this), fun e => by have := h.ha; rw [e, h.hL] at this; exact (nomatch this), fun e => by have := h.hD; rw [e, h.hL] at this; exact (nomatch this)⟩
theorem RnIn.mono {K : PySem.W.Frag} {H H' : Hp} {a D L C dx : Addr} {nl : List Str} {s : MS} {w : Str} {r : Nat} (e : Same H H') (h : RnIn K H a D L C dx nl s w r) : RnIn K H' a D L C dx nl s w r := ⟨e _ _ h.ha, h.cc, e _ _ h.hD, e _ _ h.hL⟩
structure RnPost (nl : List Str) (s s' : MS) (z : Nat) : Prop where
  in6 : ∀ x ∈ nl, In6 (s'.g x)
  turns : s'.turns ≤ s.turns
  said : s'.said.length ≤ s.said.length + z + (s.turns - s'.turns) * 1000
theorem RnPost.refl {nl : List Str} {s : MS} {z : Nat} (h : ∀ x ∈ nl, In6 (s.g x)) : RnPost nl s s z := ⟨h, Nat.le_refl _, by omega⟩
end Hu
namespace Hu
open PySem PySem.Spec PyProof.Rows L2 HuS
local macro_rules | `(tactic| walk_at "sm") => `(tactic| first
  | with_reducible assumption
  | exact Same.refl _
  | (refine Same.trans ?_ (same_new (by with_reducible assumption)); walk_at "sm")
  | (refine same_mut ?_ (by with_reducible assumption); walk_at "sm")
  | (refine Same.trans (H1 := ?M) ?a ?b; (case b => with_reducible assumption); (case a => walk_at "sm")))
local macro_rules | `(tactic| walk_at "sq") => `(tactic| first
  | with_reducible assumption
  | (refine same_t (H := ?M) ?e ?h; (case h => with_reducible assumption); (case e => walk_at "sm"))
  | (refine same_l (H := ?M) ?e ?h; (case h => with_reducible assumption); (case e => walk_at "sm"))
  | exact SqT.of upd_same
  | exact SqL.of upd_same
  | exact SqL.of (by with_reducible assumption)
  | exact SqT.of (by with_reducible assumption)
  | (refine SqL.of (Eq.trans (upd_ne ?n) ?h); (case h => with_reducible assumption); (case n => walk_at "ne"))
  | (refine SqT.of (Eq.trans (upd_ne ?n) ?h); (case h => with_reducible assumption); (case n => walk_at "ne")))
local macro_rules | `(tactic| walk_at "ne") => `(tactic| first | with_reducible assumption | exact ne_of_none (by with_reducible assumption) (by with_reducible assumption) | exact (ne_of_none (by with_reducible assumption) (by with_reducible assumption)).symm)
local macro_rules | `(tactic| walk_at "sz") => `(tactic| first | with_reducible assumption | (refine sz ?_; first | omega | (simp only [List.length_cons, List.length_nil, List.length_map]; omega) | (simp only [cs_len]; omega)))
set_option hygiene false in
local macro_rules | `(tactic| walk_at "new") => `(tactic| (refine w_new ?_ (fun p hp => ?_); (walk_at "sz")))
local macro_rules | `(tactic| walk_at "tr") => `(tactic| first | with_reducible assumption | with_reducible rfl | decide +kernel | exact decide_eq_true (by with_reducible assumption) | exact decide_eq_false (by with_reducible assumption))
local macro_rules | `(tactic| walk_at "go1") => `(tactic| first
  | with_reducible refine w_seq ?_
  | with_reducible refine w_if ?_
  | with_reducible refine w_asg ?_
  | with_reducible refine w_asgT ?_
  | with_reducible refine w_ret ?_
  | with_reducible refine w_next ?_
  | with_reducible refine w_drop ?_
  | with_reducible refine w_test ?_
  | with_reducible refine w_tB ?_
  | with_reducible refine w_op ?_
  | with_reducible refine w_c ?_
  | ((with_reducible refine w_var (v := ?v) ?h ?_); (case h => rfl))
  | with_reducible refine w_cons ?_
  | with_reducible refine w_nil ?_
  | with_reducible refine w_f ?_
  | with_reducible refine w_cb ?_
  | with_reducible refine w_bl ?_
  | ((with_reducible refine w_ixT (xs := ?xs) (v := ?v) ?h ?e ?_); (case h => walk_at "sq"); (case e => rfl))
  | ((with_reducible refine w_ixL (xs := ?xs) (v := ?v) ?h ?e ?_); (case h => walk_at "sq"); (case e => rfl))
  | with_reducible refine w_eqI ?_
  | with_reducible refine w_eqS ?_
  | with_reducible refine w_neI ?_
  | with_reducible refine w_neS ?_
  | with_reducible refine w_addI ?_
  | with_reducible refine w_sub ?_
  | ((with_reducible refine w_mod ?c ?_); (case c => (first | decide | omega)))
  | ((with_reducible refine w_div ?c ?_); (case c => (first | exact ⟨by decide, by decide⟩ | exact ⟨by omega, by omega⟩)))
  | with_reducible refine w_lt ?_
  | with_reducible refine w_le ?_
  | with_reducible refine w_gt ?_
  | with_reducible refine w_ge ?_
  | with_reducible refine w_and ?_
  | with_reducible refine w_or ?_
  | with_reducible refine w_not ?_
  | with_reducible refine w_andV ?_
  | with_reducible refine w_orV ?_
  | with_reducible refine w_notV ?_
  | with_reducible refine w_un ?_
  | with_reducible refine w_neg ?_
  | with_reducible refine w_intB ?_
  | with_reducible refine w_intI ?_
  | ((with_reducible refine w_yes ?e ?_); (case e => walk_at "tr"))
  | ((with_reducible refine w_no ?e ?_); (case e => walk_at "tr"))
  | with_reducible refine w_for ?_
  | with_reducible refine w_rng1 ?_
  | with_reducible refine w_iseq ?_
  | with_reducible refine w_sl ?_
  | with_reducible refine w_noP ?_
  | with_reducible refine w_tYes ?_
  | with_reducible refine w_gN ?_
  | ((with_reducible refine w_gTupN ?l ?_); (case l => rfl))
  | ((with_reducible refine w_gTup (xs := ?xs) ?h ?l ?_); (case h => walk_at "sq"); (case l => rfl))
  | with_reducible refine w_gCons ?_
  | with_reducible refine w_gNil ?_
  | with_reducible refine w_enum ?_
  | with_reducible refine w_rng2 ?_
  | with_reducible refine w_isNref ?_
  | with_reducible refine w_notNref ?_
  | with_reducible refine w_isNint ?_
  | with_reducible refine w_notNint ?_
  | with_reducible refine w_isNnon ?_
  | with_reducible refine w_notNnon ?_
  | with_reducible refine w_dget ?_
  | with_reducible refine w_dput ?_
  | with_reducible refine w_dnew ?_
  | with_reducible refine w_fld ?_
  | with_reducible refine w_sfld ?_
  | with_reducible refine w_m ?_
  | with_reducible refine w_mk ?_
  | with_reducible refine w_glt ?_
  | with_reducible refine w_chain ?_
  | with_reducible refine w_istr ?_
  | with_reducible refine w_retN ?_
  | with_reducible refine w_cont ?_
  | with_reducible refine w_part ?_
  | with_reducible refine w_exI ?_
  | with_reducible refine w_bm ?_
  | with_reducible refine w_bm0 ?_
  | with_reducible refine w_bmS ?_
  | ((with_reducible refine w_bmL (xs := ?xs) ?h ?_); (case h => walk_at "sq"))
  | with_reducible refine w_find ?_
  | ((with_reducible refine w_slS ?z ?_); (case z => walk_at "sz"))
  | ((with_reducible refine w_lenS ?z ?_); (case z => walk_at "sz"))
  | ((with_reducible refine w_addT ?z ?_); (case z => walk_at "sz"))
  | ((with_reducible refine w_lenL (xs := ?xs) ?h ?_); (case h => walk_at "sq"))
  | ((with_reducible refine w_lenT (xs := ?xs) ?h ?_); (case h => walk_at "sq"))
  | with_reducible refine w_lst ?_
  | with_reducible refine w_tup ?_)
local macro_rules | `(tactic| walk_at "go") => `(tactic| repeat walk_at "go1")
local macro_rules | `(tactic| walk_at "gn") => `(tactic| repeat ((fail_if_success (with_reducible refine w_next ?_)); walk_at "go1"))
local macro_rules | `(tactic| walk_at "sz1") => `(tactic| (simp only [List.length_cons, List.length_nil, List.length_map]; omega))
local macro_rules | `(tactic| walk_at "ss") => `(tactic| first
  | with_reducible assumption
  | with_reducible exact Same.refl _
  | ((with_reducible refine Same.trans (H1 := ?M) ?a ?b); (case b => with_reducible assumption); (case a => walk_at "ss"))
  | ((with_reducible refine same_mutX (H := ?M) ?a ?n ?b); (case b => with_reducible assumption); (case n => walk_at "nn"); (case a => walk_at "ss")))
local macro_rules | `(tactic| walk_at "nn") => `(tactic| first
  | with_reducible assumption
  | ((with_reducible refine none_of (H' := ?M) ?e ?h); (case h => with_reducible assumption); (case e => walk_at "ss")))
local macro_rules | `(tactic| walk_at "lk") => `(tactic| first
  | with_reducible assumption
  | ((with_reducible refine same_look (H := ?M) ?e ?h); (case h => with_reducible assumption); (case e => walk_at "ss")))
local macro_rules | `(tactic| walk_at "hp") => `(tactic| first
  | with_reducible assumption
  | walk_at "lk"
  | ((with_reducible refine same_t (H := ?M) ?e ?h); (case h => with_reducible assumption); (case e => walk_at "ss"))
  | ((with_reducible refine same_l (H := ?M) ?e ?h); (case h => with_reducible assumption); (case e => walk_at "ss"))
  | ((with_reducible refine sq_t (H := ?M) ?e ?h); (case h => with_reducible assumption); (case e => walk_at "ss"))
  | ((with_reducible refine sq_l (H := ?M) ?e ?h); (case h => with_reducible assumption); (case e => walk_at "ss"))
  | ((with_reducible refine FmAt.mono (H := ?M) ?e ?h); (case h => with_reducible assumption); (case e => walk_at "ss"))
  | ((with_reducible refine BkAt.monoS (H := ?M) ?e ?h); (case h => with_reducible assumption); (case e => walk_at "ss"))
  | ((with_reducible refine RwAt.monoS (H := ?M) ?e ?h); (case h => with_reducible assumption); (case e => walk_at "ss"))
  | ((with_reducible refine PrAt.mono (H := ?M) ?e ?h); (case h => with_reducible assumption); (case e => walk_at "ss")))
local macro_rules | `(tactic| walk_at "gx1") => `(tactic| first
  | with_reducible refine w_lst' ?_
  | with_reducible refine w_tup' ?_
  | ((with_reducible refine w_nw ?z (fun p H2 hn he hp => ?_)); (case z => walk_at "sz"))
  | ((with_reducible refine w_ixT (xs := ?xs) (v := ?v) ?h ?e ?_); (case h => walk_at "hp"); (case e => rfl))
  | ((with_reducible refine w_ixL (xs := ?xs) (v := ?v) ?h ?e ?_); (case h => walk_at "hp"); (case e => rfl))
  | ((with_reducible refine w_bmL (xs := ?xs) ?h ?_); (case h => walk_at "hp"))
  | ((with_reducible refine w_lenL (xs := ?xs) ?h ?_); (case h => walk_at "hp"))
  | ((with_reducible refine w_lenT (xs := ?xs) ?h ?_); (case h => walk_at "hp"))
  | ((with_reducible refine w_gTup (xs := ?xs) ?h ?l ?_); (case h => walk_at "hp"); (case l => rfl))
  | walk_at "go1"
  | ((with_reducible refine w_no ?e ?_); (case e => (simp only [eq_self_iff_true, decide_true, Bool.not_true]; done)))
  | ((with_reducible refine w_yes ?e ?_); (case e => (simp only [eq_self_iff_true, decide_true, Bool.not_false]; done))))
local macro_rules | `(tactic| walk_at "gx") => `(tactic| repeat walk_at "gx1")
local macro_rules | `(tactic| walk_at "gxn") => `(tactic| repeat ((fail_if_success (with_reducible refine w_next ?_)); walk_at "gx1"))
def NmAt (K : PySem.W.Frag) (H : Hp) (g : Str → Int) (v : V) (x : Str) : Prop := ∃ t, v = .ref t ∧ SqT K H t [.str x, .int (g x)]
theorem NmAt.monoT {K : PySem.W.Frag} {H H' : Hp} {g : Str → Int} (e : SameT H H') {v : V} {x : Str} (h : NmAt K H g v x) : NmAt K H' g v x := by
  obtain ⟨t, h1, h2⟩ := h
  exact ⟨t, h1, sameT_t e h2⟩
/-- what a run is asked with -/
structure RunPre (K : PySem.W.Frag) (H : Hp) (a D : Addr) (os ss ns : List Str) (b : List Rw) (g : Str → Int) : Prop where
  pr : PrAt K H a os ss b
  hD : H D = some (.dK (kvN (os ++ ss) g))
  in6 : ∀ x ∈ os ++ ss, In6 (g x)
  told : Told os ss
  ok : oks ns b
  nl : ns.length ≤ 200
  nest : nests b ≤ 8
  size : szs b ≤ 900
theorem RunPre.mono {K : PySem.W.Frag} {H H' : Hp} {a D : Addr} {os ss ns : List Str} {b : List Rw} {g : Str → Int} (e : Same H H') (h : RunPre K H a D os ss ns b g) : RunPre K H' a D os ss ns b g := ⟨h.pr.mono e, e _ _ h.hD, h.in6, h.told, h.ok, h.nl, h.nest, h.size⟩
mutual
inductive SzAt (K : PySem.W.Frag) (H : Hp) : V → Nat → Rw → Prop where
  | one {t : Addr} {v : V} {k : Nat} {r : Rw} (h : SqT K H t [.int (k : Nat), v]) (hr : RwAt K (SqT K) H v r) (hp : r.parts = []) : SzAt K H (.ref t) k r
  | ite {t l m : Addr} {v : V} {k : Nat} {f : Fm} {a b : List Rw} {xs ys : List V} (h : SqT K H t [.int (k : Nat), v, .ref l, .ref m]) (hr : RwAt K (SqT K) H v (.ite f a b)) (hl : H l = some (.lst xs)) (ha : SzL K H xs (k + 1) a) (hm : H m = some (.lst ys)) (hb : SzL K H ys (k + 1 + szs a) b) : SzAt K H (.ref t) k (.ite f a b)
  | whl {t l : Addr} {v : V} {k : Nat} {f : Fm} {a : List Rw} {xs : List V} (h : SqT K H t [.int (k : Nat), v, .ref l]) (hr : RwAt K (SqT K) H v (.whl f a)) (hl : H l = some (.lst xs)) (ha : SzL K H xs (k + 1) a) : SzAt K H (.ref t) k (.whl f a)
inductive SzL (K : PySem.W.Frag) (H : Hp) : List V → Nat → List Rw → Prop where
  | nil {k : Nat} : SzL K H [] k []
  | cons {v : V} {vs : List V} {k : Nat} {r : Rw} {l : List Rw} (h : SzAt K H v k r) (t : SzL K H vs (k + r.size) l) : SzL K H (v :: vs) k (r :: l)
end
/-- tuples and these lists stay -/
def SameK (H H' : Hp) : Prop := SameT H H' ∧ ∀ l xs, H l = some (.lst xs) → H' l = some (.lst xs)
theorem SameK.of {H H' : Hp} (e : Same H H') : SameK H H' := ⟨SameT.of e, fun l xs h => e l _ h⟩
mutual
theorem SzAt.go {K : PySem.W.Frag} {H H' : Hp} (e : SameK H H') : ∀ {v : V} {k : Nat} {r : Rw}, SzAt K H v k r → SzAt K H' v k r
  | _, _, _, .one h hr hp => .one (sameT_t e.1 h) (hr.monoT e.1) hp
  | _, _, _, .ite h hr hl ha hm hb => .ite (sameT_t e.1 h) (hr.monoT e.1) (e.2 _ _ hl) (ha.go e) (e.2 _ _ hm) (hb.go e)
  | _, _, _, .whl h hr hl ha => .whl (sameT_t e.1 h) (hr.monoT e.1) (e.2 _ _ hl) (ha.go e)
theorem SzL.go {K : PySem.W.Frag} {H H' : Hp} (e : SameK H H') : ∀ {vs : List V} {k : Nat} {l : List Rw}, SzL K H vs k l → SzL K H' vs k l
  | _, _, _, .nil => .nil
  | _, _, _, .cons h t => .cons (h.go e) (t.go e)
end
theorem SzL.snoc {K : PySem.W.Frag} {H : Hp} {v : V} {r : Rw} : ∀ {vs : List V} {k : Nat} {l : List Rw}, SzL K H vs k l → SzAt K H v (k + szs l) r → SzL K H (vs ++ [v]) k (l ++ [r])
  | _, _, _, .nil, h => .cons h .nil
  | _, _, _, .cons (k := k) (r := q) (l := l) h t, h2 => .cons h (t.snoc (by rw [Nat.add_assoc]; exact h2))
theorem SzL.len {K : PySem.W.Frag} {H : Hp} : ∀ {vs : List V} {k : Nat} {l : List Rw}, SzL K H vs k l → vs.length = l.length
  | _, _, _, .nil => rfl
  | _, _, _, .cons _ t => congrArg (· + 1) t.len
/-- the lists behind a row's tuple -/
inductive SzP (K : PySem.W.Frag) (H : Hp) : List V → List (List Rw) → Prop where
  | nil : SzP K H [] []
  | cons {l : Addr} {xs : List V} {k : Nat} {b : List Rw} {vs : List V} {bs : List (List Rw)} (hl : H l = some (.lst xs)) (h : SzL K H xs k b) (t : SzP K H vs bs) : SzP K H (.ref l :: vs) (b :: bs)
theorem SzAt.parts {K : PySem.W.Frag} {H : Hp} {v : V} {k : Nat} {r : Rw} (h : SzAt K H v k r) : ∃ t u vs, v = .ref t ∧ SqT K H t (.int (k : Nat) :: u :: vs) ∧ RwAt K (SqT K) H u r ∧ SzP K H vs r.parts := by
  cases h with
  | one h hr hp => exact ⟨_, _, [], rfl, h, hr, by rw [hp]; exact .nil⟩
  | ite h hr hl ha hm hb => exact ⟨_, _, _, rfl, h, hr, .cons hl ha (.cons hm hb .nil)⟩
  | whl h hr hl ha => exact ⟨_, _, _, rfl, h, hr, .cons hl ha .nil⟩
theorem SzP.all2 {K : PySem.W.Frag} {H : Hp} : ∀ {vs : List V} {bs : List (List Rw)}, SzP K H vs bs → All2 (fun v b => ∃ l xs k, v = .ref l ∧ H l = some (.lst xs) ∧ SzL K H xs k b) vs bs
  | _, _, .nil => .nil
  | _, _, .cons hl h t => .cons ⟨_, _, _, rfl, hl, h⟩ t.all2
theorem SzL.all2 {K : PySem.W.Frag} {H : Hp} : ∀ {vs : List V} {k : Nat} {l : List Rw}, SzL K H vs k l → All2 (fun v r => ∃ k, SzAt K H v k r) vs l
  | _, _, _, .nil => .nil
  | _, _, _, .cons h t => .cons ⟨_, h⟩ t.all2
/-- a heap without the lists of an earlier one -/
def Del (H H' : Hp) : Hp := fun a => match H a with
  | some (.lst _) => none
  | _ => H' a
theorem del_same {H H' : Hp} : Same (Del H H') H' := fun a o h => by
  unfold Del at h
  split at h
  · exact nomatch h
  · exact h
theorem del_new {H H' : Hp} {a : Addr} {o : HO} (n : H a = none) (h : H' a = some o) : Del H H' a = some o := by
  unfold Del
  rw [n]
  exact h
theorem del_T {H H' : Hp} (e : ∀ a xs, H a = some (.lst xs) → ∃ ys, H' a = some (.lst ys)) : SameT H' (Del H H') := fun a o h f => by
  unfold Del
  split
  · rename_i xs hx
    obtain ⟨ys, hy⟩ := e a xs hx
    rw [hy] at h
    rw [← Option.some.inj h] at f
    exact nomatch f
  · exact h
theorem del_mono {H1 H2 H' H'' : Hp} (e : ∀ a xs, H1 a = some (.lst xs) → ∃ ys, H2 a = some (.lst ys)) (s : ∀ a o, (∀ xs, H1 a ≠ some (.lst xs)) → H' a = some o → H'' a = some o) : Same (Del H2 H') (Del H1 H'') := fun a o h => by
  unfold Del at h ⊢
  split at h
  · exact nomatch h
  · rename_i c
    split
    · rename_i xs hx
      obtain ⟨ys, hy⟩ := e a xs hx
      exact absurd hy (c ys)
    · rename_i c2
      exact s a o (fun xs q => c2 xs q) h
theorem ll_same {H H' : Hp} (e : Same H H') : ∀ a xs, H a = some (.lst xs) → ∃ ys, H' a = some (.lst ys) := fun a xs h => ⟨xs, e _ _ h⟩
theorem ll_x {p : Addr} {H H' : Hp} {zs : List V} (e : SameX p H H') (h : H' p = some (.lst zs)) : ∀ a xs, H a = some (.lst xs) → ∃ ys, H' a = some (.lst ys) := fun a xs ha => by
  by_cases c : a = p
  · exact ⟨zs, c ▸ h⟩
  · exact ⟨xs, e _ _ c ha⟩
theorem none_x {p a : Addr} {H H' : Hp} {o : HO} (e : SameX p H H') (h : H' p = some o) (n : H' a = none) : H a = none := by
  cases d : H a with
  | none => rfl
  | some u =>
    by_cases c : a = p
    · rw [c, h] at n
      exact nomatch n
    · rw [e _ _ c d] at n
      exact nomatch n
theorem BkAt.all2 {K : PySem.W.Frag} {S : SQ} {H : Hp} : ∀ {vs : List V} {l : List Rw}, BkAt K S H vs l → All2 (RwAt K S H) vs l
  | _, _, .nil => .nil
  | _, _, .cons h t => .cons h t.all2
def Fm.wds : Fm → List (List Nat)
  | .num n => [TL.numL n.toNat]
  | .nam x => [cs x]
  | .op s a b => cs s.txt :: (a.wds ++ b.wds)
def ln (ws : List (List Nat)) : Str := SX.S (TL.joinL [32] ws)
def Fm.text (f : Fm) : Str := ln f.wds
theorem wds_ne : ∀ f : Fm, f.wds ≠ []
  | .num _ => List.cons_ne_nil _ _
  | .nam _ => List.cons_ne_nil _ _
  | .op _ _ _ => List.cons_ne_nil _ _
theorem joinL_cons {S p : List Nat} : ∀ {ws : List (List Nat)}, ws ≠ [] → TL.joinL S (p :: ws) = p ++ (S ++ TL.joinL S ws)
  | [], h => absurd rfl h
  | _ :: _, _ => rfl
theorem joinL_app {S : List Nat} : ∀ {a b : List (List Nat)}, a ≠ [] → b ≠ [] → TL.joinL S (a ++ b) = TL.joinL S a ++ (S ++ TL.joinL S b)
  | [], _, h, _ => absurd rfl h
  | [p], b, _, hb => joinL_cons hb
  | p :: q :: r, b, _, hb => by
    show p ++ (S ++ TL.joinL S ((q :: r) ++ b)) = p ++ (S ++ TL.joinL S (q :: r)) ++ (S ++ TL.joinL S b)
    rw [joinL_app (List.cons_ne_nil _ _) hb, List.append_assoc, List.append_assoc]
theorem sp_S : (" " : Str) = SX.S [32] := by decide +kernel
theorem ln_cons {p : List Nat} {ws : List (List Nat)} (h : ws ≠ []) : SX.S p ++ (" " : Str) ++ ln ws = ln (p :: ws) := by
  unfold ln
  rw [joinL_cons h, sp_S, SX.S_cat, SX.S_cat, List.append_assoc]
theorem ln_app {a b : List (List Nat)} (ha : a ≠ []) (hb : b ≠ []) : ln a ++ (" " : Str) ++ ln b = ln (a ++ b) := by
  unfold ln
  rw [joinL_app ha hb, sp_S, SX.S_cat, SX.S_cat, List.append_assoc]
theorem cs_S (x : Str) : SX.S (cs x) = x := SX.S_tl x
theorem text_op (s : Sg) (a b : Fm) : s.txt ++ (" " : Str) ++ a.text ++ (" " : Str) ++ b.text = (Fm.op s a b).text := by
  have h1 := ln_cons (p := cs s.txt) (wds_ne a)
  rw [cs_S] at h1
  show s.txt ++ (" " : Str) ++ ln a.wds ++ (" " : Str) ++ ln b.wds = ln (cs s.txt :: (a.wds ++ b.wds))
  rw [h1]
  exact ln_app (a := cs s.txt :: a.wds) (List.cons_ne_nil _ _) (wds_ne b)
theorem ln_len (ws : List (List Nat)) : (ln ws).length = (TL.joinL [32] ws).length := SX.S_len _
theorem text_len {ns : List Str} (hn : ∀ x ∈ ns, Nm x) : ∀ {f : Fm}, f.ok ns → f.text.length + 3 ≤ 11 * 2 ^ f.depth
  | .num n, h => by
    have := TL.numL_len (n := n.toNat) (k := 6) (by decide) (by have := h.2; have := h.1; omega)
    show (ln [_]).length + 3 ≤ 22
    rw [ln_len]
    show (TL.numL n.toNat).length + 3 ≤ 22
    omega
  | .nam x, h => by
    have := (hn x h).most
    show (ln [_]).length + 3 ≤ 22
    rw [ln_len]
    show (cs x).length + 3 ≤ 22
    omega
  | .op s a b, h => by
    have h1 := text_len hn h.1
    have h2 := text_len hn h.2
    have l1 : 2 ^ a.depth ≤ 2 ^ max a.depth b.depth := Nat.pow_le_pow_right (by decide) (Nat.le_max_left _ _)
    have l2 : 2 ^ b.depth ≤ 2 ^ max a.depth b.depth := Nat.pow_le_pow_right (by decide) (Nat.le_max_right _ _)
    have e : (Fm.op s a b).text.length = 3 + (a.text.length + b.text.length) := by
      show (ln (cs s.txt :: (a.wds ++ b.wds))).length = 3 + ((ln a.wds).length + (ln b.wds).length)
      rw [ln_len, ln_len, ln_len, joinL_cons (by have := wds_ne a; cases hh : a.wds with | nil => exact absurd hh this | cons _ _ => exact List.cons_ne_nil _ _), joinL_app (wds_ne a) (wds_ne b)]
      have : (cs s.txt).length = 1 := by cases s <;> decide +kernel
      simp only [List.length_append, List.length_singleton, this]
      omega
    show (Fm.op s a b).text.length + 3 ≤ 11 * 2 ^ (max a.depth b.depth + 1)
    rw [e, Nat.pow_succ]
    omega
theorem text_small {ns : List Str} (hn : ∀ x ∈ ns, Nm x) {f : Fm} (h : f.ok ns) (d : f.depth ≤ 18) : f.text.length ≤ 3000000 := by
  have := text_len hn h
  have : 2 ^ f.depth ≤ 2 ^ 18 := Nat.pow_le_pow_right (by decide) d
  omega
theorem str_len_app (a b : Str) : (a ++ b).length = a.length + b.length := by
  rw [← SX.S_tl a, ← SX.S_tl b, SX.S_cat, SX.S_len, SX.S_len, SX.S_len, List.length_append]
theorem num_text {n : Int} (h : 0 ≤ n) : Str.ofString (toString n) = (Fm.num n).text := by
  obtain ⟨m, rfl⟩ := Int.eq_ofNat_of_zero_le h
  exact SX.num_S m
theorem nam_text (x : Str) : (Fm.nam x).text = x := cs_S x
theorem small_log {n : Int} (h0 : 0 ≤ n) (h : n < 1000000) : n.natAbs.log2 < 1920 := by
  obtain ⟨m, rfl⟩ := Int.eq_ofNat_of_zero_le h0
  show m.log2 < 1920
  by_cases c : m = 0
  · subst c; decide
  · have := (Nat.log2_lt c (k := 20)).mpr (by omega)
    omega
theorem sg_not (s : Sg) : decide (s.txt = ("number" : Str)) = false ∧ decide (s.txt = ("name" : Str)) = false := by cases s <;> decide +kernel
def sp_formula_text (K : PySem.W.Frag) (n : Nat) : Sp := fun vs H Q _ => ∃ (v : V) (f : Fm) (ns : List Str), vs = [v] ∧ FmAt K H v f ∧ f.ok ns ∧ (∀ x ∈ ns, Nm x) ∧ f.depth ≤ n ∧ f.depth ≤ 18 ∧ Q (.str f.text) H
def sp_law_text (K : PySem.W.Frag) (n : Nat) : Sp := sp_formula_text K n
abbrev N_formula_text : List Str := ["formula"]
noncomputable def t_formula_text (K : PySem.W.Frag) (n : Nat) : TS :=
  (tSeq (tIfS (tTest (tOp (rEq2 K) (tOp (rIx K) (tVar 0) (tC (.int 0))) (tC (.str "number")))) (tRet (tCB rStr (tCons (tOp (rIx K) (tVar 0) (tC (.int 1))) tNil))) tNext) (tSeq (tIfS (tTest (tOp (rEq2 K) (tOp (rIx K) (tVar 0) (tC (.int 0))) (tC (.str "name")))) (tRet (tOp (rIx K) (tVar 0) (tC (.int 1)))) tNext) (tRet (tOp (rAdd K) (tOp (rAdd K) (tOp (rAdd K) (tOp (rAdd K) (tOp (rIx K) (tVar 0) (tC (.int 0))) (tC (.str " "))) (tF (sp_formula_text K n) (tCons (tOp (rIx K) (tVar 0) (tC (.int 1))) tNil))) (tC (.str " "))) (tF (sp_formula_text K n) (tCons (tOp (rIx K) (tVar 0) (tC (.int 2))) tNil))))))
abbrev N_law_text : List Str := ["_law_formula"]
noncomputable def t_law_text (K : PySem.W.Frag) (n : Nat) : TS :=
  (tSeq (tIfS (tTest (tOp (rEq2 K) (tOp (rIx K) (tVar 0) (tC (.int 0))) (tC (.str "number")))) (tRet (tCB rStr (tCons (tOp (rIx K) (tVar 0) (tC (.int 1))) tNil))) tNext) (tSeq (tIfS (tTest (tOp (rEq2 K) (tOp (rIx K) (tVar 0) (tC (.int 0))) (tC (.str "name")))) (tRet (tOp (rIx K) (tVar 0) (tC (.int 1)))) tNext) (tRet (tOp (rAdd K) (tOp (rAdd K) (tOp (rAdd K) (tOp (rAdd K) (tOp (rIx K) (tVar 0) (tC (.int 0))) (tC (.str " "))) (tF (sp_law_text K n) (tCons (tOp (rIx K) (tVar 0) (tC (.int 1))) tNil))) (tC (.str " "))) (tF (sp_law_text K n) (tCons (tOp (rIx K) (tVar 0) (tC (.int 2))) tNil))))))
theorem no_formula_text {K : PySem.W.Frag} : ∀ vs H Q E, ¬ sp_formula_text K 0 vs H Q E := by
  rintro vs H Q E ⟨_, f, _, _, _, _, _, h, _⟩
  have := f.depth_pos
  omega
theorem no_law_text {K : PySem.W.Frag} : ∀ vs H Q E, ¬ sp_law_text K 0 vs H Q E := no_formula_text
theorem pure_formula_text (K : PySem.W.Frag) (n : Nat) (vs : List V) (H : Hp) (Q : VK) (E : XK) (h : sp_formula_text K (n + 1) vs H Q E) :
    t_formula_text K n { nx := fun _ H' => Q .non H', rt := Q } (start N_formula_text vs) H := by
  obtain ⟨v, f, ns, rfl, hf, ho, hN, hd, h18, q⟩ := h
  unfold t_formula_text
  cases hf with
  | num h =>
    walk_at "gx"
    refine w_str (small_log ho.1 ho.2) ?_
    rw [num_text ho.1]
    exact q
  | nam h =>
    walk_at "gx"
    rw [nam_text] at q
    exact q
  | op h ha hb =>
    walk_at "gx"
    rename_i a0 s u v f g
    refine w_no (sg_not s).1 ?_
    walk_at "gx"
    refine w_no (sg_not s).2 ?_
    walk_at "gx"
    have sl : s.txt.length = 1 := by cases s <;> decide +kernel
    have spl : (" " : Str).length = 1 := by decide +kernel
    have hd' : f.depth ≤ n ∧ g.depth ≤ n ∧ f.depth ≤ 18 ∧ g.depth ≤ 18 := by
      have e : (Fm.op s f g).depth = max f.depth g.depth + 1 := rfl
      omega
    have t1 := text_small hN ho.1 hd'.2.2.1
    have t2 := text_small hN ho.2 hd'.2.2.2
    refine w_addT (Nat.le_of_lt (lt_line (by omega))) ?_
    walk_at "gx"
    refine ⟨u, f, ns, rfl, ha, ho.1, hN, hd'.1, hd'.2.2.1, ?_⟩
    refine w_addT (Nat.le_of_lt (lt_line (by rw [str_len_app]; omega))) ?_
    walk_at "gx"
    refine w_addT (Nat.le_of_lt (lt_line (by rw [str_len_app, str_len_app]; omega))) ?_
    walk_at "gx"
    refine ⟨v, g, ns, rfl, hb, ho.2, hN, hd'.2.1, hd'.2.2.2, ?_⟩
    refine w_addT (Nat.le_of_lt (lt_line (by rw [str_len_app, str_len_app, str_len_app]; omega))) ?_
    rw [text_op]
    exact q
theorem pure_law_text (K : PySem.W.Frag) (n : Nat) (vs : List V) (H : Hp) (Q : VK) (E : XK) (h : sp_law_text K (n + 1) vs H Q E) :
    t_law_text K n { nx := fun _ H' => Q .non H', rt := Q } (start N_law_text vs) H := pure_formula_text K n vs H Q E h
mutual
def Rw.lns : Rw → List Str
  | .set x f => [ln (cs "set" :: cs x :: f.wds)]
  | .tell f => [ln (cs "tell" :: f.wds)]
  | .skip => ["skip"]
  | .ite f a b => ln (cs "if" :: f.wds) :: (lnsB a ++ ("else" : Str) :: (lnsB b ++ [("end" : Str)]))
  | .whl f a => ln (cs "while" :: f.wds) :: (lnsB a ++ [("end" : Str)])
def lnsB : List Rw → List Str
  | [] => []
  | r :: l => r.lns ++ lnsB l
end
theorem lnsB_app : ∀ a b : List Rw, lnsB (a ++ b) = lnsB a ++ lnsB b
  | [], b => rfl
  | r :: l, b => by
    show r.lns ++ lnsB (l ++ b) = r.lns ++ lnsB l ++ lnsB b
    rw [lnsB_app l b, List.append_assoc]
mutual
theorem lns_len : ∀ r : Rw, r.lns.length ≤ 3 * r.size
  | .set _ _ => by show 1 ≤ 3; omega
  | .tell _ => by show 1 ≤ 3; omega
  | .skip => by show 1 ≤ 3; omega
  | .ite f a b => by
    have h1 := lnsB_len a
    have h2 := lnsB_len b
    show (lnsB a ++ ("else" : Str) :: (lnsB b ++ [("end" : Str)])).length + 1 ≤ 3 * (1 + (szs a + szs b))
    rw [List.length_append, List.length_cons, List.length_append, List.length_singleton]
    omega
  | .whl f a => by
    have h1 := lnsB_len a
    show (lnsB a ++ [("end" : Str)]).length + 1 ≤ 3 * (1 + szs a)
    rw [List.length_append, List.length_singleton]
    omega
theorem lnsB_len : ∀ l : List Rw, (lnsB l).length ≤ 3 * szs l
  | [] => Nat.zero_le _
  | r :: l => by
    have h1 := lns_len r
    have h2 := lnsB_len l
    show (r.lns ++ lnsB l).length ≤ 3 * (r.size + szs l)
    rw [List.length_append]
    omega
end
def sp_written (K : PySem.W.Frag) (n : Nat) : Sp := fun vs H Q _ => ∃ (a : Addr) (xs : List V) (b : List Rw) (ns : List Str), vs = [.ref a] ∧ SE K H a xs ∧ BkAt K (SE K) H xs b ∧ oks ns b ∧ (∀ x ∈ ns, Nm x) ∧ nests b < n ∧ szs b ≤ 1000 ∧
  ∀ (p : Addr) (H' : Hp), Same H H' → H p = none → H' p = some (.lst ((lnsB b).map V.str)) → Q (.ref p) H'
def sp_law_lines (K : PySem.W.Frag) (n : Nat) : Sp := sp_written K n
theorem no_written {K : PySem.W.Frag} : ∀ vs H Q E, ¬ sp_written K 0 vs H Q E := by
  rintro vs H Q E ⟨_, _, _, _, _, _, _, _, _, h, _⟩
  omega
theorem no_law_lines {K : PySem.W.Frag} : ∀ vs H Q E, ¬ sp_law_lines K 0 vs H Q E := no_written
/-- the parts of a line -/
theorem line_set (x : Str) (f : Fm) : ("set " : Str) ++ x ++ (" " : Str) ++ f.text = ln (cs "set" :: cs x :: f.wds) := by
  have e : ("set " : Str) = ("set" : Str) ++ (" " : Str) := by decide +kernel
  have h1 := ln_cons (p := cs x) (wds_ne f)
  have h2 := ln_app (a := [cs "set"]) (b := cs x :: f.wds) (List.cons_ne_nil _ _) (List.cons_ne_nil _ _)
  rw [cs_S] at h1
  show ("set " : Str) ++ x ++ (" " : Str) ++ ln f.wds = _
  have s1 : ln [cs ("set" : Str)] = ("set" : Str) := cs_S _
  rw [s1, ← e, ← h1] at h2
  have as : ∀ a b c : Str, a ++ b ++ c = a ++ (b ++ c) := fun a b c => by
    rw [← SX.S_tl a, ← SX.S_tl b, ← SX.S_tl c, SX.S_cat, SX.S_cat, SX.S_cat, SX.S_cat, List.append_assoc]
  rw [as, as, ← as x] 
  exact h2
theorem line_word (w : Str) (f : Fm) : w ++ (" " : Str) ++ f.text = ln (cs w :: f.wds) := by
  have h1 := ln_cons (p := cs w) (wds_ne f)
  rw [cs_S] at h1
  exact h1
abbrev N_written : List Str := ["block", "lines", "row"]
noncomputable def t_written_j1 (K : PySem.W.Frag) (n : Nat) : TS :=
  (tIfS (tTest (tOp (rEq2 K) (tOp (rIx K) (tVar 2) (tC (.int 0))) (tC (.str "while")))) (tAsg (tOp (rAdd K) (tOp (rAdd K) (tVar 1) (tF (sp_written K n) (tCons (tOp (rIx K) (tVar 2) (tC (.int 2))) tNil))) (tLst (tCons (tC (.str "end")) tNil))) (gName 1)) tNext)
noncomputable def t_written_j2 (K : PySem.W.Frag) (n : Nat) : TS :=
  (tSeq (tIfS (tTest (tOp (rEq2 K) (tOp (rIx K) (tVar 2) (tC (.int 0))) (tC (.str "if")))) (tAsg (tOp (rAdd K) (tOp (rAdd K) (tOp (rAdd K) (tOp (rAdd K) (tVar 1) (tF (sp_written K n) (tCons (tOp (rIx K) (tVar 2) (tC (.int 2))) tNil))) (tLst (tCons (tC (.str "else")) tNil))) (tF (sp_written K n) (tCons (tOp (rIx K) (tVar 2) (tC (.int 3))) tNil))) (tLst (tCons (tC (.str "end")) tNil))) (gName 1)) tNext) (t_written_j1 K n))
noncomputable def t_written (K : PySem.W.Frag) (n : Nat) : TS :=
  (tSeq (tAsg (tLst tNil) (gName 1)) (tSeq (tFor (iSeq K (tVar 0)) (gName 2) (tSeq (tIfS (tTest (tOp (rEq2 K) (tOp (rIx K) (tVar 2) (tC (.int 0))) (tC (.str "skip")))) (tDrop (tBM K "list" rAppend (tVar 1) (tCons (tC (.str "skip")) tNil))) (tIfS (tTest (tOp (rEq2 K) (tOp (rIx K) (tVar 2) (tC (.int 0))) (tC (.str "set")))) (tDrop (tBM K "list" rAppend (tVar 1) (tCons (tOp (rAdd K) (tOp (rAdd K) (tOp (rAdd K) (tC (.str "set ")) (tOp (rIx K) (tVar 2) (tC (.int 1)))) (tC (.str " "))) (tF (sp_formula_text K 18) (tCons (tOp (rIx K) (tVar 2) (tC (.int 2))) tNil))) tNil))) (tDrop (tBM K "list" rAppend (tVar 1) (tCons (tOp (rAdd K) (tOp (rAdd K) (tOp (rIx K) (tVar 2) (tC (.int 0))) (tC (.str " "))) (tF (sp_formula_text K 18) (tCons (tOp (rIx K) (tVar 2) (tC (.int 1))) tNil))) tNil))))) (t_written_j2 K n))) (tRet (tVar 1))))
abbrev N_law_lines : List Str := ["_law_block", "_law_lines_here", "_law_row"]
noncomputable def t_law_lines_j1 (K : PySem.W.Frag) (n : Nat) : TS :=
  (tIfS (tTest (tOp (rEq2 K) (tOp (rIx K) (tVar 2) (tC (.int 0))) (tC (.str "while")))) (tAsg (tOp (rAdd K) (tOp (rAdd K) (tVar 1) (tF (sp_law_lines K n) (tCons (tOp (rIx K) (tVar 2) (tC (.int 2))) tNil))) (tLst (tCons (tC (.str "end")) tNil))) (gName 1)) tNext)
noncomputable def t_law_lines_j2 (K : PySem.W.Frag) (n : Nat) : TS :=
  (tSeq (tIfS (tTest (tOp (rEq2 K) (tOp (rIx K) (tVar 2) (tC (.int 0))) (tC (.str "if")))) (tAsg (tOp (rAdd K) (tOp (rAdd K) (tOp (rAdd K) (tOp (rAdd K) (tVar 1) (tF (sp_law_lines K n) (tCons (tOp (rIx K) (tVar 2) (tC (.int 2))) tNil))) (tLst (tCons (tC (.str "else")) tNil))) (tF (sp_law_lines K n) (tCons (tOp (rIx K) (tVar 2) (tC (.int 3))) tNil))) (tLst (tCons (tC (.str "end")) tNil))) (gName 1)) tNext) (t_law_lines_j1 K n))
noncomputable def t_law_lines (K : PySem.W.Frag) (n : Nat) : TS :=
  (tSeq (tAsg (tLst tNil) (gName 1)) (tSeq (tFor (iSeq K (tVar 0)) (gName 2) (tSeq (tIfS (tTest (tOp (rEq2 K) (tOp (rIx K) (tVar 2) (tC (.int 0))) (tC (.str "set")))) (tDrop (tBM K "list" rAppend (tVar 1) (tCons (tOp (rAdd K) (tOp (rAdd K) (tOp (rAdd K) (tC (.str "set ")) (tOp (rIx K) (tVar 2) (tC (.int 1)))) (tC (.str " "))) (tF (sp_law_text K 18) (tCons (tOp (rIx K) (tVar 2) (tC (.int 2))) tNil))) tNil))) (tIfS (tTest (tOp (rEq2 K) (tOp (rIx K) (tVar 2) (tC (.int 0))) (tC (.str "skip")))) (tDrop (tBM K "list" rAppend (tVar 1) (tCons (tC (.str "skip")) tNil))) (tDrop (tBM K "list" rAppend (tVar 1) (tCons (tOp (rAdd K) (tOp (rAdd K) (tOp (rIx K) (tVar 2) (tC (.int 0))) (tC (.str " "))) (tF (sp_law_text K 18) (tCons (tOp (rIx K) (tVar 2) (tC (.int 1))) tNil))) tNil))))) (t_law_lines_j2 K n))) (tRet (tVar 1))))
theorem pure_written (K : PySem.W.Frag) (n : Nat) (vs : List V) (H : Hp) (Q : VK) (E : XK) (h : sp_written K (n + 1) vs H Q E) :
    t_written K n { nx := fun _ H' => Q .non H', rt := Q } (start N_written vs) H := by
  obtain ⟨a, xs, b, ns, rfl, hs, hb, ho, hN, hn, hz, q⟩ := h
  have ll := lnsB_len b
  unfold t_written
  walk_at "gx"
  rename_i l0 H1 nl0 e1 hl0
  have hl0 : H1 l0 = some (.lst []) := hl0
  refine for_al (as := b) (P := RwAt K (SE K) H) (fun pre σ H' => Same H H' ∧ ∃ (l : Addr) (w2 : Option V), σ = [some (.ref a), some (.ref l), w2] ∧ H l = none ∧ H' l = some (.lst ((lnsB pre).map V.str)))
    hs hb.all2 ⟨e1, l0, _, rfl, nl0, hl0⟩ (fun _ _ _ h => h.1) ?_ ?_
  · rintro pre r post v σ H2 eb hv ⟨e2, l, w2, rfl, nl, hl⟩
    have hx : r ∈ b := eb ▸ List.mem_append_right _ (List.mem_cons_self ..)
    have rn := nest_mem hx
    have rz := sz_mem hx
    have ro := oks_mem ho r hx
    have hv2 := hv.monoE e2
    have lp : (lnsB pre).length + r.lns.length ≤ 3000 := by
      have e0 : (lnsB b).length = (lnsB pre).length + (lnsB (r :: post)).length := by rw [eb, lnsB_app, List.length_append]
      have : (lnsB (r :: post)).length = r.lns.length + (lnsB post).length := List.length_append
      omega
    have en : lnsB (pre ++ [r]) = lnsB pre ++ r.lns := by
      rw [lnsB_app]
      show lnsB pre ++ (r.lns ++ []) = _
      rw [List.append_nil]
    have app : ∀ (H3 H4 : Hp) (y : Str), Same H2 H3 → SameX l H3 H4 → H4 l = some (.lst ((lnsB pre).map V.str ++ [.str y])) → Same H H4 ∧ H4 l = some (.lst ((lnsB pre ++ [y]).map V.str)) := by
      intro H3 H4 y e3 x4 h4
      exact ⟨SameX.same (e2.trans e3) nl x4, by rw [h4, List.map_append] <;> rfl⟩
    have pl : ((lnsB pre).map V.str).length < sizeLine := lt_line (by rw [List.length_map]; omega)
    cases hv2 with
    | skip h =>
      walk_at "gx"
      refine w_app' hl pl (fun H4 x4 t4 h4 => ?_)
      have h' := sameT_t t4 h
      obtain ⟨g1, g2⟩ := app H2 H4 "skip" (Same.refl _) x4 h4
      walk_at "gx"
      try unfold t_written_j2
      walk_at "gx"
      try unfold t_written_j1
      walk_at "gx"
      exact ⟨g1, l, _, rfl, nl, by rw [en]; exact g2⟩
    | set h hf =>
      rename_i a0 x u f
      have xl : x.length ≤ 8 := by
        have := (hN x ro.1).most
        rw [← cs_S x, SX.S_len]
        exact this
      have tl := text_small hN ro.2.1 (Nat.le_trans ro.2.2 (by decide))
      have s4 : ("set " : Str).length = 4 := by decide +kernel
      have s1 : (" " : Str).length = 1 := by decide +kernel
      walk_at "gx"
      refine w_addT (Nat.le_of_lt (lt_line (by rw [str_len_app]; omega))) ?_
      walk_at "gx"
      refine ⟨u, f, ns, rfl, hf, ro.2.1, hN, Nat.le_trans ro.2.2 (by decide), Nat.le_trans ro.2.2 (by decide), ?_⟩
      refine w_addT (Nat.le_of_lt (lt_line (by rw [str_len_app, str_len_app]; omega))) ?_
      rw [line_set]
      walk_at "gx"
      refine w_app' hl pl (fun H4 x4 t4 h4 => ?_)
      have h' := sameT_t t4 h
      obtain ⟨g1, g2⟩ := app H2 H4 _ (Same.refl _) x4 h4
      walk_at "gx"
      try unfold t_written_j2
      walk_at "gx"
      try unfold t_written_j1
      walk_at "gx"
      exact ⟨g1, l, _, rfl, nl, by rw [en]; exact g2⟩
    | tell h hf =>
      rename_i a0 u f
      have tl := text_small hN ro.1 (Nat.le_trans ro.2 (by decide))
      have s4 : ("tell" : Str).length = 4 := by decide +kernel
      have s1 : (" " : Str).length = 1 := by decide +kernel
      walk_at "gx"
      refine ⟨u, f, ns, rfl, hf, ro.1, hN, Nat.le_trans ro.2 (by decide), Nat.le_trans ro.2 (by decide), ?_⟩
      refine w_addT (Nat.le_of_lt (lt_line (by rw [str_len_app]; omega))) ?_
      rw [line_word]
      walk_at "gx"
      refine w_app' hl pl (fun H4 x4 t4 h4 => ?_)
      have h' := sameT_t t4 h
      obtain ⟨g1, g2⟩ := app H2 H4 _ (Same.refl _) x4 h4
      walk_at "gx"
      try unfold t_written_j2
      walk_at "gx"
      try unfold t_written_j1
      walk_at "gx"
      exact ⟨g1, l, _, rfl, nl, by rw [en]; exact g2⟩
    | ite h hf hp hb1 hq hc =>
      rename_i a0 p0 q0 u f xs0 ys0 b0 c0
      have tl := text_small hN ro.1.1 (Nat.le_trans ro.1.2 (by decide))
      have s4 : ("if" : Str).length = 2 := by decide +kernel
      have s1 : (" " : Str).length = 1 := by decide +kernel
      have rn' : 1 + max (nests b0) (nests c0) ≤ nests b := rn
      have rz' : 1 + (szs b0 + szs c0) ≤ szs b := rz
      have l1 := lnsB_len b0
      have l2 := lnsB_len c0
      walk_at "gx"
      refine ⟨u, f, ns, rfl, hf, ro.1.1, hN, Nat.le_trans ro.1.2 (by decide), Nat.le_trans ro.1.2 (by decide), ?_⟩
      refine w_addT (Nat.le_of_lt (lt_line (by rw [str_len_app]; omega))) ?_
      rw [line_word]
      walk_at "gx"
      refine w_app' hl pl (fun H4 x4 t4 h4 => ?_)
      obtain ⟨g1, g2⟩ := app H2 H4 _ (Same.refl _) x4 h4
      cases hv.monoE g1 with
      | ite h5 hf5 hp5 hb5 hq5 hc5 =>
      clear h hp hq hb1 hc
      walk_at "gx"
      try unfold t_written_j2
      walk_at "gx"
      refine ⟨_, _, b0, ns, rfl, hp5, hb5, ro.2.1, hN, by omega, by omega, fun p5 H5 e5 n5 hp5' => ?_⟩
      refine w_addL' (e5 _ _ g2) hp5' (by rw [List.length_map, List.length_map, List.length_append, List.length_singleton]; exact Nat.le_of_lt (lt_line (by omega))) fun p6 H6 n6 e6 hp6 => ?_
      rw [← List.map_append] at hp6
      walk_at "gx"
      rename_i p7 H7 n7 e7 hp7
      refine w_addL' (e7 _ _ hp6) hp7 (by rw [List.length_map, List.length_append, List.length_append, List.length_singleton]; exact Nat.le_of_lt (lt_line (by show _ + 1 ≤ _; omega))) fun p8 H8 n8 e8 hp8 => ?_
      rw [show [V.str "else"] = [("else" : Str)].map V.str from rfl, ← List.map_append] at hp8
      walk_at "gx"
      have e48 := e5.trans (e6.trans (e7.trans e8))
      refine ⟨_, _, c0, ns, rfl, se_same e48 hq5, hc5.monoE e48, ro.2.2, hN, by omega, by omega, fun p9 H9 e9 n9 hp9 => ?_⟩
      refine w_addL' (e9 _ _ hp8) hp9 (by rw [List.length_map, List.length_map, List.length_append, List.length_append, List.length_append, List.length_singleton, List.length_singleton]; exact Nat.le_of_lt (lt_line (by omega))) fun p10 H10 n10 e10 hp10 => ?_
      rw [← List.map_append] at hp10
      walk_at "gx"
      rename_i p11 H11 n11 e11 hp11
      refine w_addL' (e11 _ _ hp10) hp11 (by rw [List.length_map, List.length_append, List.length_append, List.length_append, List.length_append, List.length_singleton, List.length_singleton]; exact Nat.le_of_lt (lt_line (by show _ + 1 ≤ _; omega))) fun p12 H12 n12 e12 hp12 => ?_
      rw [show [V.str "end"] = [("end" : Str)].map V.str from rfl, ← List.map_append] at hp12
      walk_at "gx"
      try unfold t_written_j1
      have e811 := e9.trans (e10.trans e11)
      have e412 := e48.trans (e811.trans e12)
      have h12 := same_t e412 h5
      walk_at "gx"
      refine ⟨g1.trans e412, p12, _, rfl, none_of (g1.trans (e48.trans e811)) n12, ?_⟩
      rw [hp12, en]
      show some (HO.lst _) = some (HO.lst _)
      congr 2
      simp only [Rw.lns, List.append_assoc, List.cons_append, List.nil_append]
    | whl h hf hp hb1 =>
      rename_i a0 p0 u f xs0 b0
      have tl := text_small hN ro.1.1 (Nat.le_trans ro.1.2 (by decide))
      have s4 : ("while" : Str).length = 5 := by decide +kernel
      have s1 : (" " : Str).length = 1 := by decide +kernel
      have rn' : 1 + nests b0 ≤ nests b := rn
      have rz' : 1 + szs b0 ≤ szs b := rz
      have l1 := lnsB_len b0
      walk_at "gx"
      refine ⟨u, f, ns, rfl, hf, ro.1.1, hN, Nat.le_trans ro.1.2 (by decide), Nat.le_trans ro.1.2 (by decide), ?_⟩
      refine w_addT (Nat.le_of_lt (lt_line (by rw [str_len_app]; omega))) ?_
      rw [line_word]
      walk_at "gx"
      refine w_app' hl pl (fun H4 x4 t4 h4 => ?_)
      obtain ⟨g1, g2⟩ := app H2 H4 _ (Same.refl _) x4 h4
      cases hv.monoE g1 with
      | whl h5 hf5 hp5 hb5 =>
      clear h hp hb1
      walk_at "gx"
      try unfold t_written_j2
      walk_at "gx"
      try unfold t_written_j1
      walk_at "gx"
      refine ⟨_, _, b0, ns, rfl, hp5, hb5, ro.2, hN, by omega, by omega, fun p5 H5 e5 n5 hp5' => ?_⟩
      refine w_addL' (e5 _ _ g2) hp5' (by rw [List.length_map, List.length_map, List.length_append, List.length_singleton]; exact Nat.le_of_lt (lt_line (by omega))) fun p6 H6 n6 e6 hp6 => ?_
      rw [← List.map_append] at hp6
      walk_at "gx"
      rename_i p7 H7 n7 e7 hp7
      refine w_addL' (e7 _ _ hp6) hp7 (by rw [List.length_map, List.length_append, List.length_append, List.length_singleton]; exact Nat.le_of_lt (lt_line (by show _ + 1 ≤ _; omega))) fun p8 H8 n8 e8 hp8 => ?_
      rw [show [V.str "end"] = [("end" : Str)].map V.str from rfl, ← List.map_append] at hp8
      walk_at "gx"
      have e47 := e5.trans (e6.trans e7)
      refine ⟨g1.trans (e47.trans e8), p8, _, rfl, none_of (g1.trans e47) n8, ?_⟩
      rw [hp8, en]
      show some (HO.lst _) = some (HO.lst _)
      congr 2
      simp only [Rw.lns, List.append_assoc, List.cons_append, List.nil_append]
  · rintro σ H2 ⟨e2, l, w2, rfl, nl, hl⟩
    walk_at "gx"
    exact q l H2 e2 nl hl
theorem pure_law_lines (K : PySem.W.Frag) (n : Nat) (vs : List V) (H : Hp) (Q : VK) (E : XK) (h : sp_law_lines K (n + 1) vs H Q E) :
    t_law_lines K n { nx := fun _ H' => Q .non H', rt := Q } (start N_law_lines vs) H := by
  obtain ⟨a, xs, b, ns, rfl, hs, hb, ho, hN, hn, hz, q⟩ := h
  have ll := lnsB_len b
  unfold t_law_lines
  walk_at "gx"
  rename_i l0 H1 nl0 e1 hl0
  have hl0 : H1 l0 = some (.lst []) := hl0
  refine for_al (as := b) (P := RwAt K (SE K) H) (fun pre σ H' => Same H H' ∧ ∃ (l : Addr) (w2 : Option V), σ = [some (.ref a), some (.ref l), w2] ∧ H l = none ∧ H' l = some (.lst ((lnsB pre).map V.str)))
    hs hb.all2 ⟨e1, l0, _, rfl, nl0, hl0⟩ (fun _ _ _ h => h.1) ?_ ?_
  · rintro pre r post v σ H2 eb hv ⟨e2, l, w2, rfl, nl, hl⟩
    have hx : r ∈ b := eb ▸ List.mem_append_right _ (List.mem_cons_self ..)
    have rn := nest_mem hx
    have rz := sz_mem hx
    have ro := oks_mem ho r hx
    have hv2 := hv.monoE e2
    have lp : (lnsB pre).length + r.lns.length ≤ 3000 := by
      have e0 : (lnsB b).length = (lnsB pre).length + (lnsB (r :: post)).length := by rw [eb, lnsB_app, List.length_append]
      have : (lnsB (r :: post)).length = r.lns.length + (lnsB post).length := List.length_append
      omega
    have en : lnsB (pre ++ [r]) = lnsB pre ++ r.lns := by
      rw [lnsB_app]
      show lnsB pre ++ (r.lns ++ []) = _
      rw [List.append_nil]
    have app : ∀ (H3 H4 : Hp) (y : Str), Same H2 H3 → SameX l H3 H4 → H4 l = some (.lst ((lnsB pre).map V.str ++ [.str y])) → Same H H4 ∧ H4 l = some (.lst ((lnsB pre ++ [y]).map V.str)) := by
      intro H3 H4 y e3 x4 h4
      exact ⟨SameX.same (e2.trans e3) nl x4, by rw [h4, List.map_append] <;> rfl⟩
    have pl : ((lnsB pre).map V.str).length < sizeLine := lt_line (by rw [List.length_map]; omega)
    cases hv2 with
    | skip h =>
      walk_at "gx"
      refine w_app' hl pl (fun H4 x4 t4 h4 => ?_)
      have h' := sameT_t t4 h
      obtain ⟨g1, g2⟩ := app H2 H4 "skip" (Same.refl _) x4 h4
      walk_at "gx"
      try unfold t_law_lines_j2
      walk_at "gx"
      try unfold t_law_lines_j1
      walk_at "gx"
      exact ⟨g1, l, _, rfl, nl, by rw [en]; exact g2⟩
    | set h hf =>
      rename_i a0 x u f
      have xl : x.length ≤ 8 := by
        have := (hN x ro.1).most
        rw [← cs_S x, SX.S_len]
        exact this
      have tl := text_small hN ro.2.1 (Nat.le_trans ro.2.2 (by decide))
      have s4 : ("set " : Str).length = 4 := by decide +kernel
      have s1 : (" " : Str).length = 1 := by decide +kernel
      walk_at "gx"
      refine w_addT (Nat.le_of_lt (lt_line (by rw [str_len_app]; omega))) ?_
      walk_at "gx"
      refine ⟨u, f, ns, rfl, hf, ro.2.1, hN, Nat.le_trans ro.2.2 (by decide), Nat.le_trans ro.2.2 (by decide), ?_⟩
      refine w_addT (Nat.le_of_lt (lt_line (by rw [str_len_app, str_len_app]; omega))) ?_
      rw [line_set]
      walk_at "gx"
      refine w_app' hl pl (fun H4 x4 t4 h4 => ?_)
      have h' := sameT_t t4 h
      obtain ⟨g1, g2⟩ := app H2 H4 _ (Same.refl _) x4 h4
      walk_at "gx"
      try unfold t_law_lines_j2
      walk_at "gx"
      try unfold t_law_lines_j1
      walk_at "gx"
      exact ⟨g1, l, _, rfl, nl, by rw [en]; exact g2⟩
    | tell h hf =>
      rename_i a0 u f
      have tl := text_small hN ro.1 (Nat.le_trans ro.2 (by decide))
      have s4 : ("tell" : Str).length = 4 := by decide +kernel
      have s1 : (" " : Str).length = 1 := by decide +kernel
      walk_at "gx"
      refine ⟨u, f, ns, rfl, hf, ro.1, hN, Nat.le_trans ro.2 (by decide), Nat.le_trans ro.2 (by decide), ?_⟩
      refine w_addT (Nat.le_of_lt (lt_line (by rw [str_len_app]; omega))) ?_
      rw [line_word]
      walk_at "gx"
      refine w_app' hl pl (fun H4 x4 t4 h4 => ?_)
      have h' := sameT_t t4 h
      obtain ⟨g1, g2⟩ := app H2 H4 _ (Same.refl _) x4 h4
      walk_at "gx"
      try unfold t_law_lines_j2
      walk_at "gx"
      try unfold t_law_lines_j1
      walk_at "gx"
      exact ⟨g1, l, _, rfl, nl, by rw [en]; exact g2⟩
    | ite h hf hp hb1 hq hc =>
      rename_i a0 p0 q0 u f xs0 ys0 b0 c0
      have tl := text_small hN ro.1.1 (Nat.le_trans ro.1.2 (by decide))
      have s4 : ("if" : Str).length = 2 := by decide +kernel
      have s1 : (" " : Str).length = 1 := by decide +kernel
      have rn' : 1 + max (nests b0) (nests c0) ≤ nests b := rn
      have rz' : 1 + (szs b0 + szs c0) ≤ szs b := rz
      have l1 := lnsB_len b0
      have l2 := lnsB_len c0
      walk_at "gx"
      refine ⟨u, f, ns, rfl, hf, ro.1.1, hN, Nat.le_trans ro.1.2 (by decide), Nat.le_trans ro.1.2 (by decide), ?_⟩
      refine w_addT (Nat.le_of_lt (lt_line (by rw [str_len_app]; omega))) ?_
      rw [line_word]
      walk_at "gx"
      refine w_app' hl pl (fun H4 x4 t4 h4 => ?_)
      obtain ⟨g1, g2⟩ := app H2 H4 _ (Same.refl _) x4 h4
      cases hv.monoE g1 with
      | ite h5 hf5 hp5 hb5 hq5 hc5 =>
      clear h hp hq hb1 hc
      walk_at "gx"
      try unfold t_law_lines_j2
      walk_at "gx"
      refine ⟨_, _, b0, ns, rfl, hp5, hb5, ro.2.1, hN, by omega, by omega, fun p5 H5 e5 n5 hp5' => ?_⟩
      refine w_addL' (e5 _ _ g2) hp5' (by rw [List.length_map, List.length_map, List.length_append, List.length_singleton]; exact Nat.le_of_lt (lt_line (by omega))) fun p6 H6 n6 e6 hp6 => ?_
      rw [← List.map_append] at hp6
      walk_at "gx"
      rename_i p7 H7 n7 e7 hp7
      refine w_addL' (e7 _ _ hp6) hp7 (by rw [List.length_map, List.length_append, List.length_append, List.length_singleton]; exact Nat.le_of_lt (lt_line (by show _ + 1 ≤ _; omega))) fun p8 H8 n8 e8 hp8 => ?_
      rw [show [V.str "else"] = [("else" : Str)].map V.str from rfl, ← List.map_append] at hp8
      walk_at "gx"
      have e48 := e5.trans (e6.trans (e7.trans e8))
      refine ⟨_, _, c0, ns, rfl, se_same e48 hq5, hc5.monoE e48, ro.2.2, hN, by omega, by omega, fun p9 H9 e9 n9 hp9 => ?_⟩
      refine w_addL' (e9 _ _ hp8) hp9 (by rw [List.length_map, List.length_map, List.length_append, List.length_append, List.length_append, List.length_singleton, List.length_singleton]; exact Nat.le_of_lt (lt_line (by omega))) fun p10 H10 n10 e10 hp10 => ?_
      rw [← List.map_append] at hp10
      walk_at "gx"
      rename_i p11 H11 n11 e11 hp11
      refine w_addL' (e11 _ _ hp10) hp11 (by rw [List.length_map, List.length_append, List.length_append, List.length_append, List.length_append, List.length_singleton, List.length_singleton]; exact Nat.le_of_lt (lt_line (by show _ + 1 ≤ _; omega))) fun p12 H12 n12 e12 hp12 => ?_
      rw [show [V.str "end"] = [("end" : Str)].map V.str from rfl, ← List.map_append] at hp12
      walk_at "gx"
      try unfold t_law_lines_j1
      have e811 := e9.trans (e10.trans e11)
      have e412 := e48.trans (e811.trans e12)
      have h12 := same_t e412 h5
      walk_at "gx"
      refine ⟨g1.trans e412, p12, _, rfl, none_of (g1.trans (e48.trans e811)) n12, ?_⟩
      rw [hp12, en]
      show some (HO.lst _) = some (HO.lst _)
      congr 2
      simp only [Rw.lns, List.append_assoc, List.cons_append, List.nil_append]
    | whl h hf hp hb1 =>
      rename_i a0 p0 u f xs0 b0
      have tl := text_small hN ro.1.1 (Nat.le_trans ro.1.2 (by decide))
      have s4 : ("while" : Str).length = 5 := by decide +kernel
      have s1 : (" " : Str).length = 1 := by decide +kernel
      have rn' : 1 + nests b0 ≤ nests b := rn
      have rz' : 1 + szs b0 ≤ szs b := rz
      have l1 := lnsB_len b0
      walk_at "gx"
      refine ⟨u, f, ns, rfl, hf, ro.1.1, hN, Nat.le_trans ro.1.2 (by decide), Nat.le_trans ro.1.2 (by decide), ?_⟩
      refine w_addT (Nat.le_of_lt (lt_line (by rw [str_len_app]; omega))) ?_
      rw [line_word]
      walk_at "gx"
      refine w_app' hl pl (fun H4 x4 t4 h4 => ?_)
      obtain ⟨g1, g2⟩ := app H2 H4 _ (Same.refl _) x4 h4
      cases hv.monoE g1 with
      | whl h5 hf5 hp5 hb5 =>
      clear h hp hb1
      walk_at "gx"
      try unfold t_law_lines_j2
      walk_at "gx"
      try unfold t_law_lines_j1
      walk_at "gx"
      refine ⟨_, _, b0, ns, rfl, hp5, hb5, ro.2, hN, by omega, by omega, fun p5 H5 e5 n5 hp5' => ?_⟩
      refine w_addL' (e5 _ _ g2) hp5' (by rw [List.length_map, List.length_map, List.length_append, List.length_singleton]; exact Nat.le_of_lt (lt_line (by omega))) fun p6 H6 n6 e6 hp6 => ?_
      rw [← List.map_append] at hp6
      walk_at "gx"
      rename_i p7 H7 n7 e7 hp7
      refine w_addL' (e7 _ _ hp6) hp7 (by rw [List.length_map, List.length_append, List.length_append, List.length_singleton]; exact Nat.le_of_lt (lt_line (by show _ + 1 ≤ _; omega))) fun p8 H8 n8 e8 hp8 => ?_
      rw [show [V.str "end"] = [("end" : Str)].map V.str from rfl, ← List.map_append] at hp8
      walk_at "gx"
      have e47 := e5.trans (e6.trans e7)
      refine ⟨g1.trans (e47.trans e8), p8, _, rfl, none_of (g1.trans e47) n8, ?_⟩
      rw [hp8, en]
      show some (HO.lst _) = some (HO.lst _)
      congr 2
      simp only [Rw.lns, List.append_assoc, List.cons_append, List.nil_append]
  · rintro σ H2 ⟨e2, l, w2, rfl, nl, hl⟩
    walk_at "gx"
    exact q l H2 e2 nl hl
theorem num_dig {m c : Nat} (h : c ∈ TL.numL m) : 48 ≤ c ∧ c ≤ 57 := TL.numL_digits m c h
theorem num_zero : ∀ m : Nat, (TL.numL m)[0]? = some 48 → m = 0 := by
  intro m
  induction m using Nat.strongRecOn with
  | _ m ih =>
    intro h
    by_cases c : m < 10
    · rw [TL.numL_lt c] at h
      have : 48 + m = 48 := Option.some.inj h
      omega
    · rw [TL.numL_step (by omega)] at h
      have ne := TL.numL_ne (m / 10)
      have pos : 0 < (TL.numL (m / 10)).length := List.length_pos_iff.mpr ne
      rw [List.getElem?_append_left pos] at h
      have := ih (m / 10) (by omega) h
      omega
def sp_number_of (K : PySem.W.Frag) : Sp := fun vs H Q _ => ∃ m : Nat, vs = [.str (SX.S (TL.numL m))] ∧ m < 1000000 ∧ Q (.int (m : Nat)) H
abbrev N_number_of : List Str := ["word", "sign"]
noncomputable def t_number_of_j1 (K : PySem.W.Frag) : TS :=
  (tSeq (tFor (iStr (tVar 0)) (gName 1) (tIfS (tTest (tOp (rIn2 K true) (tVar 1) (tC (.str "0123456789")))) tNever tNext)) (tRet (tCB rInt (tCons (tVar 0) tNil))))
noncomputable def t_number_of (K : PySem.W.Frag) : TS :=
  (tSeq (tIfS (tOr (tNot (tTest (tChain rLe rLe (tC (.int 1)) (tCB (rLenA K) (tCons (tVar 0) tNil)) (tC (.int 6))))) (tAnd (tTest (tOp (rEq2 K) (tOp (rIx K) (tVar 0) (tC (.int 0))) (tC (.str "0")))) (tTest (tOp (rNe2 K) (tVar 0) (tC (.str "0")))))) tNever tNext) (t_number_of_j1 K))
theorem pure_number_of (K : PySem.W.Frag) (vs : List V) (H : Hp) (Q : VK) (E : XK) (h : sp_number_of K vs H Q E) :
    t_number_of K { nx := fun _ H' => Q .non H', rt := Q } (start N_number_of vs) H := by
  obtain ⟨m, rfl, hm, q⟩ := h
  have l6 := TL.numL_len (n := m) (k := 6) (by decide) (by omega)
  have ne := TL.numL_ne m
  have pos : 0 < (TL.numL m).length := List.length_pos_iff.mpr ne
  have zl : (SX.S (TL.numL m)).length = (TL.numL m).length := SX.S_len _
  have hz : (SX.S (TL.numL m)).length ≤ sizeLine := Nat.le_of_lt (lt_line (by omega))
  unfold t_number_of
  walk_at "gx"
  refine w_yes (decide_eq_true (by omega)) ?_
  walk_at "gx"
  rw [show decide (((SX.S (TL.numL m)).length : Int) ≤ 6) = true from decide_eq_true (by omega)]
  walk_at "gx"
  have csS : cs (SX.S (TL.numL m)) = TL.numL m := by unfold cs; simp
  have h0 : (TL.numL m)[0]? = some ((TL.numL m)[0]) := List.getElem?_eq_getElem pos
  refine w_ixS (i := 0) hz (c := (TL.numL m)[0]) (atI_nat (j := 0) (by rw [show (SX.S (TL.numL m)).cps.toList = TL.numL m from csS]; exact h0)) ?_
  walk_at "gx"
  have j1 : t_number_of_j1 K { nx := fun _ H' => Q .non H', rt := Q } [some (.str (SX.S (TL.numL m))), none] H := by
    unfold t_number_of_j1
    walk_at "gx"
    refine ⟨SX.S (TL.numL m), rfl, for_str (x := SX.S (TL.numL m)) (fun i σ H' => H' = H ∧ ∃ w, σ = [some (.str (SX.S (TL.numL m))), w]) ⟨rfl, _, rfl⟩ ?_ ?_⟩
    · rintro i c σ H' hc ⟨rfl, ⟨w, rfl⟩⟩
      have hm : c ∈ TL.numL m := by
        rw [← csS]
        have hc' : (cs (SX.S (TL.numL m)))[i]? = some c := by rw [← hc]; exact Array.getElem?_toList
        exact List.mem_of_getElem? hc'
      walk_at "gx"
      refine w_inSg ?_
      show ∃ k, V.bl (!decide (c ∈ cs n09)) = .bl k ∧ _
      rw [decide_eq_true (n09_fig (num_dig hm))]
      walk_at "gx"
      exact ⟨rfl, _, rfl⟩
    · rintro σ H' ⟨rfl, ⟨w, rfl⟩⟩
      walk_at "gx"
      refine .inr ⟨_, _, rfl, ?_, by omega, q⟩
      rw [← SX.num_S]
      exact TL.int_num (by omega)
  by_cases c0 : (TL.numL m)[0] = 48
  · have : m = 0 := num_zero m (by rw [h0, c0])
    subst this
    have e0 : SX.S (TL.numL 0) = ("0" : Str) := by rw [TL.numL_lt (by decide)]; decide +kernel
    rw [c0]
    refine w_yes (by decide +kernel) ?_
    walk_at "gx"
    exact j1
  · have e0 : ("0" : Str) = ⟨#[48]⟩ := by decide +kernel
    refine w_no (decide_eq_false fun h => c0 ?_) ?_
    · rw [e0] at h
      have := congrArg (fun x : Str => x.cps[0]?) h
      simpa using this
    walk_at "gx"
    exact j1
theorem sgs_one : ∀ x ∈ sgs, ∃ c, cs x = [c] ∧ ¬ IsSgn c := by
  have : ∀ x ∈ sgs, ((cs x).length = 1 ∧ ∀ c ∈ cs x, (c < 97 ∨ 122 < c) ∧ (c < 48 ∨ 57 < c)) := by decide +kernel
  intro x hx
  obtain ⟨h1, h2⟩ := this x hx
  match hc : cs x, h1 with
  | [c], _ =>
    refine ⟨c, rfl, fun h => ?_⟩
    have := h2 c (by rw [hc]; exact List.mem_singleton.mpr rfl)
    rcases h with h | h
    · have := h.1; have := h.2; omega
    · have := h.1; have := h.2; omega
theorem num_sg (m : Nat) : SX.S (TL.numL m) ∉ sgs := fun h => by
  obtain ⟨c, h1, h2⟩ := sgs_one _ h
  have e : cs (SX.S (TL.numL m)) = TL.numL m := by unfold cs; simp
  rw [e] at h1
  exact h2 (.inr (num_dig (m := m) (by rw [h1]; exact List.mem_singleton.mpr rfl)))
theorem nam_sg {x : Str} (hx : Nm x) : x ∉ sgs := fun h => by
  obtain ⟨c, h1, h2⟩ := sgs_one _ h
  exact h2 (hx.all c (by rw [h1]; exact List.mem_singleton.mpr rfl))
theorem num_nm (m : Nat) : nmB (SX.S (TL.numL m)) = false := by
  rw [Bool.eq_false_iff]
  intro h
  have nm := nm_iff.mp h
  have e : cs (SX.S (TL.numL m)) = TL.numL m := by unfold cs; simp
  have pos : 0 < (TL.numL m).length := List.length_pos_iff.mpr (TL.numL_ne m)
  have h0 : (TL.numL m)[0]? = some ((TL.numL m)[0]) := List.getElem?_eq_getElem pos
  have l := nm.hd _ (by rw [e]; exact h0)
  have d := num_dig (List.mem_of_getElem? h0)
  have := l.1
  omega
theorem op_sg (s : Sg) : s.txt ∈ sgs := by cases s <;> decide +kernel
theorem wds_pos (f : Fm) : 0 < f.wds.length := List.length_pos_iff.mpr (wds_ne f)
abbrev wsV (ws : List (List Nat)) : List V := ws.map fun w => V.str (SX.S w)
def sp_read_formula (K : PySem.W.Frag) (n : Nat) : Sp := fun vs H Q _ => ∃ (a : Addr) (ws pre post : List (List Nat)) (f : Fm) (ns : List Str) (l : Nat), vs = [.ref a, .int (pre.length : Nat), .int (l : Nat)] ∧ H a = some (.lst (wsV ws)) ∧ ws = pre ++ (f.wds ++ post) ∧ f.ok ns ∧ (∀ x ∈ ns, Nm x) ∧ f.depth ≤ l ∧ f.depth ≤ n ∧
  ∀ (p : Addr) (u : V) (H' : Hp), Same H H' → SqT K H' p [u, .int ((pre.length + f.wds.length : Nat) : Nat)] → FmAt K H' u f → Q (.ref p) H'
theorem no_read_formula {K : PySem.W.Frag} : ∀ vs H Q E, ¬ sp_read_formula K 0 vs H Q E := by
  rintro vs H Q E ⟨_, _, _, _, f, _, _, _, _, _, _, _, _, h, _⟩
  have := f.depth_pos
  omega
abbrev N_read_formula : List Str := ["words", "at", "left", "word", "one", "other"]
noncomputable def t_read_formula_j1 (K : PySem.W.Frag) (n : Nat) : TS :=
  (tSeq (tAsg (tOp (rIx K) (tVar 0) (tVar 1)) (gName 3)) (tSeq (tIfS (tTest (tOp (rIn2 K false) (tVar 3) (tGT K (sgs.map V.str)))) (tSeq (tAsg (tF (sp_read_formula K n) (tCons (tVar 0) (tCons (tOp (rAdd K) (tVar 1) (tC (.int 1))) (tCons (tOp rSub (tVar 2) (tC (.int 1))) tNil)))) (gTup K 2 (gCons (gName 4) (gCons (gName 1) gNil)))) (tSeq (tAsg (tF (sp_read_formula K n) (tCons (tVar 0) (tCons (tVar 1) (tCons (tOp rSub (tVar 2) (tC (.int 1))) tNil)))) (gTup K 2 (gCons (gName 5) (gCons (gName 1) gNil)))) (tRet (tTup (tCons (tTup (tCons (tVar 3) (tCons (tVar 4) (tCons (tVar 5) tNil)))) (tCons (tVar 1) tNil)))))) tNext) (tSeq (tIfS (tB (tF (sp_is_name K) (tCons (tVar 3) tNil))) (tRet (tTup (tCons (tTup (tCons (tC (.str "name")) (tCons (tVar 3) tNil))) (tCons (tOp (rAdd K) (tVar 1) (tC (.int 1))) tNil)))) tNext) (tRet (tTup (tCons (tTup (tCons (tC (.str "number")) (tCons (tF (sp_number_of K) (tCons (tVar 3) tNil)) tNil))) (tCons (tOp (rAdd K) (tVar 1) (tC (.int 1))) tNil)))))))
noncomputable def t_read_formula (K : PySem.W.Frag) (n : Nat) : TS :=
  (tSeq (tIfS (tOr (tTest (tOp (rEq2 K) (tVar 2) (tC (.int 0)))) (tTest (tOp rGe (tVar 1) (tCB (rLenA K) (tCons (tVar 0) tNil))))) tNever tNext) (t_read_formula_j1 K n))
theorem pure_read_formula (K : PySem.W.Frag) (n : Nat) (vs : List V) (H : Hp) (Q : VK) (E : XK) (h : sp_read_formula K (n + 1) vs H Q E) :
    t_read_formula K n { nx := fun _ H' => Q .non H', rt := Q } (start N_read_formula vs) H := by
  obtain ⟨a, ws, pre, post, f, ns, l, rfl, ha, hw, ho, hN, hl, hd, q⟩ := h
  have dp := f.depth_pos
  have wp := wds_pos f
  have len : ws.length = pre.length + (f.wds.length + post.length) := by rw [hw, List.length_append, List.length_append]
  unfold t_read_formula
  walk_at "gx"
  refine w_no (decide_eq_false (by omega)) ?_
  walk_at "gx"
  refine w_no (decide_eq_false (by rw [List.length_map]; omega)) ?_
  walk_at "gx"
  try unfold t_read_formula_j1
  walk_at "gx"
  cases f with
  | num i =>
    have hi := ho.1
    obtain ⟨m, rfl⟩ := Int.eq_ofNat_of_zero_le hi
    have hm : m < 1000000 := by have := ho.2; omega
    refine w_ixL (v := .str (SX.S (TL.numL m))) (SqL.of ha) (atI_nat (j := pre.length) (by rw [List.getElem?_map, hw]; simp [Fm.wds])) ?_
    walk_at "gx"
    intro g hg
    refine w_inTxtT (xs := sgs) (hg H) ?_
    rw [decide_eq_false (num_sg m)]
    walk_at "gx"
    refine ⟨_, rfl, Nat.le_of_lt (lt_line (by rw [SX.S_len]; have := TL.numL_len (n := m) (k := 6) (by decide) (by omega); omega)), ?_⟩
    rw [num_nm]
    walk_at "gx"
    refine ⟨m, rfl, hm, ?_⟩
    walk_at "gx"
    rename_i p1 H1 n1 e1 hp1 p2 H2 n2 e2 hp2
    exact q p2 (.ref p1) H2 (e1.trans e2) (SqT.of hp2) (.num (SqT.of (e2 _ _ hp1)))
  | nam x =>
    have nx := hN x ho
    refine w_ixL (v := .str x) (SqL.of ha) (atI_nat (j := pre.length) (by rw [List.getElem?_map, hw]; simp [Fm.wds, cs_S])) ?_
    walk_at "gx"
    intro g hg
    refine w_inTxtT (xs := sgs) (hg H) ?_
    rw [decide_eq_false (nam_sg nx)]
    walk_at "gx"
    refine ⟨_, rfl, Nat.le_of_lt (lt_line (by have := nx.most; rw [← cs_S x, SX.S_len]; omega)), ?_⟩
    rw [nm_iff.mpr nx]
    walk_at "gx"
    rename_i p1 H1 n1 e1 hp1 p2 H2 n2 e2 hp2
    exact q p2 (.ref p1) H2 (e1.trans e2) (SqT.of hp2) (.nam (SqT.of (e2 _ _ hp1)))
  | op s fa fb =>
    have hd' : fa.depth + 1 ≤ (Fm.op s fa fb).depth ∧ fb.depth + 1 ≤ (Fm.op s fa fb).depth := by
      have e : (Fm.op s fa fb).depth = max fa.depth fb.depth + 1 := rfl
      omega
    refine w_ixL (v := .str s.txt) (SqL.of ha) (atI_nat (j := pre.length) (by rw [List.getElem?_map, hw]; simp [Fm.wds, cs_S])) ?_
    walk_at "gx"
    intro g hg
    refine w_inTxtT (xs := sgs) (hg H) ?_
    rw [decide_eq_true (op_sg s)]
    walk_at "gx"
    have i1 : ((pre.length : Nat) : Int) + 1 = (((pre ++ [cs s.txt]).length : Nat) : Int) := by rw [List.length_append, List.length_singleton]; omega
    have i2 : ((l : Nat) : Int) - 1 = ((l - 1 : Nat) : Int) := by omega
    rw [i1, i2]
    refine ⟨a, ws, pre ++ [cs s.txt], fb.wds ++ post, fa, ns, l - 1, rfl, ha, by rw [hw]; simp [Fm.wds], ho.1, hN, by omega, by omega, fun p1 u1 H1 e1 h1 f1 => ?_⟩
    walk_at "gx"
    rw [i2]
    have i3 : (pre ++ [cs s.txt]).length + fa.wds.length = (pre ++ (cs s.txt :: fa.wds)).length := by rw [List.length_append, List.length_append, List.length_singleton, List.length_cons]; omega
    rw [i3]
    refine ⟨a, ws, pre ++ (cs s.txt :: fa.wds), post, fb, ns, l - 1, rfl, e1 _ _ ha, by rw [hw]; simp [Fm.wds], ho.2, hN, by omega, by omega, fun p2 u2 H2 e2 h2 f2 => ?_⟩
    walk_at "gx"
    rename_i p3 H3 n3 e3 hp3 p4 H4 n4 e4 hp4
    have e34 := e3.trans e4
    refine q p4 (.ref p3) H4 (e1.trans (e2.trans e34)) ?_ (.op (SqT.of (e4 _ _ hp3)) (f1.mono (e2.trans e34)) (f2.mono e34))
    have i4 : pre.length + (Fm.op s fa fb).wds.length = (pre ++ (cs s.txt :: fa.wds)).length + fb.wds.length := by
      show pre.length + (cs s.txt :: (fa.wds ++ fb.wds)).length = _
      rw [List.length_append, List.length_cons, List.length_cons, List.length_append]
      omega
    rw [i4]
    exact SqT.of hp4
abbrev rSplit : V → List V → Hp → VK → Prop := fun x xs H Q => ∃ a b, x = .str a ∧ xs = [.str b] ∧ (b.length == 0) = false ∧ a.length + 2 ≤ sizeLine ∧ rNewStrs (Txt.split a b) H Q
theorem split_ln {ws : List (List Nat)} (h : ws ≠ []) (f : ∀ w ∈ ws, 32 ∉ w) : Txt.split (ln ws) (" " : Str) = ws.map SX.S := by
  rw [sp_S]
  unfold ln
  rw [SX.split_S (by decide) (by decide), SX.spl_join h f]
theorem sgn_free {w : List Nat} (h : ∀ c ∈ w, IsSgn c) : 32 ∉ w := fun m => by
  rcases h 32 m with h | h
  · have := h.1; omega
  · have := h.1; omega
theorem wds_free {ns : List Str} (hN : ∀ x ∈ ns, Nm x) : ∀ {f : Fm}, f.ok ns → ∀ w ∈ f.wds, 32 ∉ w
  | .num n, _, w, hw => by
    rw [List.mem_singleton.mp hw]
    exact TL.numL_free (.inl (by decide))
  | .nam x, h, w, hw => by
    rw [List.mem_singleton.mp hw]
    exact sgn_free (hN x h).all
  | .op s a b, h, w, hw => by
    rcases List.mem_cons.mp hw with rfl | hw
    · cases s <;> decide +kernel
    · exact (List.mem_append.mp hw).elim (wds_free hN h.1 w) (wds_free hN h.2 w)
theorem ok_of {w : List Nat} (h : ∀ c ∈ w, c < 1114112) : PyData.strOk (SX.S w) = true := by
  unfold PyData.strOk
  rw [← Array.all_toList, List.all_eq_true]
  intro c hc
  exact decide_eq_true (h c (by simpa using hc))
theorem wds_ok {ns : List Str} (hN : ∀ x ∈ ns, Nm x) : ∀ {f : Fm}, f.ok ns → ∀ w ∈ f.wds, PyData.strOk (SX.S w) = true
  | .num n, _, w, hw => by
    rw [List.mem_singleton.mp hw]
    exact ok_of fun c hc => by have := num_dig hc; omega
  | .nam x, h, w, hw => by
    rw [List.mem_singleton.mp hw, cs_S]
    exact ok_txt (hN x h)
  | .op s a b, h, w, hw => by
    rcases List.mem_cons.mp hw with rfl | hw
    · rw [cs_S]; exact sg_ok s
    · exact (List.mem_append.mp hw).elim (wds_ok hN h.1 w) (wds_ok hN h.2 w)
/-- a row's first line, in words -/
def Rw.w1 : Rw → List (List Nat)
  | .set x f => cs "set" :: cs x :: f.wds
  | .tell f => cs "tell" :: f.wds
  | .skip => [cs "skip"]
  | .ite f _ _ => cs "if" :: f.wds
  | .whl f _ => cs "while" :: f.wds
theorem lns_hd (r : Rw) : ∃ t, r.lns = ln r.w1 :: t := by
  cases r with
  | skip => exact ⟨[], by show [("skip" : Str)] = [ln [cs "skip"]]; rw [show ln [cs ("skip" : Str)] = "skip" from cs_S _]⟩
  | set x f => exact ⟨_, rfl⟩
  | tell f => exact ⟨_, rfl⟩
  | ite f a b => exact ⟨_, rfl⟩
  | whl f a => exact ⟨_, rfl⟩
theorem w1_hd (r : Rw) : ∃ t, r.w1 = cs r.word :: t := by cases r <;> exact ⟨_, rfl⟩
theorem w1_free {ns : List Str} (hN : ∀ x ∈ ns, Nm x) {r : Rw} (h : r.ok ns) : ∀ w ∈ r.w1, 32 ∉ w := by
  intro w hw
  cases r with
  | skip => rw [List.mem_singleton.mp hw]; decide +kernel
  | set x f =>
    rcases List.mem_cons.mp hw with rfl | hw
    · decide +kernel
    rcases List.mem_cons.mp hw with rfl | hw
    · exact sgn_free (hN x h.1).all
    · exact wds_free hN h.2.1 w hw
  | tell f =>
    rcases List.mem_cons.mp hw with rfl | hw
    · decide +kernel
    · exact wds_free hN h.1 w hw
  | ite f a b =>
    rcases List.mem_cons.mp hw with rfl | hw
    · decide +kernel
    · exact wds_free hN h.1.1 w hw
  | whl f a =>
    rcases List.mem_cons.mp hw with rfl | hw
    · decide +kernel
    · exact wds_free hN h.1.1 w hw
theorem w1_ok {ns : List Str} (hN : ∀ x ∈ ns, Nm x) {r : Rw} (h : r.ok ns) : ∀ w ∈ r.w1, PyData.strOk (SX.S w) = true := by
  intro w hw
  cases r with
  | skip => rw [List.mem_singleton.mp hw]; decide +kernel
  | set x f =>
    rcases List.mem_cons.mp hw with rfl | hw
    · decide +kernel
    rcases List.mem_cons.mp hw with rfl | hw
    · rw [cs_S]; exact ok_txt (hN x h.1)
    · exact wds_ok hN h.2.1 w hw
  | tell f =>
    rcases List.mem_cons.mp hw with rfl | hw
    · decide +kernel
    · exact wds_ok hN h.1 w hw
  | ite f a b =>
    rcases List.mem_cons.mp hw with rfl | hw
    · decide +kernel
    · exact wds_ok hN h.1.1 w hw
  | whl f a =>
    rcases List.mem_cons.mp hw with rfl | hw
    · decide +kernel
    · exact wds_ok hN h.1.1 w hw
theorem ln_hd {r : Rw} : ∃ c t, cs (ln r.w1) = c :: t ∧ c ≠ 101 := by
  have e : ∀ l : List Nat, cs (SX.S l) = l := fun l => by unfold cs; simp
  have k : ∀ (w : List Nat) (ws : List (List Nat)) (c : Nat) (t : List Nat), w = c :: t → ∃ u, cs (ln (w :: ws)) = c :: u := by
    intro w ws c t h
    unfold ln
    rw [e, h]
    cases ws with
    | nil => exact ⟨t, rfl⟩
    | cons p q => exact ⟨_, rfl⟩
  cases r with
  | skip => obtain ⟨u, hu⟩ := k (cs "skip") [] 115 (cs "kip") (by decide +kernel); exact ⟨_, u, hu, by decide⟩
  | set x f => obtain ⟨u, hu⟩ := k (cs "set") (cs x :: f.wds) 115 (cs "et") (by decide +kernel); exact ⟨_, u, hu, by decide⟩
  | tell f => obtain ⟨u, hu⟩ := k (cs "tell") f.wds 116 (cs "ell") (by decide +kernel); exact ⟨_, u, hu, by decide⟩
  | ite f a b => obtain ⟨u, hu⟩ := k (cs "if") f.wds 105 (cs "f") (by decide +kernel); exact ⟨_, u, hu, by decide⟩
  | whl f a => obtain ⟨u, hu⟩ := k (cs "while") f.wds 119 (cs "hile") (by decide +kernel); exact ⟨_, u, hu, by decide⟩
theorem ln_not (r : Rw) : ln r.w1 ≠ "else" ∧ ln r.w1 ≠ "end" := by
  obtain ⟨c, t, h, n⟩ := ln_hd (r := r)
  refine ⟨fun e => n ?_, fun e => n ?_⟩
  · rw [e] at h
    have : cs ("else" : Str) = 101 :: cs "lse" := by decide +kernel
    rw [this] at h
    exact (List.cons.inj h).1.symm
  · rw [e] at h
    have : cs ("end" : Str) = 101 :: cs "nd" := by decide +kernel
    rw [this] at h
    exact (List.cons.inj h).1.symm
def sp_whole_formula (K : PySem.W.Frag) : Sp := fun vs H Q _ => ∃ (a : Addr) (f : Fm) (ns : List Str), vs = [.ref a] ∧ H a = some (.lst (wsV f.wds)) ∧ f.fine ns ∧ (∀ x ∈ ns, Nm x) ∧ ∀ (u : V) (H' : Hp), Same H H' → FmAt K H' u f → Q u H'
def sp_need_line (K : PySem.W.Frag) : Sp := fun vs H Q _ => ∃ (a : Addr) (L : List Str) (i : Nat) (s : Str), vs = [.ref a, .int (i : Nat), .str s] ∧ H a = some (.lst (L.map V.str)) ∧ L[i]? = some s ∧ Q .non H
def sp_read_row (K : PySem.W.Frag) (n : Nat) : Sp := fun vs H Q _ => ∃ (a : Addr) (L pre post : List Str) (r : Rw) (ns : List Str) (d : Nat), vs = [.ref a, .int (pre.length : Nat), .int (d : Nat)] ∧ H a = some (.lst (L.map V.str)) ∧ L = pre ++ (r.lns ++ post) ∧ r.ok ns ∧ (∀ x ∈ ns, Nm x) ∧ r.nest ≤ n ∧ d + r.nest ≤ 9 ∧ r.size ≤ 1000 ∧
  ∀ (p : Addr) (u : V) (H' : Hp), Same H H' → SqT K H' p [u, .int ((pre.length + r.lns.length : Nat) : Nat)] → RwAt K (SqT K) H' u r → Q (.ref p) H'
def sp_read_block (K : PySem.W.Frag) (n : Nat) : Sp := fun vs H Q _ => ∃ (a : Addr) (L pre post : List Str) (b : List Rw) (ns : List Str) (d : Nat), vs = [.ref a, .int (pre.length : Nat), .int (d : Nat)] ∧ H a = some (.lst (L.map V.str)) ∧ L = pre ++ (lnsB b ++ post) ∧ (∀ x : Str, post[0]? = some x → x = ("else" : Str) ∨ x = ("end" : Str)) ∧ oks ns b ∧ (∀ x ∈ ns, Nm x) ∧ nests b ≤ n ∧ d + nests b ≤ 9 ∧ szs b ≤ 1000 ∧
  ∀ (p t : Addr) (xs : List V) (H' : Hp), Same H H' → SqT K H' p [.ref t, .int ((pre.length + (lnsB b).length : Nat) : Nat)] → SqT K H' t xs → BkAt K (SqT K) H' xs b → Q (.ref p) H'
theorem no_read_row {K : PySem.W.Frag} : ∀ vs H Q E, ¬ sp_read_row K 0 vs H Q E := by
  rintro vs H Q E ⟨_, _, _, _, r, _, _, _, _, _, _, _, h, _⟩
  have := nest_pos r
  omega
abbrev N_whole_formula : List Str := ["words", "formula", "at"]
noncomputable def t_whole_formula (K : PySem.W.Frag) : TS :=
  (tSeq (tAsg (tF (sp_read_formula K 13) (tCons (tVar 0) (tCons (tC (.int 0)) (tCons (tC (.int 12)) tNil)))) (gTup K 2 (gCons (gName 1) (gCons (gName 2) gNil)))) (tSeq (tIfS (tTest (tOp (rNe2 K) (tVar 2) (tCB (rLenA K) (tCons (tVar 0) tNil)))) tNever tNext) (tRet (tVar 1))))
abbrev N_need_line : List Str := ["lines", "at", "line"]
noncomputable def t_need_line (K : PySem.W.Frag) : TS :=
  (tIfS (tOr (tTest (tOp rGe (tVar 1) (tCB (rLenA K) (tCons (tVar 0) tNil)))) (tTest (tOp (rNe2 K) (tOp (rIx K) (tVar 0) (tVar 1)) (tVar 2)))) tNever tNext)
theorem pure_whole_formula (K : PySem.W.Frag) (vs : List V) (H : Hp) (Q : VK) (E : XK) (h : sp_whole_formula K vs H Q E) :
    t_whole_formula K { nx := fun _ H' => Q .non H', rt := Q } (start N_whole_formula vs) H := by
  obtain ⟨a, f, ns, rfl, ha, hf, hN, q⟩ := h
  unfold t_whole_formula
  walk_at "gx"
  refine ⟨a, f.wds, [], [], f, ns, 12, rfl, ha, by simp, hf.1, hN, hf.2, Nat.le_trans hf.2 (by decide), fun p u H1 e1 hp hu => ?_⟩
  have ha1 := e1 _ _ ha
  walk_at "gx"
  refine w_no (by
    rw [List.length_map]
    simp) ?_
  walk_at "gx"
  exact q u H1 e1 hu
theorem pure_need_line (K : PySem.W.Frag) (vs : List V) (H : Hp) (Q : VK) (E : XK) (h : sp_need_line K vs H Q E) :
    t_need_line K { nx := fun _ H' => Q .non H', rt := Q } (start N_need_line vs) H := by
  obtain ⟨a, L, i, s, rfl, ha, hi, q⟩ := h
  have lt : i < L.length := (List.getElem?_eq_some_iff.mp hi).1
  unfold t_need_line
  walk_at "gx"
  refine w_no (decide_eq_false (by rw [List.length_map]; omega)) ?_
  walk_at "gx"
  refine w_ixL (v := .str s) (SqL.of ha) (atI_nat (j := i) (by rw [List.getElem?_map, hi] <;> rfl)) ?_
  walk_at "gx"
  exact q
theorem wsV_cons (x : Str) (ws : List (List Nat)) : wsV (cs x :: ws) = .str x :: wsV ws := by
  show V.str (SX.S (cs x)) :: _ = _
  rw [cs_S]
theorem w1_len {ns : List Str} (hN : ∀ x ∈ ns, Nm x) {r : Rw} (h : r.ok ns) : (ln r.w1).length ≤ 3000020 := by
  have s1 : (" " : Str).length = 1 := by decide +kernel
  have tl : ∀ {f : Fm}, f.fine ns → f.text.length ≤ 3000000 := fun hf => text_small hN hf.1 (Nat.le_trans hf.2 (by decide))
  cases r with
  | skip => show (ln [cs "skip"]).length ≤ _; rw [ln_len]; decide +kernel
  | set x f =>
    have := tl h.2
    have hx := (hN x h.1).most
    have xl : x.length = (cs x).length := by rw [← cs_S x, SX.S_len, cs_S]
    have s4 : ("set " : Str).length = 4 := by decide +kernel
    show (ln (cs "set" :: cs x :: f.wds)).length ≤ _
    rw [← line_set, str_len_app, str_len_app, str_len_app]
    omega
  | tell f =>
    have := tl h
    have s4 : ("tell" : Str).length = 4 := by decide +kernel
    show (ln (cs "tell" :: f.wds)).length ≤ _
    rw [← line_word, str_len_app, str_len_app]
    omega
  | ite f a b =>
    have := tl h.1
    have s4 : ("if" : Str).length = 2 := by decide +kernel
    show (ln (cs "if" :: f.wds)).length ≤ _
    rw [← line_word, str_len_app, str_len_app]
    omega
  | whl f a =>
    have := tl h.1
    have s4 : ("while" : Str).length = 5 := by decide +kernel
    show (ln (cs "while" :: f.wds)).length ≤ _
    rw [← line_word, str_len_app, str_len_app]
    omega
theorem w1_skip (r : Rw) : decide (r.w1.map SX.S = [("skip" : Str)]) = (match r with | .skip => true | _ => false) := by
  have k : ∀ (w : Str) (ws : List (List Nat)), w ≠ "skip" → decide ((cs w :: ws).map SX.S = [("skip" : Str)]) = false := fun w ws n => decide_eq_false fun h => by
    have h : SX.S (cs w) :: ws.map SX.S = [("skip" : Str)] := h
    have := (List.cons.inj h).1
    rw [cs_S] at this
    exact n this
  cases r with
  | skip => exact decide_eq_true (by show [SX.S (cs ("skip" : Str))] = _; rw [cs_S])
  | set x f => exact k _ _ (by decide +kernel)
  | tell f => exact k _ _ (by decide +kernel)
  | ite f a b => exact k _ _ (by decide +kernel)
  | whl f a => exact k _ _ (by decide +kernel)
theorem at_mid {L A B : List Str} {x : Str} {i : Nat} (h : L = A ++ x :: B) (e : i = A.length) : L[i]? = some x := by
  rw [h, e]
  simp
abbrev N_read_row : List Str := ["lines", "at", "deep", "words", "formula", "first", "second"]
noncomputable def t_read_row_j1 (K : PySem.W.Frag) (n : Nat) : TS :=
  (tSeq (tAsg (tF (sp_whole_formula K) (tCons (tSl (rSl K) (tVar 3) (tPart (tC (.int 1))) tNoPart) tNil)) (gName 4)) (tSeq (tAsg (tF (sp_read_block K n) (tCons (tVar 0) (tCons (tOp (rAdd K) (tVar 1) (tC (.int 1))) (tCons (tOp (rAdd K) (tVar 2) (tC (.int 1))) tNil)))) (gTup K 2 (gCons (gName 5) (gCons (gName 1) gNil)))) (tSeq (tIfS (tTest (tOp (rEq2 K) (tOp (rIx K) (tVar 3) (tC (.int 0))) (tC (.str "while")))) (tSeq (tDrop (tF (sp_need_line K) (tCons (tVar 0) (tCons (tVar 1) (tCons (tC (.str "end")) tNil))))) (tRet (tTup (tCons (tTup (tCons (tC (.str "while")) (tCons (tVar 4) (tCons (tVar 5) tNil)))) (tCons (tOp (rAdd K) (tVar 1) (tC (.int 1))) tNil))))) tNext) (tSeq (tDrop (tF (sp_need_line K) (tCons (tVar 0) (tCons (tVar 1) (tCons (tC (.str "else")) tNil))))) (tSeq (tAsg (tF (sp_read_block K n) (tCons (tVar 0) (tCons (tOp (rAdd K) (tVar 1) (tC (.int 1))) (tCons (tOp (rAdd K) (tVar 2) (tC (.int 1))) tNil)))) (gTup K 2 (gCons (gName 6) (gCons (gName 1) gNil)))) (tSeq (tDrop (tF (sp_need_line K) (tCons (tVar 0) (tCons (tVar 1) (tCons (tC (.str "end")) tNil))))) (tRet (tTup (tCons (tTup (tCons (tC (.str "if")) (tCons (tVar 4) (tCons (tVar 5) (tCons (tVar 6) tNil))))) (tCons (tOp (rAdd K) (tVar 1) (tC (.int 1))) tNil))))))))))
noncomputable def t_read_row_j2 (K : PySem.W.Frag) (n : Nat) : TS :=
  (tSeq (tIfS (tAnd (tTest (tOp (rNe2 K) (tOp (rIx K) (tVar 3) (tC (.int 0))) (tC (.str "if")))) (tTest (tOp (rNe2 K) (tOp (rIx K) (tVar 3) (tC (.int 0))) (tC (.str "while"))))) tNever tNext) (t_read_row_j1 K n))
noncomputable def t_read_row (K : PySem.W.Frag) (n : Nat) : TS :=
  (tSeq (tAsg (tBM K "str" rSplit (tOp (rIx K) (tVar 0) (tVar 1)) (tCons (tC (.str " ")) tNil)) (gName 3)) (tSeq (tIfS (tTest (tOp rGt (tVar 2) (tC (.int 8)))) tNever tNext) (tSeq (tIfS (tTest (tOp (rEq2 K) (tVar 3) (tLst (tCons (tC (.str "skip")) tNil)))) (tRet (tTup (tCons (tTup (tCons (tC (.str "skip")) tNil)) (tCons (tOp (rAdd K) (tVar 1) (tC (.int 1))) tNil)))) tNext) (tSeq (tIfS (tTest (tOp (rEq2 K) (tOp (rIx K) (tVar 3) (tC (.int 0))) (tC (.str "tell")))) (tRet (tTup (tCons (tTup (tCons (tC (.str "tell")) (tCons (tF (sp_whole_formula K) (tCons (tSl (rSl K) (tVar 3) (tPart (tC (.int 1))) tNoPart) tNil)) tNil))) (tCons (tOp (rAdd K) (tVar 1) (tC (.int 1))) tNil)))) tNext) (tSeq (tIfS (tAnd (tTest (tOp (rEq2 K) (tOp (rIx K) (tVar 3) (tC (.int 0))) (tC (.str "set")))) (tAnd (tTest (tOp rGt (tCB (rLenA K) (tCons (tVar 3) tNil)) (tC (.int 1)))) (tB (tF (sp_is_name K) (tCons (tOp (rIx K) (tVar 3) (tC (.int 1))) tNil))))) (tRet (tTup (tCons (tTup (tCons (tC (.str "set")) (tCons (tOp (rIx K) (tVar 3) (tC (.int 1))) (tCons (tF (sp_whole_formula K) (tCons (tSl (rSl K) (tVar 3) (tPart (tC (.int 2))) tNoPart) tNil)) tNil)))) (tCons (tOp (rAdd K) (tVar 1) (tC (.int 1))) tNil)))) tNext) (t_read_row_j2 K n))))))
theorem pure_read_row (K : PySem.W.Frag) (n : Nat) (vs : List V) (H : Hp) (Q : VK) (E : XK) (h : sp_read_row K (n + 1) vs H Q E) :
    t_read_row K n { nx := fun _ H' => Q .non H', rt := Q } (start N_read_row vs) H := by
  obtain ⟨a, L, pre, post, r, ns, d, rfl, ha, hL, ho, hN, hn, hd, hz, q⟩ := h
  have np := nest_pos r
  obtain ⟨tl, htl⟩ := lns_hd r
  have at1 : L[pre.length]? = some (ln r.w1) := by rw [hL, htl]; simp
  have wf := w1_free hN ho
  have wo := w1_ok hN ho
  have wl := w1_len hN ho
  have wne : r.w1 ≠ [] := by obtain ⟨t, ht⟩ := w1_hd r; rw [ht]; exact List.cons_ne_nil _ _
  unfold t_read_row
  walk_at "gx"
  refine w_ixL (v := .str (ln r.w1)) (SqL.of ha) (atI_nat (j := pre.length) (by rw [List.getElem?_map, at1] <;> rfl)) ?_
  refine w_bmS ?_
  walk_at "gx"
  refine ⟨_, _, rfl, rfl, by decide +kernel, Nat.le_of_lt (lt_line (by omega)), fun p1 np1 => ?_⟩
  rw [split_ln wne wf]
  have e1 := same_new (o := .lst ((r.w1.map SX.S).map V.str)) np1
  have hp1 : upd H p1 (.lst ((r.w1.map SX.S).map V.str)) p1 = some (.lst ((r.w1.map SX.S).map V.str)) := upd_same
  generalize upd H p1 (.lst ((r.w1.map SX.S).map V.str)) = H1 at e1 hp1
  walk_at "gx"
  refine w_no (decide_eq_false (by omega)) ?_
  walk_at "gx"
  rename_i p2 H2 n2 e2 hp2
  refine w_eqTxt (xs := r.w1.map SX.S) (ys := ["skip"]) (SqL.of (e2 _ _ hp1)) (SqL.of hp2) (fun x hx => by obtain ⟨w, hw, rfl⟩ := List.mem_map.mp hx; exact wo w hw) (fun x hx => by rw [List.mem_singleton.mp hx]; decide +kernel) ?_
  rw [w1_skip]
  have ha2 := e2 _ _ (e1 _ _ ha)
  have hp12 : H2 p1 = some (.lst (wsV r.w1)) := by rw [e2 _ _ hp1, List.map_map] <;> rfl
  have e02 := e1.trans e2
  clear e1 hp1 hp2 e2
  have i1 : ((pre.length : Nat) : Int) + 1 = ((pre.length + 1 : Nat) : Int) := by omega
  cases r with
  | skip =>
    walk_at "gx"
    rename_i p3 H3 n3 e3 hp3 p4 H4 n4 e4 hp4
    exact q p4 (.ref p3) H4 (e02.trans (e3.trans e4)) (SqT.of hp4) (.skip (SqT.of (e4 _ _ hp3)))
  | tell f =>
    replace hp12 : H2 p1 = some (.lst (.str "tell" :: wsV f.wds)) := by rw [hp12]; exact congrArg (fun x => some (HO.lst x)) (wsV_cons _ _)
    walk_at "gx"
    refine w_ixL (SqL.of hp12) at0 ?_
    walk_at "gx"
    refine w_slL' (SqL.of hp12) (fun p3 H3 n3 e3 hp3 => ?_)
    rw [show (some (1 : Int)) = some ((1 : Nat) : Int) from rfl, cut_vh] at hp3
    have hp3 : H3 p3 = some (.lst (wsV f.wds)) := hp3
    walk_at "gx"
    refine ⟨p3, f, ns, rfl, hp3, ho, hN, fun u H4 e4 hu => ?_⟩
    walk_at "gx"
    rename_i p5 H5 n5 e5 hp5 p6 H6 n6 e6 hp6
    exact q p6 (.ref p5) H6 (e02.trans (e3.trans (e4.trans (e5.trans e6)))) (SqT.of hp6) (.tell (SqT.of (e6 _ _ hp5)) (hu.mono (e5.trans e6)))
  | set x f =>
    replace hp12 : H2 p1 = some (.lst (.str "set" :: .str x :: wsV f.wds)) := by rw [hp12]; exact congrArg (fun x => some (HO.lst x)) ((wsV_cons _ _).trans (congrArg _ (wsV_cons _ _)))
    have nx := hN x ho.1
    have xl : x.length = (cs x).length := by rw [← cs_S x, SX.S_len, cs_S]
    walk_at "gx"
    refine w_ixL (SqL.of hp12) at0 ?_
    walk_at "gx"
    refine w_ixL (SqL.of hp12) at0 ?_
    walk_at "gx"
    refine w_yes (decide_eq_true (by simp only [List.length_cons]; omega)) ?_
    walk_at "gx"
    refine w_ixL (v := .str x) (SqL.of hp12) (atI_nat (j := 1) rfl) ?_
    walk_at "gx"
    refine ⟨x, rfl, Nat.le_of_lt (lt_line (by have := nx.most; omega)), ?_⟩
    rw [nm_iff.mpr nx]
    walk_at "gx"
    refine w_ixL (v := .str x) (SqL.of hp12) (atI_nat (j := 1) rfl) ?_
    walk_at "gx"
    refine w_slL' (SqL.of hp12) (fun p3 H3 n3 e3 hp3 => ?_)
    rw [show (some (2 : Int)) = some ((2 : Nat) : Int) from rfl, cut_vh] at hp3
    have hp3 : H3 p3 = some (.lst (wsV f.wds)) := hp3
    walk_at "gx"
    refine ⟨p3, f, ns, rfl, hp3, ho.2, hN, fun u H4 e4 hu => ?_⟩
    walk_at "gx"
    rename_i p5 H5 n5 e5 hp5 p6 H6 n6 e6 hp6
    exact q p6 (.ref p5) H6 (e02.trans (e3.trans (e4.trans (e5.trans e6)))) (SqT.of hp6) (.set (SqT.of (e6 _ _ hp5)) (hu.mono (e5.trans e6)))
  | ite f b c =>
    replace hp12 : H2 p1 = some (.lst (.str "if" :: wsV f.wds)) := by rw [hp12]; exact congrArg (fun x => some (HO.lst x)) (wsV_cons _ _)
    have rn : (Rw.ite f b c).nest = 1 + max (nests b) (nests c) := rfl
    have rz : (Rw.ite f b c).size = 1 + (szs b + szs c) := rfl
    walk_at "gx"
    refine w_ixL (SqL.of hp12) at0 ?_
    walk_at "gx"
    refine w_ixL (SqL.of hp12) at0 ?_
    walk_at "gx"
    try unfold t_read_row_j2
    walk_at "gx"
    refine w_ixL (SqL.of hp12) at0 ?_
    walk_at "gx"
    try unfold t_read_row_j1
    walk_at "gx"
    refine w_slL' (SqL.of hp12) (fun p3 H3 n3 e3 hp3 => ?_)
    rw [show (some (1 : Int)) = some ((1 : Nat) : Int) from rfl, cut_vh] at hp3
    have hp3 : H3 p3 = some (.lst (wsV f.wds)) := hp3
    walk_at "gx"
    refine ⟨p3, f, ns, rfl, hp3, ho.1, hN, fun u H4 e4 hu => ?_⟩
    have e24 := e3.trans e4
    walk_at "gx"
    rw [i1]
    refine ⟨a, L, pre ++ [ln (Rw.ite f b c).w1], ("else" : Str) :: (lnsB c ++ ([("end" : Str)] ++ post)), b, ns, d + 1, by rw [List.length_append] <;> rfl, e24 _ _ ha2, by rw [hL]; simp [Rw.lns, Rw.w1], fun x hx => .inl (Option.some.inj hx).symm, ho.2.1, hN, by omega, by omega, by omega, fun p5 t5 xs5 H5 e5 h5 ht5 hb5 => ?_⟩
    walk_at "gx"
    have e25 := e24.trans e5
    refine w_ixL (SqL.of (e25 _ _ hp12)) at0 ?_
    walk_at "gx"
    refine ⟨a, L, _, "else", rfl, e25 _ _ ha2, at_mid (A := pre ++ [ln (Rw.ite f b c).w1] ++ lnsB b) (B := lnsB c ++ ([("end" : Str)] ++ post)) (by rw [hL]; simp [Rw.lns, Rw.w1]) (by rw [List.length_append (as := pre ++ _)]), ?_⟩
    walk_at "gx"
    have i2 : (((pre ++ [ln (Rw.ite f b c).w1]).length + (lnsB b).length : Nat) : Int) + 1 = (((pre ++ [ln (Rw.ite f b c).w1] ++ lnsB b ++ [("else" : Str)]).length : Nat) : Int) := by
      rw [List.length_append (as := pre ++ _ ++ _), List.length_append (as := pre ++ _), List.length_singleton]
      omega
    rw [i2]
    refine ⟨a, L, pre ++ [ln (Rw.ite f b c).w1] ++ lnsB b ++ [("else" : Str)], ("end" : Str) :: post, c, ns, d + 1, rfl, e25 _ _ ha2, by rw [hL]; simp [Rw.lns, Rw.w1], fun x hx => .inr (Option.some.inj hx).symm, ho.2.2, hN, by omega, by omega, by omega, fun p6 t6 xs6 H6 e6 h6 ht6 hb6 => ?_⟩
    walk_at "gx"
    refine ⟨a, L, _, "end", rfl, e6 _ _ (e25 _ _ ha2), at_mid (A := pre ++ [ln (Rw.ite f b c).w1] ++ lnsB b ++ [("else" : Str)] ++ lnsB c) (B := post) (by rw [hL]; simp [Rw.lns, Rw.w1]) (by rw [List.length_append (as := pre ++ _ ++ _ ++ _)]), ?_⟩
    walk_at "gx"
    rename_i p7 H7 n7 e7 hp7 p8 H8 n8 e8 hp8
    have e78 := e7.trans e8
    have e68 := e6.trans e78
    refine q p8 (.ref p7) H8 (e02.trans (e25.trans e68)) ?_ (.ite (SqT.of (e8 _ _ hp7)) (hu.mono (e5.trans e68)) (same_t e68 ht5) (hb5.monoS e68) (same_t e78 ht6) (hb6.monoS e78))
    have i3 : ((pre.length + (Rw.ite f b c).lns.length : Nat) : Int) = (((pre ++ [ln (Rw.ite f b c).w1] ++ lnsB b ++ [("else" : Str)]).length + (lnsB c).length : Nat) : Int) + 1 := by
      show ((pre.length + (_ :: (lnsB b ++ ("else" : Str) :: (lnsB c ++ [("end" : Str)]))).length : Nat) : Int) = _
      simp only [List.length_append, List.length_cons, List.length_nil]
      omega
    rw [i3]
    exact SqT.of hp8
  | whl f b =>
    replace hp12 : H2 p1 = some (.lst (.str "while" :: wsV f.wds)) := by rw [hp12]; exact congrArg (fun x => some (HO.lst x)) (wsV_cons _ _)
    have rn : (Rw.whl f b).nest = 1 + nests b := rfl
    have rz : (Rw.whl f b).size = 1 + szs b := rfl
    walk_at "gx"
    refine w_ixL (SqL.of hp12) at0 ?_
    walk_at "gx"
    refine w_ixL (SqL.of hp12) at0 ?_
    walk_at "gx"
    try unfold t_read_row_j2
    walk_at "gx"
    refine w_ixL (SqL.of hp12) at0 ?_
    walk_at "gx"
    refine w_ixL (SqL.of hp12) at0 ?_
    walk_at "gx"
    try unfold t_read_row_j1
    walk_at "gx"
    refine w_slL' (SqL.of hp12) (fun p3 H3 n3 e3 hp3 => ?_)
    rw [show (some (1 : Int)) = some ((1 : Nat) : Int) from rfl, cut_vh] at hp3
    have hp3 : H3 p3 = some (.lst (wsV f.wds)) := hp3
    walk_at "gx"
    refine ⟨p3, f, ns, rfl, hp3, ho.1, hN, fun u H4 e4 hu => ?_⟩
    have e24 := e3.trans e4
    walk_at "gx"
    rw [i1]
    refine ⟨a, L, pre ++ [ln (Rw.whl f b).w1], ("end" : Str) :: post, b, ns, d + 1, by rw [List.length_append] <;> rfl, e24 _ _ ha2, by rw [hL]; simp [Rw.lns, Rw.w1], fun x hx => .inr (Option.some.inj hx).symm, ho.2, hN, by omega, by omega, by omega, fun p5 t5 xs5 H5 e5 h5 ht5 hb5 => ?_⟩
    walk_at "gx"
    have e25 := e24.trans e5
    refine w_ixL (SqL.of (e25 _ _ hp12)) at0 ?_
    walk_at "gx"
    refine ⟨a, L, _, "end", rfl, e25 _ _ ha2, at_mid (A := pre ++ [ln (Rw.whl f b).w1] ++ lnsB b) (B := post) (by rw [hL]; simp [Rw.lns, Rw.w1]) (by rw [List.length_append (as := pre ++ _)]), ?_⟩
    walk_at "gx"
    rename_i p7 H7 n7 e7 hp7 p8 H8 n8 e8 hp8
    have e78 := e7.trans e8
    refine q p8 (.ref p7) H8 (e02.trans (e25.trans e78)) ?_ (.whl (SqT.of (e8 _ _ hp7)) (hu.mono (e5.trans e78)) (same_t e78 ht5) (hb5.monoS e78))
    have i3 : ((pre.length + (Rw.whl f b).lns.length : Nat) : Int) = (((pre ++ [ln (Rw.whl f b).w1]).length + (lnsB b).length : Nat) : Int) + 1 := by
      show ((pre.length + (_ :: (lnsB b ++ [("end" : Str)])).length : Nat) : Int) = _
      simp only [List.length_append, List.length_cons, List.length_nil]
      omega
    rw [i3]
    exact SqT.of hp8
abbrev N_read_block : List Str := ["lines", "at", "deep", "rows", "row"]
noncomputable def t_read_block (K : PySem.W.Frag) (n : Nat) : TS :=
  (tSeq (tAsg (tLst tNil) (gName 3)) (tSeq (tWhile (tAnd (tTest (tOp rLt (tVar 1) (tCB (rLenA K) (tCons (tVar 0) tNil)))) (tAnd (tTest (tOp (rNe2 K) (tOp (rIx K) (tVar 0) (tVar 1)) (tC (.str "else")))) (tTest (tOp (rNe2 K) (tOp (rIx K) (tVar 0) (tVar 1)) (tC (.str "end")))))) (tSeq (tAsg (tF (sp_read_row K n) (tCons (tVar 0) (tCons (tVar 1) (tCons (tVar 2) tNil)))) (gTup K 2 (gCons (gName 4) (gCons (gName 1) gNil)))) (tDrop (tBM K "list" rAppend (tVar 3) (tCons (tVar 4) tNil))))) (tRet (tTup (tCons (tCB (rTupO K) (tCons (tVar 3) tNil)) (tCons (tVar 1) tNil))))))
def sp_read (K : PySem.W.Frag) : Sp := fun vs H Q _ => ∃ (a : Addr) (b : List Rw) (ns : List Str), vs = [.ref a] ∧ H a = some (.lst ((lnsB b).map V.str)) ∧ oks ns b ∧ (∀ x ∈ ns, Nm x) ∧ nests b ≤ 8 ∧ szs b ≤ 1000 ∧
  ∀ (t : Addr) (xs : List V) (H' : Hp), Same H H' → SqT K H' t xs → BkAt K (SqT K) H' xs b → Q (.ref t) H'
theorem pure_read_block (K : PySem.W.Frag) (n : Nat) (vs : List V) (H : Hp) (Q : VK) (E : XK) (h : sp_read_block K n vs H Q E) :
    t_read_block K n { nx := fun _ H' => Q .non H', rt := Q } (start N_read_block vs) H := by
  obtain ⟨a, L, pre, post, b, ns, d, rfl, ha, hL, hpost, ho, hN, hn, hd, hz, q⟩ := h
  have bl := szs_len b
  unfold t_read_block
  walk_at "gx"
  rename_i l H1 nl e1 hl
  have hl : H1 l = some (.lst []) := hl
  refine w_while' (fun m σ H' => ∃ (dn rs : List Rw) (ys : List V) (w4 : Option V), b = dn ++ rs ∧ m = rs.length ∧ σ = [some (.ref a), some (.int ((pre.length + (lnsB dn).length : Nat) : Nat)), some (.int (d : Nat)), some (.ref l), w4] ∧ Same H H' ∧ H' l = some (.lst ys) ∧ BkAt K (SqT K) H' ys dn) b.length
    ⟨[], b, [], _, rfl, rfl, rfl, e1, hl, .nil⟩ ?_
  rintro m σ H2 ⟨dn, rs, ys, w4, hb, rfl, rfl, e2, hl2, hy⟩
  have ha2 := e2 _ _ ha
  cases rs with
  | nil =>
    rw [List.append_nil] at hb
    subst hb
    have stop : tRet (tTup (tCons (tCB (rTupO K) (tCons (tVar 3) tNil)) (tCons (tVar 1) tNil))) { nx := fun _ H' => Q .non H', rt := Q } [some (.ref a), some (.int ((pre.length + (lnsB b).length : Nat) : Nat)), some (.int (d : Nat)), some (.ref l), w4] H2 := by
      walk_at "gx"
      refine w_tupL' (SqL.of hl2) (fun t H3 n3 e3 ht => ?_)
      walk_at "gx"
      rename_i p H4 n4 e4 hp
      exact q p t ys H4 (e2.trans (e3.trans e4)) (SqT.of hp) (SqT.of (e4 _ _ ht)) (hy.monoS (e3.trans e4))
    cases post with
    | nil =>
      walk_at "gx"
      refine w_no (decide_eq_false (by rw [List.length_map, hL, List.length_append, List.append_nil]; omega)) ?_
      exact stop
    | cons x r =>
      have hx := hpost x rfl
      have at1 : L[pre.length + (lnsB b).length]? = some x := at_mid (A := pre ++ lnsB b) (B := r) (by rw [hL, List.append_assoc]) (by rw [List.length_append])
      have lt := (List.getElem?_eq_some_iff.mp at1).1
      walk_at "gx"
      refine w_yes (decide_eq_true (by rw [List.length_map]; omega)) ?_
      walk_at "gx"
      refine w_ixL (v := .str x) (SqL.of ha2) (atI_nat (j := pre.length + (lnsB b).length) (by rw [List.getElem?_map, at1] <;> rfl)) ?_
      walk_at "gx"
      rcases hx with rfl | rfl
      · walk_at "gx"
        refine w_tupL' (SqL.of hl2) (fun t H3 n3 e3 ht => ?_)
        walk_at "gx"
        rename_i p H4 n4 e4 hp
        exact q p t ys H4 (e2.trans (e3.trans e4)) (SqT.of hp) (SqT.of (e4 _ _ ht)) (hy.monoS (e3.trans e4))
      · walk_at "gx"
        refine w_ixL (v := .str "end") (SqL.of ha2) (atI_nat (j := pre.length + (lnsB b).length) (by rw [List.getElem?_map, at1] <;> rfl)) ?_
        walk_at "gx"
        refine w_tupL' (SqL.of hl2) (fun t H3 n3 e3 ht => ?_)
        walk_at "gx"
        rename_i p H4 n4 e4 hp
        exact q p t ys H4 (e2.trans (e3.trans e4)) (SqT.of hp) (SqT.of (e4 _ _ ht)) (hy.monoS (e3.trans e4))
  | cons r rs =>
    obtain ⟨tl, htl⟩ := lns_hd r
    have hL2 : L = (pre ++ lnsB dn) ++ (r.lns ++ (lnsB rs ++ post)) := by
      rw [hL, hb, lnsB_app]
      show pre ++ (lnsB dn ++ (r.lns ++ lnsB rs) ++ post) = _
      simp only [List.append_assoc]
    have at1 : L[pre.length + (lnsB dn).length]? = some (ln r.w1) := at_mid (A := pre ++ lnsB dn) (B := tl ++ (lnsB rs ++ post)) (by rw [hL2, htl]; rfl) (by rw [List.length_append])
    have lt := (List.getElem?_eq_some_iff.mp at1).1
    have rb : r ∈ b := by rw [hb]; exact List.mem_append_right _ (List.mem_cons_self ..)
    have rn := nest_mem rb
    have rz := sz_mem rb
    have dl : dn.length + (rs.length + 1) = b.length := by rw [hb, List.length_append] <;> rfl
    have yl := hy.len
    walk_at "gx"
    refine w_yes (decide_eq_true (by rw [List.length_map]; omega)) ?_
    walk_at "gx"
    refine w_ixL (v := .str (ln r.w1)) (SqL.of ha2) (atI_nat (j := pre.length + (lnsB dn).length) (by rw [List.getElem?_map, at1] <;> rfl)) ?_
    walk_at "gx"
    refine w_yes (by rw [decide_eq_false (ln_not r).1] <;> rfl) ?_
    walk_at "gx"
    refine w_ixL (v := .str (ln r.w1)) (SqL.of ha2) (atI_nat (j := pre.length + (lnsB dn).length) (by rw [List.getElem?_map, at1] <;> rfl)) ?_
    walk_at "gx"
    refine w_yes (by rw [decide_eq_false (ln_not r).2] <;> rfl) (w_body ?_)
    walk_at "gx"
    refine ⟨a, L, pre ++ lnsB dn, lnsB rs ++ post, r, ns, d, by rw [List.length_append], ha2, hL2, oks_mem ho r rb, hN, by omega, by omega, by omega, fun p u H3 e3 hp hu => ?_⟩
    walk_at "gx"
    refine w_app' (e3 _ _ hl2) (lt_line (by omega)) (fun H4 x4 t4 h4 => ?_)
    walk_at "gx"
    have i1 : (pre ++ lnsB dn).length + r.lns.length = pre.length + (lnsB (dn ++ [r])).length := by
      rw [lnsB_app, List.length_append, List.length_append]
      show _ = pre.length + ((lnsB dn).length + (r.lns ++ []).length)
      rw [List.append_nil]
      omega
    exact ⟨rs.length, by show rs.length < rs.length + 1; omega, dn ++ [r], rs, ys ++ [u], some u, by rw [hb]; simp, rfl, by rw [i1] <;> rfl, SameX.same (e2.trans e3) nl x4, h4, ((hy.monoS e3).monoT t4).app (.one (hu.monoT t4))⟩
abbrev N_read : List Str := ["lines", "rows", "at"]
noncomputable def t_read (K : PySem.W.Frag) : TS :=
  (tSeq (tAsg (tF (sp_read_block K 9) (tCons (tVar 0) (tCons (tC (.int 0)) (tCons (tC (.int 1)) tNil)))) (gTup K 2 (gCons (gName 1) (gCons (gName 2) gNil)))) (tSeq (tIfS (tTest (tOp (rNe2 K) (tVar 2) (tCB (rLenA K) (tCons (tVar 0) tNil)))) tNever tNext) (tRet (tVar 1))))
theorem pure_read (K : PySem.W.Frag) (vs : List V) (H : Hp) (Q : VK) (E : XK) (h : sp_read K vs H Q E) :
    t_read K { nx := fun _ H' => Q .non H', rt := Q } (start N_read vs) H := by
  obtain ⟨a, b, ns, rfl, ha, ho, hN, hn, hz, q⟩ := h
  unfold t_read
  walk_at "gx"
  refine ⟨a, lnsB b, [], [], b, ns, 1, rfl, ha, by simp, fun _ h => (nomatch h), ho, hN, by omega, by omega, hz, fun p t xs H1 e1 hp ht hb => ?_⟩
  have ha1 := e1 _ _ ha
  walk_at "gx"
  refine w_no (by rw [List.length_map]; simp) ?_
  walk_at "gx"
  exact q t xs H1 e1 ht hb
mutual
def flatD : PyData → Bool
  | .int _ => true
  | .str _ => true
  | .tuple ds => decide (ds.length ≤ 100000) && flatDs ds
  | _ => false
def flatDs : List PyData → Bool
  | [] => true
  | d :: ds => flatD d && flatDs ds
end
def sp_law_alike (K : PySem.W.Frag) (n : Nat) : Sp := fun vs H Q _ => ∃ (x y : V) (d : PyData), vs = [x, y] ∧ Dp K H x d ∧ Dp K H y d ∧ flatD d = true ∧ PyData.strOk "" = true ∧ d.depth < n ∧ d.canLay0 = true ∧ d.depth ≤ 60 ∧ ∀ H', Same H H' → Q (.bl true) H'
theorem no_law_alike {K : PySem.W.Frag} : ∀ vs H Q E, ¬ sp_law_alike K 0 vs H Q E := by
  rintro vs H Q E ⟨_, _, _, _, _, _, _, _, h, _⟩
  omega
def sp_law_lists (K : PySem.W.Frag) (n : Nat) : Sp := fun vs H Q _ => ∃ (a : Addr) (xs : List V) (b : List Rw), vs = [.ref a] ∧ SqT K H a xs ∧ BkAt K (SqT K) H xs b ∧ nests b < n ∧ szs b ≤ 1000 ∧
  ∀ (p : Addr) (H' : Hp) (ys : List V), Same H H' → H p = none → H' p = some (.lst ys) → BkAt K (SqL K) (Del H H') ys b → Q (.ref p) H'
theorem no_law_lists {K : PySem.W.Frag} : ∀ vs H Q E, ¬ sp_law_lists K 0 vs H Q E := by
  rintro vs H Q E ⟨_, _, _, _, _, _, h, _⟩
  omega
theorem dpAll_len {K : PySem.W.Frag} {H : Hp} : ∀ {xs : List V} {ds : List PyData}, DpAll K H xs ds → xs.length = ds.length
  | _, _, .nil => rfl
  | _, _, .cons _ t => congrArg (· + 1) (dpAll_len t)
theorem dpAll_at {K : PySem.W.Frag} {H : Hp} : ∀ {xs : List V} {ds : List PyData} {i : Nat} {d : PyData}, DpAll K H xs ds → ds[i]? = some d → ∃ x, xs[i]? = some x ∧ Dp K H x d
  | _, _, 0, _, .cons h _, e => ⟨_, rfl, by rw [← Option.some.inj e]; exact h⟩
  | _, d :: ds, n + 1, _, .cons _ t, e => by
    have e : ds[n]? = some _ := e
    obtain ⟨x, h1, h2⟩ := dpAll_at t e
    exact ⟨x, h1, h2⟩
theorem flat_mem : ∀ {ds : List PyData}, flatDs ds = true → ∀ d ∈ ds, flatD d = true
  | e :: ds, h, d, hd => by
    have h : (flatD e && flatDs ds) = true := h
    rw [Bool.and_eq_true] at h
    rcases List.mem_cons.mp hd with rfl | hd
    · exact h.1
    · exact flat_mem h.2 d hd
theorem lay_mem : ∀ {ds : List PyData}, PyData.canLayAll0 ds = true → ∀ d ∈ ds, d.canLay0 = true
  | e :: ds, h, d, hd => by
    have h : (e.canLay0 && PyData.canLayAll0 ds) = true := h
    rw [Bool.and_eq_true] at h
    rcases List.mem_cons.mp hd with rfl | hd
    · exact h.1
    · exact lay_mem h.2 d hd
theorem dep_mem : ∀ {ds : List PyData}, ∀ d ∈ ds, d.depth ≤ PyData.depthAll ds
  | e :: ds, d, hd => by
    show d.depth ≤ max e.depth (PyData.depthAll ds)
    rcases List.mem_cons.mp hd with rfl | hd
    · exact Nat.le_max_left _ _
    · exact Nat.le_trans (dep_mem d hd) (Nat.le_max_right _ _)
mutual
theorem dp_same {K : PySem.W.Frag} {H H' : Hp} (e : Same H H') : ∀ {v : V} {d : PyData}, Dp K H v d → Dp K H' v d
  | _, _, .non => .non
  | _, _, .bl b => .bl b
  | _, _, .int i => .int i
  | _, _, .str x => .str x
  | _, _, .lst h t => .lst (same_l e h) (dpAll_same e t)
  | _, _, .tup h t => .tup (same_t e h) (dpAll_same e t)
theorem dpAll_same {K : PySem.W.Frag} {H H' : Hp} (e : Same H H') : ∀ {vs : List V} {ds : List PyData}, DpAll K H vs ds → DpAll K H' vs ds
  | _, _, .nil => .nil
  | _, _, .cons h t => .cons (dp_same e h) (dpAll_same e t)
end
abbrev N_law_alike : List Str := ["_law_told", "_law_due", "_law_k"]
noncomputable def t_law_alike_j1 (K : PySem.W.Frag) (n : Nat) : TS :=
  (tRet (tOp (rEq2 K) (tLc (iRng1 (tCons (tCB (rLenA K) (tCons (tVar 1) tNil)) tNil)) (gName 2) (tNot (tB (tF (sp_law_alike K n) (tCons (tOp (rIx K) (tVar 0) (tVar 2)) (tCons (tOp (rIx K) (tVar 1) (tVar 2)) tNil))))) (tVar 2) [2]) (tLst tNil)))
noncomputable def t_law_alike (K : PySem.W.Frag) (n : Nat) : TS :=
  (tSeq (tIfS (tB (tCB (rIsi2 K) (tCons (tVar 1) (tCons (tC (.ty "tuple")) tNil)))) (tSeq (tIfS (tOr (tNot (tB (tCB (rIsi2 K) (tCons (tVar 0) (tCons (tC (.ty "tuple")) tNil))))) (tTest (tOp (rNe2 K) (tCB (rLenA K) (tCons (tVar 0) tNil)) (tCB (rLenA K) (tCons (tVar 1) tNil))))) (tRet (tC (.bl false))) tNext) (t_law_alike_j1 K n)) tNext) (tSeq (tIfS (tB (tCB (rIsi2 K) (tCons (tVar 1) (tCons (tC (.ty "int")) tNil)))) (tRet (tAndV (tCB (rIsi2 K) (tCons (tVar 0) (tCons (tC (.ty "int")) tNil))) (tAndV (tNotV (tCB (rIsi2 K) (tCons (tVar 0) (tCons (tC (.ty "bool")) tNil)))) (tOp (rEq2 K) (tVar 0) (tVar 1))))) tNext) (tRet (tAndV (tCB (rIsi2 K) (tCons (tVar 0) (tCons (tC (.ty "str")) tNil))) (tOp (rEq2 K) (tVar 0) (tVar 1))))))
abbrev N_law_lists : List Str := ["_law_block", "_law_rows", "_law_row"]
noncomputable def t_law_lists_j1 (K : PySem.W.Frag) (n : Nat) : TS :=
  (tDrop (tBM K "list" rAppend (tVar 1) (tCons (tVar 2) tNil)))
noncomputable def t_law_lists (K : PySem.W.Frag) (n : Nat) : TS :=
  (tSeq (tAsg (tLst tNil) (gName 1)) (tSeq (tFor (iSeq K (tVar 0)) (gName 2) (tSeq (tIfS (tTest (tOp (rEq2 K) (tOp (rIx K) (tVar 2) (tC (.int 0))) (tC (.str "if")))) (tAsg (tTup (tCons (tC (.str "if")) (tCons (tOp (rIx K) (tVar 2) (tC (.int 1))) (tCons (tF (sp_law_lists K n) (tCons (tOp (rIx K) (tVar 2) (tC (.int 2))) tNil)) (tCons (tF (sp_law_lists K n) (tCons (tOp (rIx K) (tVar 2) (tC (.int 3))) tNil)) tNil))))) (gName 2)) (tIfS (tTest (tOp (rEq2 K) (tOp (rIx K) (tVar 2) (tC (.int 0))) (tC (.str "while")))) (tAsg (tTup (tCons (tC (.str "while")) (tCons (tOp (rIx K) (tVar 2) (tC (.int 1))) (tCons (tF (sp_law_lists K n) (tCons (tOp (rIx K) (tVar 2) (tC (.int 2))) tNil)) tNil)))) (gName 2)) tNext)) (t_law_lists_j1 K n))) (tRet (tVar 1))))
theorem pure_law_alike (K : PySem.W.Frag) (n : Nat) (vs : List V) (H : Hp) (Q : VK) (E : XK) (h : sp_law_alike K (n + 1) vs H Q E) :
    t_law_alike K n { nx := fun _ H' => Q .non H', rt := Q } (start N_law_alike vs) H := by
  obtain ⟨x, y, d, rfl, hx, hy, hf, _, hn, hc, h60, q⟩ := h
  unfold t_law_alike
  walk_at "gx"
  cases hy with
  | int i =>
    cases hx with
    | int _ =>
    refine w_isiNo (.base (.int i)) rfl ?_
    walk_at "gx"
    refine w_isi (.base (.int i)) rfl ?_
    walk_at "gx"
    refine w_isi (.base (.int i)) rfl ?_
    walk_at "gx"
    refine w_isiNo (.base (.int i)) rfl ?_
    walk_at "gx"
    rw [decide_eq_true rfl]
    exact q _ (Same.refl _)
  | str z =>
    cases hx with
    | str _ =>
    refine w_isiNo (.base (.str z)) rfl ?_
    walk_at "gx"
    refine w_isiNo (.base (.str z)) rfl ?_
    walk_at "gx"
    refine w_isi (.base (.str z)) rfl ?_
    walk_at "gx"
    rw [decide_eq_true rfl]
    exact q _ (Same.refl _)
  | tup h2 hs2 =>
    cases hx with
    | tup h1 hs1 =>
    rename_i a2 ys ds a1 xs
    have l1 := dpAll_len hs1
    have l2 := dpAll_len hs2
    refine w_isi (tyx_t h2) rfl ?_
    walk_at "gx"
    refine w_isi (tyx_t h1) rfl ?_
    walk_at "gx"
    refine w_no (by rw [l1, l2]; simp) ?_
    walk_at "gx"
    try unfold t_law_alike_j1
    walk_at "gx"
    refine w_lc ?_
    walk_at "gx"
    have hf : (decide (ds.length ≤ 100000) && flatDs ds) = true := hf
    rw [Bool.and_eq_true, decide_eq_true_iff] at hf
    have hd : (PyData.tuple ds).depth = PyData.depthAll ds + 1 := rfl
    refine ⟨_, rfl, by omega, by omega, fun D hD => lc_range (lo := 0) (n := ((ys.length : Nat) : Int).toNat) (fun i H' => Same H H' ∧ H' D = some (.lst [])) ⟨same_new hD, upd_same⟩ ?_ ?_⟩
    · rintro i H2 hi ⟨e2, hD2⟩
      have i0 : i < ds.length := by omega
      have hdi : ds[i]? = some ds[i] := List.getElem?_eq_getElem i0
      have dm := List.mem_of_getElem? hdi
      have dd := dep_mem _ dm
      obtain ⟨x1, hx1, k1⟩ := dpAll_at hs1 hdi
      obtain ⟨x2, hx2, k2⟩ := dpAll_at hs2 hdi
      refine ⟨rfl, ?_⟩
      rw [show (0 : Int) + (i : Int) = ((i : Nat) : Int) by omega]
      walk_at "gx"
      refine w_ixT (same_t e2 h1) (atI_nat hx1) ?_
      walk_at "gx"
      refine w_ixT (same_t e2 h2) (atI_nat hx2) ?_
      walk_at "gx"
      refine ⟨x1, x2, ds[i], rfl, dp_same e2 k1, dp_same e2 k2, flat_mem hf.2 _ dm, by decide +kernel, by omega, lay_mem hc _ dm, by omega, fun H3 e3 => ?_⟩
      walk_at "gx"
      exact ⟨e2.trans e3, e3 _ _ hD2⟩
    · rintro H2 ⟨e2, hD2⟩
      walk_at "gx"
      rename_i p3 H3 n3 e3 hp3
      refine w_eqTxt (xs := []) (ys := []) (SqL.of (e3 _ _ hD2)) (SqL.of hp3) (fun _ h => nomatch h) (fun _ h => nomatch h) ?_
      exact q _ (e2.trans e3)
  | _ => exact nomatch hf
theorem pure_law_lists (K : PySem.W.Frag) (n : Nat) (vs : List V) (H : Hp) (Q : VK) (E : XK) (h : sp_law_lists K (n + 1) vs H Q E) :
    t_law_lists K n { nx := fun _ H' => Q .non H', rt := Q } (start N_law_lists vs) H := by
  obtain ⟨a, xs, b, rfl, hs, hb, hn, hz, q⟩ := h
  have bl := szs_len b
  unfold t_law_lists
  walk_at "gx"
  rename_i l H1 nl e1 hl
  have hl : H1 l = some (.lst []) := hl
  refine for_al (as := b) (P := RwAt K (SqT K) H) (fun pre σ H' => Same H H' ∧ ∃ (ys : List V) (w2 : Option V), σ = [some (.ref a), some (.ref l), w2] ∧ H' l = some (.lst ys) ∧ SameX l H1 H' ∧ BkAt K (SqL K) (Del H1 H') ys pre)
    (.inr hs) hb.all2 ⟨e1, [], _, rfl, hl, SameX.of (Same.refl _), .nil⟩ (fun _ _ _ h => h.1) ?_ ?_
  · rintro pre x post v σ H2 eb hv ⟨e2, ys, w2, rfl, hl2, x2, hy⟩
    have hv2 := hv.monoS e2
    have hx : x ∈ b := eb ▸ List.mem_append_right _ (List.mem_cons_self ..)
    have rn := nest_mem hx
    have rz := sz_mem hx
    have yl : ys.length < sizeLine := lt_line (by
      have := hy.len
      have := congrArg List.length eb
      rw [List.length_append] at this
      omega)
    have goL : ∀ {A B : Hp} {vs : List V} {c : List Rw}, Same A B → BkAt K (SqL K) A vs c → BkAt K (SqL K) B vs c := fun e h => h.go (SameT.of e) fun _ _ => same_l e
    have goR : ∀ {A B : Hp} {v : V} {c : Rw}, Same A B → RwAt K (SqL K) A v c → RwAt K (SqL K) B v c := fun e h => h.go (SameT.of e) fun _ _ => same_l e
    have fin : ∀ (v' : V) (H3 H4 : Hp) (w2 : Option V), Same H2 H3 → SameX l H3 H4 → H4 l = some (.lst (ys ++ [v'])) → RwAt K (SqL K) (Del H1 H3) v' x →
        Same H H4 ∧ ∃ (zs : List V) (u2 : Option V), [some (V.ref a), some (.ref l), w2] = [some (.ref a), some (.ref l), u2] ∧ H4 l = some (.lst zs) ∧ SameX l H1 H4 ∧ BkAt K (SqL K) (Del H1 H4) zs (pre ++ [x]) := by
      intro v' H3 H4 w2 e3 x4 hl4 ht
      have d34 : Same (Del H1 H3) (Del H1 H4) := del_mono (fun a xs h => ⟨xs, h⟩) fun a o c h => x4 a o (fun e => c [] (e ▸ hl)) h
      have d23 : Same (Del H1 H2) (Del H1 H3) := del_mono (fun a xs h => ⟨xs, h⟩) fun a o _ h => e3 a o h
      exact ⟨SameX.same (e2.trans e3) nl x4, _, _, rfl, hl4, (x2.trans (SameX.of e3)).trans x4, (goL (d23.trans d34) hy).app (.one (goR d34 ht))⟩
    have sT : SameT H2 (Del H1 H2) := del_T (ll_x x2 hl2)
    cases hv2 with
    | set h hf =>
      walk_at "gx"
      try unfold t_law_lists_j1
      walk_at "gx"
      refine w_app' hl2 yl (fun H4 x4 t4 h4 => ?_)
      exact fin _ H2 H4 _ (Same.refl _) x4 h4 (.set (sameT_t sT h) (hf.monoT sT))
    | tell h hf =>
      walk_at "gx"
      try unfold t_law_lists_j1
      walk_at "gx"
      refine w_app' hl2 yl (fun H4 x4 t4 h4 => ?_)
      exact fin _ H2 H4 _ (Same.refl _) x4 h4 (.tell (sameT_t sT h) (hf.monoT sT))
    | skip h =>
      walk_at "gx"
      try unfold t_law_lists_j1
      walk_at "gx"
      refine w_app' hl2 yl (fun H4 x4 t4 h4 => ?_)
      exact fin _ H2 H4 _ (Same.refl _) x4 h4 (.skip (sameT_t sT h))
    | ite h hf hp hb1 hq hc =>
      rename_i a0 p0 q0 u0 f0 xs0 ys0 b0 c0
      have rn' : 1 + max (nests b0) (nests c0) ≤ nests b := rn
      have rz' : 1 + (szs b0 + szs c0) ≤ szs b := rz
      walk_at "gx"
      refine ⟨_, _, b0, rfl, hp, hb1, by omega, by omega, fun l1 H3 ys1 e3 n1 hl1 hy1 => ?_⟩
      walk_at "gx"
      refine ⟨_, _, c0, rfl, same_t e3 hq, hc.monoS e3, by omega, by omega, fun l2 H4 ys2 e4 n2 hl2' hy2 => ?_⟩
      walk_at "gx"
      rename_i p H5 n5 e5 hp5
      have e35 := e4.trans e5
      have e25 := e3.trans e35
      try unfold t_law_lists_j1
      walk_at "gx"
      refine w_app' (H := H5) (e25 _ _ hl2) yl (fun H6 x6 t6 h6 => ?_)
      have x3 := x2.trans (SameX.of e3)
      have x4 := x3.trans (SameX.of e4)
      have hl3 := e3 _ _ hl2
      have sT5 : SameT H5 (Del H1 H5) := del_T (ll_x (x2.trans (SameX.of e25)) (e25 _ _ hl2))
      exact fin _ H5 H6 _ e25 x6 h6 (.ite (SqT.of (del_new (none_x x4 (e4 _ _ hl3) n5) hp5)) ((hf.mono e25).monoT sT5)
        (SqL.of (del_new (none_x x2 hl2 n1) (e35 _ _ hl1))) (goL (del_mono (ll_x x2 hl2) fun a o _ h => e35 a o h) hy1)
        (SqL.of (del_new (none_x x3 hl3 n2) (e5 _ _ hl2'))) (goL (del_mono (ll_x x3 hl3) fun a o _ h => e5 a o h) hy2))
    | whl h hf hp hb1 =>
      rename_i a0 p0 u0 f0 xs0 b0
      have rn' : 1 + nests b0 ≤ nests b := rn
      have rz' : 1 + szs b0 ≤ szs b := rz
      walk_at "gx"
      refine ⟨_, _, b0, rfl, hp, hb1, by omega, by omega, fun l1 H3 ys1 e3 n1 hl1 hy1 => ?_⟩
      walk_at "gx"
      rename_i p H5 n5 e5 hp5
      have e25 := e3.trans e5
      try unfold t_law_lists_j1
      walk_at "gx"
      refine w_app' (H := H5) (e25 _ _ hl2) yl (fun H6 x6 t6 h6 => ?_)
      have x3 := x2.trans (SameX.of e3)
      have hl3 := e3 _ _ hl2
      have sT5 : SameT H5 (Del H1 H5) := del_T (ll_x (x2.trans (SameX.of e25)) (e25 _ _ hl2))
      exact fin _ H5 H6 _ e25 x6 h6 (.whl (SqT.of (del_new (none_x x3 hl3 n5) hp5)) ((hf.mono e25).monoT sT5)
        (SqL.of (del_new (none_x x2 hl2 n1) (e5 _ _ hl1))) (goL (del_mono (ll_x x2 hl2) fun a o _ h => e5 a o h) hy1))
  · rintro σ H2 ⟨e2, ys, w2, rfl, hl2, x2, hy⟩
    walk_at "gx"
    exact q l H2 ys e2 nl hl2 (hy.go (SameT.of (del_mono (ll_same e1) fun a o _ h => h)) fun _ _ => same_l (del_mono (ll_same e1) fun a o _ h => h))
section
variable {K : PySem.W.Frag} {H : Hp} {a : Addr} {u v : V} {f g : Fm}
theorem FmAt.opAdd (h : SqT K H a [.str "+", u, v]) (h1 : FmAt K H u f) (h2 : FmAt K H v g) : FmAt K H (.ref a) (.op .add f g) := .op (s := .add) h h1 h2
theorem FmAt.opDiv (h : SqT K H a [.str "/", u, v]) (h1 : FmAt K H u f) (h2 : FmAt K H v g) : FmAt K H (.ref a) (.op .div f g) := .op (s := .div) h h1 h2
theorem FmAt.opLt (h : SqT K H a [.str "<", u, v]) (h1 : FmAt K H u f) (h2 : FmAt K H v g) : FmAt K H (.ref a) (.op .lt f g) := .op (s := .lt) h h1 h2
theorem FmAt.opEq (h : SqT K H a [.str "=", u, v]) (h1 : FmAt K H u f) (h2 : FmAt K H v g) : FmAt K H (.ref a) (.op .eq f g) := .op (s := .eq) h h1 h2
end
theorem fine_nam {ns : List Str} {x : Str} (h : x ∈ ns) : (Fm.nam x).fine ns := ⟨h, show 1 ≤ 12 by decide⟩
theorem fine_num {ns : List Str} {n : Int} (h0 : 0 ≤ n) (h : n < 1000000) : (Fm.num n).fine ns := ⟨⟨h0, h⟩, show 1 ≤ 12 by decide⟩
theorem fine_op {ns : List Str} {s : Sg} {f g : Fm} (h1 : f.fine ns) (h2 : g.fine ns) (d1 : f.depth ≤ 11) (d2 : g.depth ≤ 11) : (Fm.op s f g).fine ns := ⟨⟨h1.1, h2.1⟩, Nat.succ_le_succ (Nat.max_le.mpr ⟨d1, d2⟩)⟩
theorem BkAt.drop {K : PySem.W.Frag} {S : SQ} {H : Hp} : ∀ {vs : List V} {l : List Rw} (n : Nat), BkAt K S H vs l → BkAt K S H (vs.drop n) (l.drop n)
  | _, _, 0, h => h
  | _, _, _ + 1, .nil => .nil
  | _, _, n + 1, .cons h t => t.drop n
theorem pick2 {x y : V} {i : Int} (h0 : 0 ≤ i) (h : i < 2) : (i = 0 ∧ atI [x, y] i = some x) ∨ (i = 1 ∧ atI [x, y] i = some y) := by
  rcases (show i = 0 ∨ i = 1 by omega) with rfl | rfl
  · exact .inl ⟨rfl, atI_nat (j := 0) rfl⟩
  · exact .inr ⟨rfl, atI_nat (j := 1) rfl⟩
local macro_rules | `(tactic| walk_at "fm") => `(tactic| first
  | with_reducible assumption
  | ((with_reducible refine FmAt.mono (H := ?M) ?e ?h); (case h => with_reducible assumption); (case e => walk_at "ss"))
  | ((with_reducible refine FmAt.nam ?h); (case h => walk_at "hp"))
  | ((with_reducible refine FmAt.num ?h); (case h => walk_at "hp"))
  | ((with_reducible refine FmAt.opAdd (u := ?u) (v := ?v) ?h ?a ?b); (case h => walk_at "hp"); (case a => walk_at "fm"); (case b => walk_at "fm"))
  | ((with_reducible refine FmAt.opDiv (u := ?u) (v := ?v) ?h ?a ?b); (case h => walk_at "hp"); (case a => walk_at "fm"); (case b => walk_at "fm"))
  | ((with_reducible refine FmAt.opLt (u := ?u) (v := ?v) ?h ?a ?b); (case h => walk_at "hp"); (case a => walk_at "fm"); (case b => walk_at "fm"))
  | ((with_reducible refine FmAt.opEq (u := ?u) (v := ?v) ?h ?a ?b); (case h => walk_at "hp"); (case a => walk_at "fm"); (case b => walk_at "fm")))
local macro_rules | `(tactic| walk_at "rw") => `(tactic| first
  | with_reducible assumption
  | ((with_reducible refine RwAt.monoS (H := ?M) ?e ?h); (case h => with_reducible assumption); (case e => walk_at "ss"))
  | ((with_reducible refine BkAt.monoS (H := ?M) ?e ?h); (case h => with_reducible assumption); (case e => walk_at "ss"))
  | with_reducible exact BkAt.nil
  | ((with_reducible refine BkAt.cons ?h ?t); (case h => walk_at "rw"); (case t => walk_at "rw"))
  | ((with_reducible refine RwAt.set (u := ?u) ?h ?f); (case h => walk_at "hp"); (case f => walk_at "fm"))
  | ((with_reducible refine RwAt.tell (u := ?u) ?h ?f); (case h => walk_at "hp"); (case f => walk_at "fm"))
  | ((with_reducible refine RwAt.skip ?h); (case h => walk_at "hp"))
  | ((with_reducible refine RwAt.ite (p := ?pp) (q := ?qq) (u := ?u) (xs := ?xs) (ys := ?ys) ?h ?f ?p ?b ?q ?c); (case h => walk_at "hp"); (case f => walk_at "fm"); (case p => walk_at "hp"); (case b => walk_at "rw"); (case q => walk_at "hp"); (case c => walk_at "rw"))
  | ((with_reducible refine RwAt.whl (p := ?pp) (u := ?u) (xs := ?xs) ?h ?f ?p ?b); (case h => walk_at "hp"); (case f => walk_at "fm"); (case p => walk_at "hp"); (case b => walk_at "rw")))
local macro_rules | `(tactic| walk_at "fn") => `(tactic| first
  | with_reducible assumption
  | ((with_reducible refine fine_nam ?h); (case h => with_reducible assumption))
  | exact fine_num (by decide) (by decide)
  | exact fine_num (by omega) (by omega)
  | ((with_reducible refine fine_op ?a ?b ?c ?d); (case a => walk_at "fn"); (case b => walk_at "fn"); (case c => (first | omega | (simp only [Fm.depth]; omega) | (simp only [Fm.depth]; decide))); (case d => (first | omega | (simp only [Fm.depth]; omega) | (simp only [Fm.depth]; decide)))))
def sp_k03 (K : PySem.W.Frag) : Sp := fun vs H Q _ => ∃ (a : Addr) (ns : List Int), vs = [.ref a] ∧ SqL K H a (ns.map V.int) ∧ ns.length ≤ 63 ∧ ∀ H', Q (.bl true) H'
mutual
theorem fm_flat : ∀ f : Fm, flatD f.pd = true
  | .num _ => rfl
  | .nam _ => rfl
  | .op s a b => by
    show (decide (3 ≤ 100000) && (true && (flatD a.pd && (flatD b.pd && true)))) = true
    rw [fm_flat a, fm_flat b] <;> rfl
end
mutual
theorem rw_flat : ∀ r : Rw, szs [r] ≤ 1000 → flatD (r.pd .tuple) = true
  | .set x f, _ => by
    show (decide (3 ≤ 100000) && (true && (true && (flatD f.pd && true)))) = true
    rw [fm_flat f] <;> rfl
  | .tell f, _ => by
    show (decide (2 ≤ 100000) && (true && (flatD f.pd && true))) = true
    rw [fm_flat f] <;> rfl
  | .skip, _ => rfl
  | .ite f a b, h => by
    have h : 1 + (szs a + szs b) + 0 ≤ 1000 := h
    show (decide (4 ≤ 100000) && (true && (flatD f.pd && (flatD (.tuple (pds .tuple a)) && (flatD (.tuple (pds .tuple b)) && true))))) = true
    rw [fm_flat f, blk_flat a (by omega), blk_flat b (by omega)] <;> rfl
  | .whl f a, h => by
    have h : 1 + szs a + 0 ≤ 1000 := h
    show (decide (3 ≤ 100000) && (true && (flatD f.pd && (flatD (.tuple (pds .tuple a)) && true)))) = true
    rw [fm_flat f, blk_flat a (by omega)] <;> rfl
theorem blk_flat : ∀ b : List Rw, szs b ≤ 1000 → flatD (.tuple (pds .tuple b)) = true
  | [], _ => rfl
  | r :: l, h => by
    have h : r.size + szs l ≤ 1000 := h
    have h1 := rw_flat r (by show r.size + 0 ≤ 1000; omega)
    have h2 := blk_flat l (by omega)
    have h2 : (decide ((pds .tuple l).length ≤ 100000) && flatDs (pds .tuple l)) = true := h2
    rw [Bool.and_eq_true, decide_eq_true_iff] at h2
    have ll : ∀ l : List Rw, (pds .tuple l).length = l.length := fun l => by
      induction l with
      | nil => rfl
      | cons r l ih => exact congrArg (· + 1) ih
    have sl := szs_len l
    show (decide ((pds .tuple l).length + 1 ≤ 100000) && (flatD (r.pd .tuple) && flatDs (pds .tuple l))) = true
    rw [h1, h2.2, decide_eq_true (by rw [ll]; omega)] <;> rfl
end
/-- two blocks of tuples, one like the other -/
theorem alike_blk {K : PySem.W.Frag} {H : Hp} {Q : VK} {E : XK} {p q : Addr} {xs ys : List V} {b : List Rw} {ns : List Str} (hp : SqT K H p xs) (hb : BkAt K (SqT K) H xs b) (hq : SqT K H q ys) (hc : BkAt K (SqT K) H ys b) (ho : oks ns b) (hN : ∀ x ∈ ns, Nm x) (hn : nests b ≤ 8) (hz : szs b ≤ 1000) (k : ∀ H', Same H H' → Q (.bl true) H') : sp_law_alike K 40 [.ref p, .ref q] H Q E := by
  have dk := Dk.tup (pds_dk hN tupD ho)
  have := dk.dep
  exact ⟨_, _, .tuple (pds .tuple b), rfl, .tup hp (BkAt.dp tupB hb), .tup hq (BkAt.dp tupB hc), blk_flat b hz, by decide +kernel, by omega, dk.lay, by omega, k⟩
abbrev N_k03 : List Str := ["_law_script", "_law_names_here", "_law_block", "_law_told", "_law_handed", "_law_other", "_law_inner"]
noncomputable def t_k03_j1 (K : PySem.W.Frag) : TS :=
  (tRet (tAndV (tF (sp_law_alike K 40) (tCons (tF (sp_read K) (tCons (tVar 4) tNil)) (tCons (tOp (rAdd K) (tVar 2) (tTup (tCons (tTup (tCons (tC (.str "skip")) tNil)) tNil))) tNil))) (tOp (rEq2 K) (tOp (rIx K) (tVar 3) (tUn rNeg (tC (.int 1)))) (tC (.str "zz")))))
noncomputable def t_k03_j2 (K : PySem.W.Frag) : TS :=
  (tSeq (tDrop (tBM K "list" rAppend (tVar 4) (tCons (tC (.str "skip")) tNil))) (tSeq (tAsg (tF (sp_law_lists K 9) (tCons (tVar 2) tNil)) (gName 6)) (tSeq (tIfS (tOr (tTest (tOp (rNe2 K) (tF (sp_written K 9) (tCons (tVar 6) tNil)) (tSl (rSl K) (tVar 4) tNoPart (tPart (tUn rNeg (tC (.int 1))))))) (tTest (tOp (rNe2 K) (tVar 6) (tF (sp_law_lists K 9) (tCons (tVar 2) tNil))))) (tRet (tC (.bl false))) tNext) (t_k03_j1 K))))
noncomputable def t_k03_j3 (K : PySem.W.Frag) : TS :=
  (tSeq (tDrop (tBM K "list" rAppend (tVar 3) (tCons (tC (.str "zz")) tNil))) (tSeq (tAsg (tTup (tCons (tTup (tCons (tC (.str "skip")) tNil)) (tCons (tTup (tCons (tC (.str "tell")) (tCons (tTup (tCons (tC (.str "name")) (tCons (tOp (rIx K) (tVar 1) (tC (.int 0))) tNil))) tNil))) tNil))) (gName 5)) (tSeq (tIfS (tOr (tTest (tOp (rNe2 K) (tF (sp_written K 9) (tCons (tVar 5) tNil)) (tLst (tCons (tC (.str "skip")) (tCons (tOp (rAdd K) (tC (.str "tell ")) (tOp (rIx K) (tVar 1) (tC (.int 0)))) tNil))))) (tNot (tB (tF (sp_law_alike K 40) (tCons (tF (sp_read K) (tCons (tLst (tCons (tC (.str "skip")) (tCons (tOp (rAdd K) (tC (.str "tell ")) (tOp (rIx K) (tVar 1) (tC (.int 0)))) tNil))) tNil)) (tCons (tVar 5) tNil)))))) (tRet (tC (.bl false))) tNext) (t_k03_j2 K))))
noncomputable def t_k03_j4 (K : PySem.W.Frag) : TS :=
  (tSeq (tAsg (tCB (rList K) (tCons (tVar 3) tNil)) (gName 4)) (tSeq (tIfS (tOr (tNot (tB (tF (sp_law_alike K 40) (tCons (tF (sp_read K) (tCons (tVar 4) tNil)) (tCons (tVar 2) tNil))))) (tTest (tOp (rNe2 K) (tVar 4) (tVar 3)))) (tRet (tC (.bl false))) tNext) (t_k03_j3 K)))
noncomputable def t_k03 (K : PySem.W.Frag) : TS :=
  (tSeq (tAsg (tF (sp_law_names K) (tCons (tF (sp_law_cell_at K) (tCons (tVar 0) (tCons (tC (.int 0)) tNil))) (tCons (tF (sp_law_cell_at K) (tCons (tVar 0) (tCons (tC (.int 1)) tNil))) tNil))) (gName 1)) (tSeq (tAsg (tCB (rTupO K) (tCons (tF (sp_law_block_by K) (tCons (tSl (rSl K) (tVar 0) (tPart (tC (.int 2))) (tPart (tC (.int 42)))) (tCons (tVar 1) (tCons (tC (.int 1)) tNil)))) tNil)) (gName 2)) (tSeq (tAsg (tF (sp_written K 9) (tCons (tVar 2) tNil)) (gName 3)) (tSeq (tIfS (tOr (tNot (tB (tCB (rIsi2 K) (tCons (tVar 3) (tCons (tC (.ty "list")) tNil))))) (tTest (tOp (rNe2 K) (tVar 3) (tF (sp_law_lines K 9) (tCons (tVar 2) tNil))))) (tRet (tC (.bl false))) tNext) (t_k03_j4 K)))))
theorem w_addTup' {K : PySem.W.Frag} {H : Hp} {Q : VK} {a b : Addr} {xs ys : List V} (ha : SqT K H a xs) (hb : SqT K H b ys) (hy : ys ≠ []) (z : xs.length + ys.length ≤ sizeLine) (q : ∀ p H', Same H H' → SqT K H' p (xs ++ ys) → Q (.ref p) H') : rAdd K (.ref a) (.ref b) H Q :=
  .inr (.inr (.inr ⟨a, b, xs, ys, rfl, rfl, ha, hb, z, fun e => q b H (Same.refl _) (by rw [e]; exact hb), fun _ e => absurd e hy, fun _ _ p hp => q p _ (same_new hp) (SqT.of upd_same)⟩))
theorem cut_m1 {xs : List V} {x : V} : cutV (xs ++ [x]) none (some (-1)) = xs := by
  have l : (xs ++ [x]).length = xs.length + 1 := by simp
  have e : HT.sIx (xs ++ [x]).length (xs ++ [x]).length (some (-1)) = xs.length := by
    rw [l]
    show (if (-1 : Int) < 0 then ((-1 : Int) + ((xs.length + 1 : Nat) : Int)).toNat else min (-1 : Int).toNat (xs.length + 1)) = xs.length
    rw [if_pos (by decide)]
    omega
  have e0 : HT.sIx (xs ++ [x]).length 0 none = 0 := rfl
  unfold cutV
  rw [e, e0, List.drop_zero, Nat.sub_zero, List.take_left]
theorem tell_line (x : Str) : ("tell " : Str) ++ x = ln (cs "tell" :: (Fm.nam x).wds) := by
  have := line_word "tell" (.nam x)
  rw [nam_text] at this
  rw [← this, show ("tell " : Str) = ("tell" : Str) ++ (" " : Str) from by decide +kernel]
theorem ln_ok {ws : List (List Nat)} (h : ∀ w ∈ ws, PyData.strOk (SX.S w) = true) : PyData.strOk (ln ws) = true := by
  have k : ∀ w, PyData.strOk (SX.S w) = true → ∀ c ∈ w, c < 1114112 := fun w h c hc => by
    unfold PyData.strOk at h
    rw [← Array.all_toList, List.all_eq_true] at h
    exact of_decide_eq_true (h c (by simpa using hc))
  refine ok_of ?_
  induction ws with
  | nil => exact fun c hc => nomatch hc
  | cons p ws ih =>
    intro c hc
    cases ws with
    | nil => exact k p (h p (List.mem_cons_self ..)) c hc
    | cons q r =>
      rw [joinL_cons (List.cons_ne_nil _ _)] at hc
      rcases List.mem_append.mp hc with hc | hc
      · exact k p (h p (List.mem_cons_self ..)) c hc
      rcases List.mem_append.mp hc with hc | hc
      · rw [List.mem_singleton.mp hc]; decide
      · exact ih (fun w hw => h w (List.mem_cons_of_mem _ hw)) c hc
mutual
theorem lns_ok {ns : List Str} (hN : ∀ x ∈ ns, Nm x) : ∀ r : Rw, r.ok ns → ∀ x ∈ r.lns, PyData.strOk x = true
  | .set y f, h, x, hx => by rw [List.mem_singleton.mp hx]; exact ln_ok (w1_ok hN (r := .set y f) h)
  | .tell f, h, x, hx => by rw [List.mem_singleton.mp hx]; exact ln_ok (w1_ok hN (r := .tell f) h)
  | .skip, h, x, hx => by rw [List.mem_singleton.mp hx]; decide +kernel
  | .ite f a b, h, x, hx => by
    rcases List.mem_cons.mp hx with rfl | hx
    · exact ln_ok (w1_ok hN (r := .ite f a b) h)
    rcases List.mem_append.mp hx with hx | hx
    · exact lnsB_ok hN a h.2.1 x hx
    rcases List.mem_cons.mp hx with rfl | hx
    · decide +kernel
    rcases List.mem_append.mp hx with hx | hx
    · exact lnsB_ok hN b h.2.2 x hx
    · rw [List.mem_singleton.mp hx]; decide +kernel
  | .whl f a, h, x, hx => by
    rcases List.mem_cons.mp hx with rfl | hx
    · exact ln_ok (w1_ok hN (r := .whl f a) h)
    rcases List.mem_append.mp hx with hx | hx
    · exact lnsB_ok hN a h.2 x hx
    · rw [List.mem_singleton.mp hx]; decide +kernel
theorem lnsB_ok {ns : List Str} (hN : ∀ x ∈ ns, Nm x) : ∀ l : List Rw, oks ns l → ∀ x ∈ lnsB l, PyData.strOk x = true
  | [], _, x, hx => nomatch hx
  | r :: l, h, x, hx => (List.mem_append.mp hx).elim (lns_ok hN r h.1 x) (lnsB_ok hN l h.2 x)
end
theorem pure_k03 (K : PySem.W.Frag) (vs : List V) (H : Hp) (Q : VK) (E : XK) (h : sp_k03 K vs H Q E) :
    t_k03 K { nx := fun _ H' => Q .non H', rt := Q } (start N_k03 vs) H := by
  obtain ⟨a, cs0, rfl, hS, hcl, q⟩ := h
  unfold t_k03
  walk_at "gx"
  refine ⟨a, cs0, _, rfl, hS, by decide, fun i0 => ?_⟩
  walk_at "gx"
  refine ⟨a, cs0, _, rfl, hS, by decide, fun i1 => ?_⟩
  walk_at "gx"
  refine ⟨_, _, rfl, fun pn H1 ns hT e1 hpn hpn1 => ?_⟩
  walk_at "gx"
  refine w_slC' (same_l e1 hS) _ _ (fun pc H2 ds npc e2 hpc hds => ?_)
  have hpn2 := e2 _ _ hpn1
  walk_at "gx"
  refine ⟨pc, pn, ds, ns, 1, rfl, SqL.of hpc, Nat.le_trans hds.length_le hcl, SqL.of hpn2, hT, fun pb H3 xs b e3 npb hpb hG hz => ?_⟩
  have hN := hT.nm
  have ho := hG.ok
  have hn := hG.nest
  have nsl : ns.length = 10 := hT.len
  have bl := szs_len b
  have ll := lnsB_len b
  have lok := lnsB_ok hN b ho
  walk_at "gx"
  refine w_tupL' (SqL.of hpb) (fun pt H4 npt e4 hpt => ?_)
  have hb4 := hG.at_.monoS e4
  have hpn4 := e4 _ _ (e3 _ _ hpn2)
  have xl := hb4.len
  obtain ⟨n0, nr, hns⟩ : ∃ n0 nr, ns = n0 :: nr := by
    match ns, nsl with
    | n0 :: nr, _ => exact ⟨n0, nr, rfl⟩
  have m0 : n0 ∈ ns := by rw [hns]; exact List.mem_cons_self
  have a0 : atI (ns.map V.str) 0 = some (.str n0) := by rw [hns]; exact at0
  clear e1 e2 e3 e4 hpb hpc hpn1 hpn2 hG
  walk_at "gx"
  refine ⟨pt, xs, b, ns, rfl, .inr (SqT.of hpt), hb4.toE, ho, hN, by omega, by omega, fun pw H5 e5 nw hpw => ?_⟩
  walk_at "gx"
  refine w_isi (tyx_list hpw) rfl ?_
  walk_at "gx"
  refine ⟨pt, xs, b, ns, rfl, .inr (SqT.of (e5 _ _ hpt)), (hb4.monoS e5).toE, ho, hN, by omega, by omega, fun pv H6 e6 nv hpv => ?_⟩
  refine w_neTxt (SqL.of (e6 _ _ hpw)) (SqL.of hpv) lok lok ?_
  rw [decide_eq_true rfl]
  walk_at "gx"
  try unfold t_k03_j4
  walk_at "gx"
  refine w_listL' (SqL.of (e6 _ _ hpw)) (fun ph H7 nh e7 hph => ?_)
  have e57 := e6.trans e7
  have e47 := e5.trans e57
  walk_at "gx"
  refine ⟨ph, b, ns, rfl, hph, ho, hN, hn, by omega, fun t8 xs8 H8 e8 ht8 hb8 => ?_⟩
  have e48 := e47.trans e8
  walk_at "gx"
  refine alike_blk ht8 hb8 (SqT.of (e48 _ _ hpt)) (hb4.monoS e48) ho hN hn (by omega) fun H9 e9 => ?_
  have e79 := e8.trans e9
  have e59 := e57.trans e79
  walk_at "gx"
  refine w_neTxt (SqL.of (e79 _ _ hph)) (SqL.of (e59 _ _ hpw)) lok lok ?_
  rw [decide_eq_true rfl]
  walk_at "gx"
  try unfold t_k03_j3
  walk_at "gx"
  have hph9 := e79 _ _ hph
  have hpw9 := e59 _ _ hpw
  have pwh : pw ≠ ph := ne_of_none (e6 _ _ hpw) nh
  have e49 := e5.trans e59
  have nh4 : H4 ph = none := none_of (e5.trans e6) nh
  refine w_app' hpw9 (lt_line (by rw [List.length_map]; omega)) (fun H10 x10 t10 hpw10 => ?_)
  have e410 : Same H4 H10 := SameX.same e49 nw x10
  have hph10 := x10 _ _ pwh.symm hph9
  clear e5 e6 e7 e8 e9 e57 e47 e48 e79 e59 e49 x10 t10 hpw hpv hph hph9 hpw9 ht8 hb8
  walk_at "gx"
  rename_i s1 F1 u1 f1 hs1
  refine w_ixL (SqL.of (f1 _ _ (e410 _ _ hpn4))) a0 ?_
  walk_at "gx"
  rename_i s2 F2 u2 f2 hs2 s3 F3 u3 f3 hs3 s4 F4 u4 f4 hs4
  have hr1 : RwAt K (SqT K) F4 (.ref s1) .skip := by walk_at "rw"
  have hr2 : RwAt K (SqT K) F4 (.ref s3) (.tell (.nam n0)) := by walk_at "rw"
  have hb2 : BkAt K (SqT K) F4 [.ref s1, .ref s3] [.skip, .tell (.nam n0)] := .cons hr1 (.cons hr2 .nil)
  have eF : Same H10 F4 := by walk_at "ss"
  have ook : oks ns [.skip, .tell (.nam n0)] := ⟨trivial, fine_nam m0, trivial⟩
  have ook2 := lnsB_ok hN _ ook
  have n2 : nests [.skip, .tell (.nam n0)] ≤ 8 := by show max 1 (max 1 0) ≤ 8; decide
  have z2 : szs [.skip, .tell (.nam n0)] ≤ 1000 := by show 1 + (1 + 0) ≤ 1000; decide
  have line2 : lnsB [.skip, .tell (.nam n0)] = [("skip" : Str), ("tell " : Str) ++ n0] := by rw [tell_line] <;> rfl
  have nml : n0.length ≤ 8 := by
    have := (hN n0 m0).most
    rw [← cs_S n0, SX.S_len]
    exact this
  have tl5 : ("tell " : Str).length = 5 := by decide +kernel
  clear f1 f2 f3 f4 u1 u2 u3 u4 hs1 hs2 hs3 hr1 hr2
  have hpnF := eF _ _ (e410 _ _ hpn4)
  refine ⟨s4, _, [.skip, .tell (.nam n0)], ns, rfl, .inr (SqT.of hs4), hb2.toE, ook, hN, by omega, z2, fun po H11 e11 no hpo => ?_⟩
  walk_at "gx"
  refine w_ixL (SqL.of (e11 _ _ hpnF)) a0 ?_
  refine w_addT (Nat.le_of_lt (lt_line (by omega))) ?_
  walk_at "gx"
  rename_i o1 H12 k1 e12 ho1
  have ho1 : H12 o1 = some (.lst ((lnsB [.skip, .tell (.nam n0)]).map V.str)) := by rw [line2]; exact ho1
  refine w_neTxt (SqL.of (e12 _ _ hpo)) (SqL.of ho1) ook2 ook2 ?_
  rw [decide_eq_true rfl]
  walk_at "gx"
  refine w_ixL (SqL.of (e12 _ _ (e11 _ _ hpnF))) a0 ?_
  refine w_addT (Nat.le_of_lt (lt_line (by omega))) ?_
  walk_at "gx"
  rename_i o2 H13 k2 e13 ho2
  have ho2 : H13 o2 = some (.lst ((lnsB [.skip, .tell (.nam n0)]).map V.str)) := by rw [line2]; exact ho2
  refine ⟨o2, _, ns, rfl, ho2, ook, hN, n2, z2, fun t14 xs14 H14 e14 ht14 hb14 => ?_⟩
  have eF14 := e11.trans (e12.trans (e13.trans e14))
  walk_at "gx"
  refine alike_blk ht14 hb14 (SqT.of (eF14 _ _ hs4)) (hb2.monoS eF14) ook hN n2 z2 fun H15 e15 => ?_
  have e1015 := eF.trans (eF14.trans e15)
  walk_at "gx"
  try unfold t_k03_j2
  walk_at "gx"
  have e415 := e410.trans e1015
  refine w_app' (e1015 _ _ hph10) (lt_line (by rw [List.length_map]; omega)) (fun H16 x16 t16 hph16 => ?_)
  have e416 : Same H4 H16 := SameX.same e415 nh4 x16
  have hpw16 := x16 _ _ pwh (e1015 _ _ hpw10)
  have hpt16 := e416 _ _ hpt
  have hb16 := hb4.monoS e416
  clear e11 e12 e13 e14 e15 eF14 e1015 e415 e416 x16 t16 eF e410 hpo ho1 ho2 ht14 hb14 hb2 hs4 hpnF hpt hb4
  walk_at "gx"
  refine ⟨pt, xs, b, rfl, SqT.of hpt16, hb16, by omega, by omega, fun pi H17 ys17 e17 ni hpi hbi => ?_⟩
  have goL : ∀ {A B : Hp} {vs : List V} {c : List Rw}, Same A B → BkAt K (SqL K) A vs c → BkAt K (SqL K) B vs c := fun e h => h.go (SameT.of e) fun _ _ => same_l e
  have hbi17 := goL del_same hbi
  walk_at "gx"
  refine ⟨pi, ys17, b, ns, rfl, .inl (SqL.of hpi), hbi17.go (SameT.refl _) (fun _ _ h => .inl h), ho, hN, by omega, by omega, fun pk H18 e18 nk hpk => ?_⟩
  walk_at "gx"
  refine w_slL' (SqL.of (e18 _ _ (e17 _ _ hph16))) (fun pz H19 nz e19 hpz => ?_)
  rw [cut_m1] at hpz
  refine w_neTxt (SqL.of (e19 _ _ hpk)) (SqL.of hpz) lok lok ?_
  rw [decide_eq_true rfl]
  have e1719 := e18.trans e19
  have e1619 := e17.trans e1719
  walk_at "gx"
  refine ⟨pt, xs, b, rfl, SqT.of (e1619 _ _ hpt16), hb16.monoS e1619, by omega, by omega, fun pj H20 ys20 e20 nj hpj hbj => ?_⟩
  refine w_neSelf (.lst (SqL.of ((e1719.trans e20) _ _ hpi)) (BkAt.dp lstB (goL (e1719.trans e20) hbi17))) (.lst (SqL.of hpj) (BkAt.dp lstB (goL del_same hbj))) (Dk.list (pds_dk hN lstD ho)) (by omega) ?_
  have e1620 := e1619.trans e20
  walk_at "gx"
  try unfold t_k03_j1
  walk_at "gx"
  have oks2 : oks ns (b ++ [.skip]) := oks_app ho ⟨trivial, trivial⟩
  have nn2 : nests (b ++ [.skip]) ≤ 8 := by rw [nests_app, show nests [Rw.skip] = max 1 0 from rfl]; omega
  have zz2 : szs (b ++ [.skip]) ≤ 1000 := by rw [szs_app, show szs [Rw.skip] = 1 + 0 from rfl]; omega
  refine ⟨ph, b ++ [.skip], ns, rfl, by rw [e1620 _ _ hph16, lnsB_app, List.map_append] <;> rfl, oks2, hN, nn2, zz2, fun t21 xs21 H21 e21 ht21 hb21 => ?_⟩
  walk_at "gx"
  rename_i v1 H22 k3 e22 hv1 v2 H23 k4 e23 hv2
  have e2123 := e22.trans e23
  have e1623 := e1620.trans (e21.trans e2123)
  refine w_addTup' (SqT.of (e1623 _ _ hpt16)) (SqT.of hv2) (List.cons_ne_nil _ _) (by show xs.length + 1 ≤ _; exact Nat.le_of_lt (lt_line (by omega))) fun p24 H24 e24 h24 => ?_
  have e2124 := e2123.trans e24
  walk_at "gx"
  refine alike_blk (same_t e2124 ht21) (hb21.monoS e2124) h24 ((hb16.monoS (e1623.trans e24)).app (.one (.skip (SqT.of (e24 _ _ (e23 _ _ hv1)))))) oks2 hN nn2 zz2 fun H25 e25 => ?_
  walk_at "gx"
  refine w_ixL (SqL.of (e25 _ _ ((e1623.trans e24) _ _ hpw16))) (atI_last _ _) ?_
  walk_at "gx"
  exact q _
theorem law_in_k03 (K : PySem.W.Frag) (H : Hp) (a : Addr) (ns : List Int) (hl : ns.length ≤ 63) (hS : SqL K H a (ns.map V.int)) : sp_k03 K [.ref a] H (fun v _ => v = .bl true) fun _ _ _ => False := ⟨a, ns, rfl, hS, hl, fun _ => rfl⟩
def topS (i : Nat) : Stmt := PySem.Challenge.pw_hushkind_k03_blocks_written.main.body.getD i (.Pass ⟨0, 0, 0, 0⟩)
abbrev s_law_mixed : Stmt := topS 23
abbrev M_law_mixed : List Str := ["_law_number"]
theorem sc_law_mixed : FnScope M_law_mixed ["_law_number"] (defScope s_law_mixed) := ⟨rfl, rfl, rfl, by decide +kernel, rfl, by decide +kernel, by decide +kernel⟩
abbrev s_law_name_by : Stmt := topS 24
abbrev M_law_name_by : List Str := ["_law_cell", "_law_found", "_law_number", "_law_k"]
theorem sc_law_name_by : FnScope M_law_name_by ["_law_cell"] (defScope s_law_name_by) := ⟨rfl, rfl, rfl, by decide +kernel, rfl, by decide +kernel, by decide +kernel⟩
abbrev s_law_twin : Stmt := topS 25
abbrev M_law_twin : List Str := ["_law_name", "_law_cell", "_law_some", "_law_at", "_law_step", "_law_found"]
theorem sc_law_twin : FnScope M_law_twin ["_law_name", "_law_cell"] (defScope s_law_twin) := ⟨rfl, rfl, rfl, by decide +kernel, rfl, by decide +kernel, by decide +kernel⟩
abbrev s_law_names : Stmt := topS 26
abbrev M_law_names : List Str := ["_law_one", "_law_other", "_law_names_here", "_law_k", "_law_name"]
theorem sc_law_names : FnScope M_law_names ["_law_one", "_law_other"] (defScope s_law_names) := ⟨rfl, rfl, rfl, by decide +kernel, rfl, by decide +kernel, by decide +kernel⟩
abbrev s_law_cell_at : Stmt := topS 22
abbrev M_law_cell_at : List Str := ["_law_script", "_law_k"]
theorem sc_law_cell_at : FnScope M_law_cell_at ["_law_script", "_law_k"] (defScope s_law_cell_at) := ⟨rfl, rfl, rfl, by decide +kernel, rfl, by decide +kernel, by decide +kernel⟩
abbrev s_law_end_by : Stmt := topS 27
abbrev M_law_end_by : List Str := ["_law_number", "_law_names_here"]
theorem sc_law_end_by : FnScope M_law_end_by ["_law_number", "_law_names_here"] (defScope s_law_end_by) := ⟨rfl, rfl, rfl, by decide +kernel, rfl, by decide +kernel, by decide +kernel⟩
abbrev s_law_formula_by : Stmt := topS 28
abbrev M_law_formula_by : List Str := ["_law_number", "_law_names_here", "_law_low", "_law_divide", "_law_left", "_law_sign", "_law_one"]
theorem sc_law_formula_by : FnScope M_law_formula_by ["_law_number", "_law_names_here", "_law_low", "_law_divide", "_law_left"] (defScope s_law_formula_by) := ⟨rfl, rfl, rfl, by decide +kernel, rfl, by decide +kernel, by decide +kernel⟩
abbrev s_law_all_names : Stmt := topS 29
abbrev M_law_all_names : List Str := ["_law_formula"]
theorem sc_law_all_names : FnScope M_law_all_names ["_law_formula"] (defScope s_law_all_names) := ⟨rfl, rfl, rfl, by decide +kernel, rfl, by decide +kernel, by decide +kernel⟩
abbrev s_law_row_by : Stmt := topS 30
abbrev M_law_row_by : List Str := ["_law_names_here", "_law_more", "_law_dark", "_law_mode", "_law_low", "_law_some", "_law_formula", "_law_name"]
theorem sc_law_row_by : FnScope M_law_row_by ["_law_names_here", "_law_more", "_law_dark", "_law_mode"] (defScope s_law_row_by) := ⟨rfl, rfl, rfl, by decide +kernel, rfl, by decide +kernel, by decide +kernel⟩
abbrev s_law_closed : Stmt := topS 31
abbrev M_law_closed : List Str := ["_law_stack", "_law_frame"]
theorem sc_law_closed : FnScope M_law_closed ["_law_stack"] (defScope s_law_closed) := ⟨rfl, rfl, rfl, by decide +kernel, rfl, by decide +kernel, by decide +kernel⟩
abbrev s_law_put : Stmt := topS 32
abbrev M_law_put : List Str := ["_law_stack", "_law_names_here", "_law_more", "_law_mode", "_law_way", "_law_dark", "_law_frame", "_law_formula", "_law_secret", "_law_shut", "_law_some"]
theorem sc_law_put : FnScope M_law_put ["_law_stack", "_law_names_here", "_law_more", "_law_mode"] (defScope s_law_put) := ⟨rfl, rfl, rfl, by decide +kernel, rfl, by decide +kernel, by decide +kernel⟩
abbrev s_law_block_by : Stmt := topS 33
abbrev M_law_block_by : List Str := ["_law_cells", "_law_names_here", "_law_loose", "_law_stack", "_law_turn", "_law_cell", "_law_more", "_law_mode"]
theorem sc_law_block_by : FnScope M_law_block_by ["_law_cells", "_law_names_here", "_law_loose"] (defScope s_law_block_by) := ⟨rfl, rfl, rfl, by decide +kernel, rfl, by decide +kernel, by decide +kernel⟩
abbrev s_formula_text : Stmt := topS 12
abbrev M_formula_text : List Str := ["formula"]
theorem sc_formula_text : FnScope M_formula_text ["formula"] (defScope s_formula_text) := ⟨rfl, rfl, rfl, by decide +kernel, rfl, by decide +kernel, by decide +kernel⟩
abbrev s_written : Stmt := topS 13
abbrev M_written : List Str := ["block", "lines", "row"]
theorem sc_written : FnScope M_written ["block"] (defScope s_written) := ⟨rfl, rfl, rfl, by decide +kernel, rfl, by decide +kernel, by decide +kernel⟩
abbrev s_law_text : Stmt := topS 34
abbrev M_law_text : List Str := ["_law_formula"]
theorem sc_law_text : FnScope M_law_text ["_law_formula"] (defScope s_law_text) := ⟨rfl, rfl, rfl, by decide +kernel, rfl, by decide +kernel, by decide +kernel⟩
abbrev s_law_lines : Stmt := topS 35
abbrev M_law_lines : List Str := ["_law_block", "_law_lines_here", "_law_row"]
theorem sc_law_lines : FnScope M_law_lines ["_law_block"] (defScope s_law_lines) := ⟨rfl, rfl, rfl, by decide +kernel, rfl, by decide +kernel, by decide +kernel⟩
abbrev s_law_alike : Stmt := topS 36
abbrev M_law_alike : List Str := ["_law_told", "_law_due", "_law_k"]
theorem sc_law_alike : FnScope M_law_alike ["_law_told", "_law_due"] (defScope s_law_alike) := ⟨rfl, rfl, rfl, by decide +kernel, rfl, by decide +kernel, by decide +kernel⟩
abbrev s_is_name : Stmt := topS 9
abbrev M_is_name : List Str := ["thing", "sign"]
theorem sc_is_name : FnScope M_is_name ["thing"] (defScope s_is_name) := ⟨rfl, rfl, rfl, by decide +kernel, rfl, by decide +kernel, by decide +kernel⟩
abbrev s_number_of : Stmt := topS 14
abbrev M_number_of : List Str := ["word", "sign"]
theorem sc_number_of : FnScope M_number_of ["word"] (defScope s_number_of) := ⟨rfl, rfl, rfl, by decide +kernel, rfl, by decide +kernel, by decide +kernel⟩
abbrev s_read_formula : Stmt := topS 15
abbrev M_read_formula : List Str := ["words", "at", "left", "word", "one", "other"]
theorem sc_read_formula : FnScope M_read_formula ["words", "at", "left"] (defScope s_read_formula) := ⟨rfl, rfl, rfl, by decide +kernel, rfl, by decide +kernel, by decide +kernel⟩
abbrev s_whole_formula : Stmt := topS 16
abbrev M_whole_formula : List Str := ["words", "formula", "at"]
theorem sc_whole_formula : FnScope M_whole_formula ["words"] (defScope s_whole_formula) := ⟨rfl, rfl, rfl, by decide +kernel, rfl, by decide +kernel, by decide +kernel⟩
abbrev s_need_line : Stmt := topS 17
abbrev M_need_line : List Str := ["lines", "at", "line"]
theorem sc_need_line : FnScope M_need_line ["lines", "at", "line"] (defScope s_need_line) := ⟨rfl, rfl, rfl, by decide +kernel, rfl, by decide +kernel, by decide +kernel⟩
abbrev s_read_row : Stmt := topS 18
abbrev M_read_row : List Str := ["lines", "at", "deep", "words", "formula", "first", "second"]
theorem sc_read_row : FnScope M_read_row ["lines", "at", "deep"] (defScope s_read_row) := ⟨rfl, rfl, rfl, by decide +kernel, rfl, by decide +kernel, by decide +kernel⟩
abbrev s_read_block : Stmt := topS 19
abbrev M_read_block : List Str := ["lines", "at", "deep", "rows", "row"]
theorem sc_read_block : FnScope M_read_block ["lines", "at", "deep"] (defScope s_read_block) := ⟨rfl, rfl, rfl, by decide +kernel, rfl, by decide +kernel, by decide +kernel⟩
abbrev s_read : Stmt := topS 20
abbrev M_read : List Str := ["lines", "rows", "at"]
theorem sc_read : FnScope M_read ["lines"] (defScope s_read) := ⟨rfl, rfl, rfl, by decide +kernel, rfl, by decide +kernel, by decide +kernel⟩
abbrev s_law_lists : Stmt := topS 37
abbrev M_law_lists : List Str := ["_law_block", "_law_rows", "_law_row"]
theorem sc_law_lists : FnScope M_law_lists ["_law_block"] (defScope s_law_lists) := ⟨rfl, rfl, rfl, by decide +kernel, rfl, by decide +kernel, by decide +kernel⟩
abbrev s_k03 : Stmt := topS 38
abbrev M_k03 : List Str := ["_law_script", "_law_names_here", "_law_block", "_law_told", "_law_handed", "_law_other", "_law_inner"]
theorem sc_k03 : FnScope M_k03 ["_law_script"] (defScope s_k03) := ⟨rfl, rfl, rfl, by decide +kernel, rfl, by decide +kernel, by decide +kernel⟩
structure Top (K : PySem.W.Frag) (mg : Str → Option Value) : Prop where
  f_law_mixed : DefAt K mg "_law_mixed" s_law_mixed ["_law_number"]
  f_law_name_by : DefAt K mg "_law_name_by" s_law_name_by ["_law_cell"]
  f_law_twin : DefAt K mg "_law_twin" s_law_twin ["_law_name", "_law_cell"]
  f_law_names : DefAt K mg "_law_names" s_law_names ["_law_one", "_law_other"]
  f_law_cell_at : DefAt K mg "_law_cell_at" s_law_cell_at ["_law_script", "_law_k"]
  f_law_end_by : DefAt K mg "_law_end_by" s_law_end_by ["_law_number", "_law_names_here"]
  f_law_formula_by : DefAt K mg "_law_formula_by" s_law_formula_by ["_law_number", "_law_names_here", "_law_low", "_law_divide", "_law_left"]
  f_law_all_names : DefAt K mg "_law_all_names" s_law_all_names ["_law_formula"]
  f_law_row_by : DefAt K mg "_law_row_by" s_law_row_by ["_law_names_here", "_law_more", "_law_dark", "_law_mode"]
  f_law_closed : DefAt K mg "_law_closed" s_law_closed ["_law_stack"]
  f_law_put : DefAt K mg "_law_put" s_law_put ["_law_stack", "_law_names_here", "_law_more", "_law_mode"]
  f_law_block_by : DefAt K mg "_law_block_by" s_law_block_by ["_law_cells", "_law_names_here", "_law_loose"]
  f_formula_text : DefAt K mg "formula_text" s_formula_text ["formula"]
  f_written : DefAt K mg "written" s_written ["block"]
  f_law_text : DefAt K mg "_law_text" s_law_text ["_law_formula"]
  f_law_lines : DefAt K mg "_law_lines" s_law_lines ["_law_block"]
  f_law_alike : DefAt K mg "_law_alike" s_law_alike ["_law_told", "_law_due"]
  f_is_name : DefAt K mg "is_name" s_is_name ["thing"]
  f_number_of : DefAt K mg "number_of" s_number_of ["word"]
  f_read_formula : DefAt K mg "read_formula" s_read_formula ["words", "at", "left"]
  f_whole_formula : DefAt K mg "whole_formula" s_whole_formula ["words"]
  f_need_line : DefAt K mg "need_line" s_need_line ["lines", "at", "line"]
  f_read_row : DefAt K mg "read_row" s_read_row ["lines", "at", "deep"]
  f_read_block : DefAt K mg "read_block" s_read_block ["lines", "at", "deep"]
  f_read : DefAt K mg "read" s_read ["lines"]
  f_law_lists : DefAt K mg "_law_lists" s_law_lists ["_law_block"]
  z_range : mg "range" = none
  z_len : mg "len" = none
  z_int : mg "int" = none
  z_tuple : mg "tuple" = none
  z_enumerate : mg "enumerate" = none
  z_str : mg "str" = none
  z_isinstance : mg "isinstance" = none
  z_bool : mg "bool" = none
  z_list : mg "list" = none
  g_WORDS : ∃ a, mg "WORDS" = some (.ref a) ∧ ∀ H, SqT K H a (words.map V.str)
  g_LETTERS : ∃ t, mg "LETTERS" = some (.str "abcdefghijklmnopqrstuvwxyz" t)
  g_FIGURES : ∃ t, mg "FIGURES" = some (.str "0123456789" t)
  g_SIGNS : ∃ a, mg "SIGNS" = some (.ref a) ∧ ∀ H, SqT K H a (sgs.map V.str)
  g_MOST_DEEP : ∃ t, mg "MOST_DEEP" = some (.int 12 t)
  g_DEEPEST_ROW : ∃ t, mg "DEEPEST_ROW" = some (.int 8 t)
section
variable {P : Program} {w : World} {K : PySem.W.Frag} {mg : Str → Option Value} {base : Heap}
theorem ok_law_mixed (T : Top K mg) : Cal P w K mg base 1 "_law_mixed" (sp_law_mixed K) := by
  exact cal_of (k := 0) T.f_law_mixed sc_law_mixed (by intro vs H Q E h; repeat (first | (obtain ⟨rfl, _⟩ := h; rfl) | (obtain ⟨_, h⟩ := h))) fun f cdv A outer s H vs Q E hr h => ⟨t_law_mixed K, PSs.nox (pss_one (ps_ret (pe_op o_mod (pe_op o_add (pe_op o_mul (pv 0) pe_int) pe_int) pe_int))), pure_law_mixed K vs H Q E h⟩
theorem ok_law_name_by (T : Top K mg) : Cal P w K mg base 2 "_law_name_by" (sp_law_name_by K) := by
  have c_law_mixed : Cal P w K mg base 1 "_law_mixed" (sp_law_mixed K) := ok_law_mixed T
  exact cal_of (k := 1) T.f_law_name_by sc_law_name_by (by intro vs H Q E h; repeat (first | (obtain ⟨rfl, _⟩ := h; rfl) | (obtain ⟨_, h⟩ := h))) fun f cdv A outer s H vs Q E hr h => ⟨t_law_name_by K, PSs.nox (pss_cons (ps_set (i := 1) sc_law_name_by.nd rfl (by first | exact Or.inl rfl | exact Or.inr rfl) (pe_ix ix_seq pe_str (pe_op o_mod (pe_op o_div (pv 0) pe_int) pe_int) (fun _ _ => rfl))) (pss_cons (ps_set (i := 2) sc_law_name_by.nd rfl (by first | exact Or.inl rfl | exact Or.inr rfl) (pv 0)) (pss_cons (ps_for PassesOwn.never rfl (pi_range1 (by rfl) T.z_range (pa_cons (pe_op o_mod (pv 0) pe_int) pa_nil)) (pg_name (i := 3) sc_law_name_by.nd rfl (by first | exact Or.inl rfl | exact Or.inr rfl)) (pss_cons (ps_set (i := 2) sc_law_name_by.nd rfl (by first | exact Or.inl rfl | exact Or.inr rfl) (pe_f c_law_mixed hr (by decide) (pa_cons (pv 2) pa_nil))) (pss_one (ps_set (i := 1) sc_law_name_by.nd rfl (by first | exact Or.inl rfl | exact Or.inr rfl) (pe_op o_add (pv 1) (pe_ix ix_seq pe_str (pe_op o_mod (pv 2) pe_int) (fun _ _ => rfl))))))) (pss_cons (ps_if (pt_cmpR o_in (pv 1) (pe_lst (pa_cons pe_str (pa_cons pe_str (pa_cons pe_str (pa_cons pe_str (pa_cons pe_str (pa_cons pe_str (pa_cons pe_str pa_nil)))))))) (by first | exact nomark _ | rfl)) (pss_one (ps_ret (pe_op o_add (pv 1) pe_str))) pss_nil) (pss_one (ps_ret (pv 1))))))), pure_law_name_by K vs H Q E h⟩
theorem ok_law_twin (T : Top K mg) : Cal P w K mg base 1 "_law_twin" (sp_law_twin K) := by
  exact cal_of (k := 0) T.f_law_twin sc_law_twin (by intro vs H Q E h; repeat (first | (obtain ⟨rfl, _⟩ := h; rfl) | (obtain ⟨_, h⟩ := h))) fun f cdv A outer s H vs Q E hr h => ⟨t_law_twin K, PSs.nox (pss_cons (ps_set (i := 2) sc_law_twin.nd rfl (by first | exact Or.inl rfl | exact Or.inr rfl) pe_str) (pss_cons (ps_set (i := 3) sc_law_twin.nd rfl (by first | exact Or.inl rfl | exact Or.inr rfl) (pe_op o_mod (pv 1) (pe_callB o_len (by rfl) T.z_len (by decide +kernel) (pa_cons (pv 0) pa_nil)))) (pss_cons (ps_if (pt_cmpR o_gt (pv 3) pe_int (by first | exact nomark _ | rfl)) (pss_one (ps_set (i := 2) sc_law_twin.nd rfl (by first | exact Or.inl rfl | exact Or.inr rfl) (pe_op o_add (pv 2) pe_str))) pss_nil) (pss_cons (ps_set (i := 4) sc_law_twin.nd rfl (by first | exact Or.inl rfl | exact Or.inr rfl) (pe_op o_add (pe_op o_add (pe_bm PySem.F.plainAttrs_str PySem.F.slot_str_find PySem.F.type_str_find mt_find (pv 2) (pa_cons (pe_ix ix_seq (pv 0) (pv 3) (fun _ _ => rfl)) pa_nil)) pe_int) (pe_op o_mod (pe_op o_div (pv 1) pe_int) (pe_op o_sub (pe_callB o_len (by rfl) T.z_len (by decide +kernel) (pa_cons (pv 2) pa_nil)) pe_int)))) (pss_cons (ps_set (i := 5) sc_law_twin.nd rfl (by first | exact Or.inl rfl | exact Or.inr rfl) (pe_op o_add (pe_op o_add (pe_slice o_sl (pv 0) po_none (po_some (pv 3))) (pe_ix ix_seq (pv 2) (pe_op o_mod (pv 4) (pe_callB o_len (by rfl) T.z_len (by decide +kernel) (pa_cons (pv 2) pa_nil))) (fun _ _ => rfl))) (pe_slice o_sl (pv 0) (po_some (pe_op o_add (pv 3) pe_int)) po_none))) (pss_cons (ps_if (pt_cmpR o_in (pv 5) (pe_lst (pa_cons pe_str (pa_cons pe_str (pa_cons pe_str (pa_cons pe_str (pa_cons pe_str (pa_cons pe_str (pa_cons pe_str pa_nil)))))))) (by first | exact nomark _ | rfl)) (pss_one (ps_ret (pe_op o_add (pv 5) pe_str))) pss_nil) (pss_one (ps_ret (pv 5))))))))), pure_law_twin K vs H Q E h⟩
theorem ok_law_names (T : Top K mg) : Cal P w K mg base 3 "_law_names" (sp_law_names K) := by
  have c_law_mixed : Cal P w K mg base 1 "_law_mixed" (sp_law_mixed K) := ok_law_mixed T
  have c_law_name_by : Cal P w K mg base 2 "_law_name_by" (sp_law_name_by K) := ok_law_name_by T
  have c_law_twin : Cal P w K mg base 1 "_law_twin" (sp_law_twin K) := ok_law_twin T
  exact cal_of (k := 2) T.f_law_names sc_law_names (by intro vs H Q E h; repeat (first | (obtain ⟨rfl, _⟩ := h; rfl) | (obtain ⟨_, h⟩ := h))) fun f cdv A outer s H vs Q E hr h => ⟨t_law_names K, PSs.nox (pss_cons (ps_set (i := 2) sc_law_names.nd rfl (by first | exact Or.inl rfl | exact Or.inr rfl) (pe_lst pa_nil)) (pss_cons (ps_for PassesOwn.never rfl (pi_range1 (by rfl) T.z_range (pa_cons pe_int pa_nil)) (pg_name (i := 3) sc_law_names.nd rfl (by first | exact Or.inl rfl | exact Or.inr rfl)) (pss_cons (ps_set (i := 0) sc_law_names.nd rfl (by first | exact Or.inl rfl | exact Or.inr rfl) (pe_f c_law_mixed hr (by decide) (pa_cons (pv 0) pa_nil))) (pss_cons (ps_set (i := 4) sc_law_names.nd rfl (by first | exact Or.inl rfl | exact Or.inr rfl) (pe_f c_law_name_by hr (by decide) (pa_cons (pe_op o_div (pv 0) pe_int) pa_nil))) (pss_cons (ps_if (PW.pt (pw_and (pt_cmpR (o_eq hr.units) (pe_op o_mod (pv 3) pe_int) pe_int (by first | exact nomark _ | rfl)) (pw_and1 (pt_cmpR (o_eq hr.units) (pe_op o_mod (pe_op o_div (pv 1) pe_int) pe_int) pe_int (by first | exact nomark _ | rfl))))) (pss_one (ps_set (i := 4) sc_law_names.nd rfl (by first | exact Or.inl rfl | exact Or.inr rfl) (pe_f c_law_twin hr (by decide) (pa_cons (pe_ix ix_seq (pv 2) (pe_op o_sub (pv 3) pe_int) (fun _ _ => rfl)) (pa_cons (pe_f c_law_mixed hr (by decide) (pa_cons (pe_op o_add (pv 1) (pv 3)) pa_nil)) pa_nil))))) pss_nil) (pss_cons (ps_while PassesOwn.never (PW.pt (pw_or (pt_cmpR o_in (pv 4) (pv 2) (by first | exact nomark _ | rfl)) (pw_or1 (pt_cmpR o_in (pv 4) (pe_lst (pa_cons pe_str (pa_cons pe_str (pa_cons pe_str (pa_cons pe_str (pa_cons pe_str (pa_cons pe_str (pa_cons pe_str pa_nil)))))))) (by first | exact nomark _ | rfl))))) (pss_cons (ps_set (i := 4) sc_law_names.nd rfl (by first | exact Or.inl rfl | exact Or.inr rfl) (pe_op o_add (pe_slice o_sl (pv 4) po_none (po_some pe_int)) (pe_ix ix_seq pe_str (pe_op o_mod (pe_op o_add (pe_op o_add (pv 1) (pe_callB o_len (by rfl) T.z_len (by decide +kernel) (pa_cons (pv 4) pa_nil))) (pv 3)) pe_int) (fun _ _ => rfl)))) (pss_one (ps_set (i := 1) sc_law_names.nd rfl (by first | exact Or.inl rfl | exact Or.inr rfl) (pe_op o_add (pv 1) pe_int))))) (pss_one (ps_expr (pe_bm PySem.F.plainAttrs_list PySem.F.slot_list_append PySem.F.type_list_append mt_append (pv 2) (pa_cons (pv 4) pa_nil))))))))) (pss_one (ps_ret (pv 2))))), pure_law_names K vs H Q E h⟩
theorem ok_law_cell_at (T : Top K mg) : Cal P w K mg base 1 "_law_cell_at" (sp_law_cell_at K) := by
  exact cal_of (k := 0) T.f_law_cell_at sc_law_cell_at (by intro vs H Q E h; repeat (first | (obtain ⟨rfl, _⟩ := h; rfl) | (obtain ⟨_, h⟩ := h))) fun f cdv A outer s H vs Q E hr h => ⟨t_law_cell_at K, PSs.nox (pss_cons (ps_if (pt_cmpR o_lt (pv 1) (pe_callB o_len (by rfl) T.z_len (by decide +kernel) (pa_cons (pv 0) pa_nil)) (by first | exact nomark _ | rfl)) (pss_one (ps_ret (pe_ix ix_seq (pv 0) (pv 1) (fun _ _ => rfl)))) pss_nil) (pss_one (ps_ret pe_int))), pure_law_cell_at K vs H Q E h⟩
theorem ok_law_end_by (T : Top K mg) : Cal P w K mg base 1 "_law_end_by" (sp_law_end_by K) := by
  exact cal_of (k := 0) T.f_law_end_by sc_law_end_by (by intro vs H Q E h; repeat (first | (obtain ⟨rfl, _⟩ := h; rfl) | (obtain ⟨_, h⟩ := h))) fun f cdv A outer s H vs Q E hr h => ⟨t_law_end_by K, PSs.nox (pss_cons (ps_if (PW.pt (pw_and (pt_cmpR (o_ne hr.units) (pv 1) (pe_lst pa_nil) (by first | exact nomark _ | rfl)) (pw_and1 (pt_cmpR o_gt (pe_op o_mod (pv 0) pe_int) pe_int (by first | exact nomark _ | rfl))))) (pss_one (ps_ret (pe_tup (pa_cons pe_str (pa_cons (pe_ix ix_seq (pv 1) (pe_op o_mod (pe_op o_div (pv 0) pe_int) (pe_callB o_len (by rfl) T.z_len (by decide +kernel) (pa_cons (pv 1) pa_nil))) (fun _ _ => rfl)) pa_nil))))) pss_nil) (pss_cons (ps_if (pt_cmpR (o_eq hr.units) (pe_op o_mod (pe_op o_div (pv 0) pe_int) pe_int) pe_int (by first | exact nomark _ | rfl)) (pss_one (ps_ret (pe_tup (pa_cons pe_str (pa_cons (pe_op o_mod (pe_op o_div (pv 0) pe_int) (pe_op o_pow pe_int pe_int)) pa_nil))))) pss_nil) (pss_one (ps_ret (pe_tup (pa_cons pe_str (pa_cons (pe_op o_mod (pe_op o_div (pv 0) pe_int) pe_int) pa_nil))))))), pure_law_end_by K vs H Q E h⟩
theorem ok_law_formula_by (T : Top K mg) : ∀ n : Nat, Cal P w K mg base (1 + n) "_law_formula_by" (sp_law_formula_by K n)
  | 0 => cal_none T.f_law_formula_by no_law_formula_by
  | n + 1 => by
    have c_law_formula_by : Cal P w K mg base (1 + n) "_law_formula_by" (sp_law_formula_by K n) := ok_law_formula_by T n
    have c_law_mixed : Cal P w K mg base 1 "_law_mixed" (sp_law_mixed K) := ok_law_mixed T
    have c_law_end_by : Cal P w K mg base 1 "_law_end_by" (sp_law_end_by K) := ok_law_end_by T
    exact cal_of (k := 1 + n) T.f_law_formula_by sc_law_formula_by (by intro vs H Q E h; repeat (first | (obtain ⟨rfl, _⟩ := h; rfl) | (obtain ⟨_, h⟩ := h))) fun f cdv A outer s H vs Q E hr h => ⟨t_law_formula_by K n, PSs.nox (pss_cons (ps_set (i := 0) sc_law_formula_by.nd rfl (by first | exact Or.inl rfl | exact Or.inr rfl) (pe_f c_law_mixed hr (by omega) (pa_cons (pv 0) pa_nil))) (pss_cons (ps_if (PW.pt (pw_or (pt_cmpR (o_eq hr.units) (pv 4) pe_int (by first | exact nomark _ | rfl)) (pw_or1 (pt_cmpR o_lt (pe_op o_mod (pv 0) pe_int) pe_int (by first | exact nomark _ | rfl))))) (pss_one (ps_ret (pe_f c_law_end_by hr (by omega) (pa_cons (pe_op o_div (pv 0) pe_int) (pa_cons (pv 1) pa_nil))))) pss_nil) (pss_cons (ps_set (i := 5) sc_law_formula_by.nd rfl (by first | exact Or.inl rfl | exact Or.inr rfl) (pe_ix ix_seq (pe_lst (pa_cons pe_str (pa_cons pe_str (pa_cons pe_str (pa_cons pe_str (pa_cons pe_str (pa_cons pe_str (pa_cons pe_str (pa_cons pe_str (pa_cons pe_str (pa_cons pe_str pa_nil))))))))))) (pe_op o_mod (pe_op o_div (pv 0) pe_int) (pe_ix ix_seq (pe_lst (pa_cons pe_int (pa_cons pe_int pa_nil))) (pe_callTy o_int (by rfl) T.z_int (by decide +kernel) (pa_cons (pv 3) pa_nil)) (fun _ _ => rfl))) (fun _ _ => rfl))) (pss_cons (ps_set (i := 6) sc_law_formula_by.nd rfl (by first | exact Or.inl rfl | exact Or.inr rfl) (pe_f c_law_formula_by hr (by omega) (pa_cons (pe_op o_add (pe_op o_mul (pv 0) pe_int) pe_int) (pa_cons (pv 1) (pa_cons (pv 2) (pa_cons (pv 3) (pa_cons (pe_op o_sub (pv 4) pe_int) pa_nil))))))) (pss_cons (ps_if (PW.pt (pw_and (pt_cmpR (o_eq hr.units) (pv 5) pe_str (by first | exact nomark _ | rfl)) (pw_and1 (pt_cmpR o_lt (pe_op o_mod (pe_op o_div (pv 0) pe_int) pe_int) pe_int (by first | exact nomark _ | rfl))))) (pss_one (ps_ret (pe_tup (pa_cons (pv 5) (pa_cons (pv 6) (pa_cons (pe_tup (pa_cons pe_str (pa_cons (pe_op o_add pe_int (pe_op o_mod (pe_op o_div (pv 0) pe_int) pe_int)) pa_nil))) pa_nil)))))) pss_nil) (pss_cons (ps_if (pt_cmpR (o_eq hr.units) (pv 5) pe_str (by first | exact nomark _ | rfl)) (pss_one (ps_ret (pe_tup (pa_cons (pv 5) (pa_cons (pv 6) (pa_cons (pe_f c_law_formula_by hr (by omega) (pa_cons (pe_op o_add (pe_op o_mul (pv 0) pe_int) pe_int) (pa_cons (pv 2) (pa_cons (pv 2) (pa_cons (pv 3) (pa_cons (pe_op o_sub (pv 4) pe_int) pa_nil)))))) pa_nil)))))) pss_nil) (pss_one (ps_ret (pe_tup (pa_cons (pv 5) (pa_cons (pv 6) (pa_cons (pe_f c_law_formula_by hr (by omega) (pa_cons (pe_op o_add (pe_op o_mul (pv 0) pe_int) pe_int) (pa_cons (pv 1) (pa_cons (pv 2) (pa_cons (pv 3) (pa_cons (pe_op o_sub (pv 4) pe_int) pa_nil)))))) pa_nil)))))))))))), pure_law_formula_by K n vs H Q E h⟩
theorem ok_law_all_names (T : Top K mg) : ∀ n : Nat, Cal P w K mg base (0 + n) "_law_all_names" (sp_law_all_names K n)
  | 0 => cal_none T.f_law_all_names no_law_all_names
  | n + 1 => by
    have c_law_all_names : Cal P w K mg base (0 + n) "_law_all_names" (sp_law_all_names K n) := ok_law_all_names T n
    exact cal_of (k := 0 + n) T.f_law_all_names sc_law_all_names (by intro vs H Q E h; repeat (first | (obtain ⟨rfl, _⟩ := h; rfl) | (obtain ⟨_, h⟩ := h))) fun f cdv A outer s H vs Q E hr h => ⟨t_law_all_names K n, PSs.nox (pss_cons (ps_if (pt_cmpR (o_eq hr.units) (pe_ix ix_seq (pv 0) pe_int (fun _ _ => rfl)) pe_str (by first | exact nomark _ | rfl)) (pss_one (ps_ret (pe_lst pa_nil))) pss_nil) (pss_cons (ps_if (pt_cmpR (o_eq hr.units) (pe_ix ix_seq (pv 0) pe_int (fun _ _ => rfl)) pe_str (by first | exact nomark _ | rfl)) (pss_one (ps_ret (pe_lst (pa_cons (pe_ix ix_seq (pv 0) pe_int (fun _ _ => rfl)) pa_nil)))) pss_nil) (pss_one (ps_ret (pe_op o_add (pe_f c_law_all_names hr (by omega) (pa_cons (pe_ix ix_seq (pv 0) pe_int (fun _ _ => rfl)) pa_nil)) (pe_f c_law_all_names hr (by omega) (pa_cons (pe_ix ix_seq (pv 0) pe_int (fun _ _ => rfl)) pa_nil))))))), pure_law_all_names K n vs H Q E h⟩
theorem ok_law_row_by (T : Top K mg) : Cal P w K mg base 19 "_law_row_by" (sp_law_row_by K) := by
  have c_law_formula_by : Cal P w K mg base 7 "_law_formula_by" (sp_law_formula_by K 6) := ok_law_formula_by T 6
  have c_law_all_names : Cal P w K mg base 18 "_law_all_names" (sp_law_all_names K 18) := ok_law_all_names T 18
  exact cal_of (k := 18) T.f_law_row_by sc_law_row_by (by intro vs H Q E h; repeat (first | (obtain ⟨rfl, _⟩ := h; rfl) | (obtain ⟨_, h⟩ := h))) fun f cdv A outer s H vs Q E hr h => ⟨t_law_row_by K, PSs.nox (pss_cons (ps_set (i := 4) sc_law_row_by.nd rfl (by first | exact Or.inl rfl | exact Or.inr rfl) (pe_slice o_sl (pv 0) po_none (po_some pe_int))) (pss_cons (ps_set (i := 5) sc_law_row_by.nd rfl (by first | exact Or.inl rfl | exact Or.inr rfl) (pv 0)) (pss_cons (ps_if (PW.pt (pw_or (PW.pt (pw_and (pt_cmpR (o_eq hr.units) (pv 3) pe_int (by first | exact nomark _ | rfl)) (pw_and1 (pt_cmpR (o_eq hr.units) (pe_op o_mod (pe_op o_div (pv 1) pe_int) pe_int) pe_int (by first | exact nomark _ | rfl))))) (pw_or1 (PW.pt (pw_and (pt_cmpR (o_eq hr.units) (pv 3) pe_int (by first | exact nomark _ | rfl)) (pw_and (pt_val (pv 2)) (pw_and1 (pt_cmpR o_gt (pe_op o_mod (pe_op o_div (pv 1) pe_int) pe_int) pe_int (by first | exact nomark _ | rfl))))))))) (pss_one (ps_set (i := 5) sc_law_row_by.nd rfl (by first | exact Or.inl rfl | exact Or.inr rfl) (pv 4))) (pss_one (ps_if (pt_cmpR (o_eq hr.units) (pv 3) pe_int (by first | exact nomark _ | rfl)) (pss_one (ps_set (i := 5) sc_law_row_by.nd rfl (by first | exact Or.inl rfl | exact Or.inr rfl) (pe_slice o_sl (pv 0) (po_some pe_int) po_none))) pss_nil))) (pss_cons (ps_if (pt_cmpR o_gt (pv 3) pe_int (by first | exact nomark _ | rfl)) (pss_one (ps_set (i := 4) sc_law_row_by.nd rfl (by first | exact Or.inl rfl | exact Or.inr rfl) (pv 5))) pss_nil) (pss_cons (ps_set (i := 6) sc_law_row_by.nd rfl (by first | exact Or.inl rfl | exact Or.inr rfl) (pe_f c_law_formula_by hr (by decide) (pa_cons (pv 1) (pa_cons (pv 5) (pa_cons (pv 4) (pa_cons (pe_or (pe_cmpR o_gt (pv 3) pe_int (by first | exact nomark _ | rfl)) (pe_one (pe_not (pv 2)))) (pa_cons (pe_op o_add pe_int (pe_op o_mod (pe_op o_div (pv 1) pe_int) pe_int)) pa_nil))))))) (pss_one (ps_ret (pe_tup (pa_cons (pv 6) (pa_cons (pe_cmpR (o_ne hr.units) (pe_lc (own := [("_law_name", 7)]) (g := (gName 7)) (tt := (tTest (tOp (rIn2 K false) (tVar 7) (tSl (rSl K) (tVar 0) (tPart (tC (.int 5))) tNoPart)))) rfl sc_law_row_by.nd (pi_seq (pe_f c_law_all_names hr (by decide) (pa_cons (pv 6) pa_nil))) (blkOk_by (own := [("_law_name", 7)]) (N := M_law_row_by) (sc := defScope s_law_row_by) (by decide +kernel)) (fun _ _ _ _ _ => (pg_name (i := 7) sc_law_row_by.nd rfl (by first | exact Or.inl rfl | exact Or.inr rfl))) (fun _ _ _ _ _ => (pts_one (pt_cmpR o_in (pv 7) (pe_slice o_sl (pv 0) (po_some pe_int) po_none) (by first | exact nomark _ | rfl)))) (fun _ _ _ _ _ => (pv 7))) (pe_lst pa_nil) (by first | exact nomark _ | rfl)) pa_nil)))))))))), pure_law_row_by K vs H Q E h⟩
theorem ok_law_closed (T : Top K mg) : Cal P w K mg base 1 "_law_closed" (sp_law_closed K) := by
  exact cal_of (k := 0) T.f_law_closed sc_law_closed (by intro vs H Q E h; repeat (first | (obtain ⟨rfl, _⟩ := h; rfl) | (obtain ⟨_, h⟩ := h))) fun f cdv A outer s H vs Q E hr h => ⟨t_law_closed K, PSs.nox (pss_cons (ps_set (i := 1) sc_law_closed.nd rfl (by first | exact Or.inl rfl | exact Or.inr rfl) (pe_bm0 PySem.F.plainAttrs_list PySem.F.slot_list_pop PySem.F.type_list_pop mt_pop (pv 0))) (pss_one (ps_if (pt_cmpR (o_eq hr.units) (pe_ix ix_seq (pv 1) pe_int (fun _ _ => rfl)) pe_str (by first | exact nomark _ | rfl)) (pss_cons (ps_if (PW.pt (pw_and (pt_cmpR (o_eq hr.units) (pe_ix ix_seq (pe_ix ix_seq (pv 1) pe_int (fun _ _ => rfl)) pe_int (fun _ _ => rfl)) pe_str (by first | exact nomark _ | rfl)) (pw_and1 (pt_cmpR (o_eq hr.units) (pe_ix ix_seq (pe_ix ix_seq (pe_ix ix_seq (pv 1) pe_int (fun _ _ => rfl)) pe_int (fun _ _ => rfl)) pe_int (fun _ _ => rfl)) pe_str (by first | exact nomark _ | rfl))))) (pss_one (ps_expr (pe_bm PySem.F.plainAttrs_list PySem.F.slot_list_append PySem.F.type_list_append mt_append (pe_ix ix_seq (pv 1) pe_int (fun _ _ => rfl)) (pa_cons (pe_tup (pa_cons pe_str (pa_cons (pe_ix ix_seq (pe_ix ix_seq (pe_ix ix_seq (pv 1) pe_int (fun _ _ => rfl)) pe_int (fun _ _ => rfl)) pe_int (fun _ _ => rfl)) (pa_cons (pe_tup (pa_cons pe_str (pa_cons (pe_ix ix_seq (pe_ix ix_seq (pv 1) pe_int (fun _ _ => rfl)) pe_int (fun _ _ => rfl)) (pa_cons (pe_tup (pa_cons pe_str (pa_cons pe_int pa_nil))) pa_nil)))) pa_nil)))) pa_nil)))) pss_nil) (pss_one (ps_expr (pe_bm PySem.F.plainAttrs_list PySem.F.slot_list_append PySem.F.type_list_append mt_append (pe_ix ix_seq (pe_ix ix_seq (pv 0) (pe_un o_neg pe_int) (fun _ _ => rfl)) pe_int (fun _ _ => rfl)) (pa_cons (pe_tup (pa_cons pe_str (pa_cons (pe_ix ix_seq (pv 1) pe_int (fun _ _ => rfl)) (pa_cons (pe_callTy o_tuple (by rfl) T.z_tuple (by decide +kernel) (pa_cons (pe_ix ix_seq (pv 1) pe_int (fun _ _ => rfl)) pa_nil)) pa_nil)))) pa_nil))))) (pss_one (ps_if (pt_cmpR o_isN (pe_ix ix_seq (pv 1) pe_int (fun _ _ => rfl)) pe_non (by first | exact nomark _ | rfl)) (pss_one (ps_expr (pe_bm PySem.F.plainAttrs_list PySem.F.slot_list_append PySem.F.type_list_append mt_append (pv 0) (pa_cons (pe_lst (pa_cons (pe_ix ix_seq (pv 1) pe_int (fun _ _ => rfl)) (pa_cons (pe_ix ix_seq (pv 1) pe_int (fun _ _ => rfl)) (pa_cons (pe_lst pa_nil) (pa_cons (pe_ix ix_seq (pv 1) pe_int (fun _ _ => rfl)) (pa_cons (pe_callTy o_tuple (by rfl) T.z_tuple (by decide +kernel) (pa_cons (pe_ix ix_seq (pv 1) pe_int (fun _ _ => rfl)) pa_nil)) pa_nil)))))) pa_nil)))) (pss_one (ps_expr (pe_bm PySem.F.plainAttrs_list PySem.F.slot_list_append PySem.F.type_list_append mt_append (pe_ix ix_seq (pe_ix ix_seq (pv 0) (pe_un o_neg pe_int) (fun _ _ => rfl)) pe_int (fun _ _ => rfl)) (pa_cons (pe_tup (pa_cons pe_str (pa_cons (pe_ix ix_seq (pv 1) pe_int (fun _ _ => rfl)) (pa_cons (pe_ix ix_seq (pv 1) pe_int (fun _ _ => rfl)) (pa_cons (pe_callTy o_tuple (by rfl) T.z_tuple (by decide +kernel) (pa_cons (pe_ix ix_seq (pv 1) pe_int (fun _ _ => rfl)) pa_nil)) pa_nil))))) pa_nil))))))))), pure_law_closed K vs H Q E h⟩
theorem ok_law_put (T : Top K mg) : Cal P w K mg base 20 "_law_put" (sp_law_put K) := by
  have c_law_row_by : Cal P w K mg base 19 "_law_row_by" (sp_law_row_by K) := ok_law_row_by T
  have c_law_closed : Cal P w K mg base 1 "_law_closed" (sp_law_closed K) := ok_law_closed T
  exact cal_of (k := 19) T.f_law_put sc_law_put (by intro vs H Q E h; repeat (first | (obtain ⟨rfl, _⟩ := h; rfl) | (obtain ⟨_, h⟩ := h))) fun f cdv A outer s H vs Q E hr h => ⟨t_law_put K, PSs.nox (pss_cons (ps_set (i := 4) sc_law_put.nd rfl (by first | exact Or.inl rfl | exact Or.inr rfl) (pe_op o_mod (pv 2) pe_int)) (pss_cons (ps_set (i := 5) sc_law_put.nd rfl (by first | exact Or.inl rfl | exact Or.inr rfl) (pe_cmpR (o_ne hr.units) (pe_lc (own := [("_law_frame", 6)]) (g := (gName 6)) (tt := (tB (tOp (rIx K) (tVar 6) (tC (.int 3))))) rfl sc_law_put.nd (pi_seq (pv 0)) (blkOk_by (own := [("_law_frame", 6)]) (N := M_law_put) (sc := defScope s_law_put) (by decide +kernel)) (fun _ _ _ _ _ => (pg_name (i := 6) sc_law_put.nd rfl (by first | exact Or.inl rfl | exact Or.inr rfl))) (fun _ _ _ _ _ => (pts_one (pt_val (pe_ix ix_seq (pv 6) pe_int (fun _ _ => rfl))))) (fun _ _ _ _ _ => (pv 6))) (pe_lst pa_nil) (by first | exact nomark _ | rfl))) (pss_cons (ps_asg (pe_f c_law_row_by hr (by decide) (pa_cons (pv 1) (pa_cons (pv 2) (pa_cons (pv 5) (pa_cons (pv 3) pa_nil))))) (pg_tup rfl (pgs_cons (pg_name (i := 7) sc_law_put.nd rfl (by first | exact Or.inl rfl | exact Or.inr rfl)) (pgs_cons (pg_name (i := 8) sc_law_put.nd rfl (by first | exact Or.inl rfl | exact Or.inr rfl)) pgs_nil)))) (pss_cons (ps_set (i := 9) sc_law_put.nd rfl (by first | exact Or.inl rfl | exact Or.inr rfl) (pe_and (pe_cmpR (o_eq hr.units) (pv 3) pe_int (by first | exact nomark _ | rfl)) (pe_one (pe_or (pv 5) (pe_one (pv 8)))))) (pss_cons (ps_if (pt_cmpR (o_eq hr.units) (pv 3) pe_int (by first | exact nomark _ | rfl)) (pss_one (ps_set (i := 4) sc_law_put.nd rfl (by first | exact Or.inl rfl | exact Or.inr rfl) (pe_ix ix_seq (pe_lst (pa_cons pe_int (pa_cons pe_int (pa_cons pe_int (pa_cons pe_int pa_nil))))) (pe_op o_mod (pe_op o_div (pv 2) pe_int) pe_int) (fun _ _ => rfl)))) pss_nil) (pss_one (ps_if (pt_cmpR o_lt (pv 4) pe_int (by first | exact nomark _ | rfl)) (pss_cons (ps_set (i := 10) sc_law_put.nd rfl (by first | exact Or.inl rfl | exact Or.inr rfl) (pe_ix ix_seq (pe_lst (pa_cons (pv 1) (pa_cons (pv 1) (pa_cons (pe_ix ix_seq (pe_lst (pa_cons (pe_slice o_sl (pv 1) po_none (po_some pe_int)) (pa_cons (pe_slice o_sl (pv 1) (po_some pe_int) po_none) pa_nil))) (pe_callTy o_int (by rfl) T.z_int (by decide +kernel) (pa_cons (pe_cmpR (o_eq hr.units) (pe_op o_mod (pe_op o_div (pv 2) pe_int) pe_int) pe_int (by first | exact nomark _ | rfl)) pa_nil)) (fun _ _ => rfl)) pa_nil)))) (pv 3) (fun _ _ => rfl))) (pss_cons (ps_if (pt_val (pv 9)) (pss_one (ps_set (i := 10) sc_law_put.nd rfl (by first | exact Or.inl rfl | exact Or.inr rfl) (pe_slice o_sl (pv 1) (po_some pe_int) po_none))) pss_nil) (pss_one (ps_expr (pe_bm PySem.F.plainAttrs_list PySem.F.slot_list_append PySem.F.type_list_append mt_append (pe_ix ix_seq (pe_ix ix_seq (pv 0) (pe_un o_neg pe_int) (fun _ _ => rfl)) pe_int (fun _ _ => rfl)) (pa_cons (pe_tup (pa_cons pe_str (pa_cons (pe_ix ix_seq (pv 10) (pe_op o_mod (pe_op o_div (pv 2) pe_int) (pe_callB o_len (by rfl) T.z_len (by decide +kernel) (pa_cons (pv 10) pa_nil))) (fun _ _ => rfl)) (pa_cons (pv 7) pa_nil)))) pa_nil)))))) (pss_one (ps_if (PW.pt (pw_and (pt_cmpR (o_eq hr.units) (pv 4) pe_int (by first | exact nomark _ | rfl)) (pw_and1 (pt_not (pt_val (pv 9)))))) (pss_one (ps_expr (pe_bm PySem.F.plainAttrs_list PySem.F.slot_list_append PySem.F.type_list_append mt_append (pe_ix ix_seq (pe_ix ix_seq (pv 0) (pe_un o_neg pe_int) (fun _ _ => rfl)) pe_int (fun _ _ => rfl)) (pa_cons (pe_tup (pa_cons pe_str (pa_cons (pv 7) pa_nil))) pa_nil)))) (pss_one (ps_if (pt_cmpR (o_eq hr.units) (pv 4) pe_int (by first | exact nomark _ | rfl)) (pss_one (ps_expr (pe_bm PySem.F.plainAttrs_list PySem.F.slot_list_append PySem.F.type_list_append mt_append (pe_ix ix_seq (pe_ix ix_seq (pv 0) (pe_un o_neg pe_int) (fun _ _ => rfl)) pe_int (fun _ _ => rfl)) (pa_cons (pe_tup (pa_cons pe_str pa_nil)) pa_nil)))) (pss_one (ps_if (PW.pt (pw_and (pt_cmpR o_lt (pv 4) pe_int (by first | exact nomark _ | rfl)) (pw_and1 (pt_cmpR o_lt (pe_callB o_len (by rfl) T.z_len (by decide +kernel) (pa_cons (pv 0) pa_nil)) pe_int (by first | exact nomark _ | rfl))))) (pss_one (ps_expr (pe_bm PySem.F.plainAttrs_list PySem.F.slot_list_append PySem.F.type_list_append mt_append (pv 0) (pa_cons (pe_lst (pa_cons pe_str (pa_cons (pv 7) (pa_cons (pe_lst pa_nil) (pa_cons (pv 8) (pa_cons pe_non pa_nil)))))) pa_nil)))) (pss_one (ps_if (PW.pt (pw_and (pt_cmpR o_lt (pv 4) pe_int (by first | exact nomark _ | rfl)) (pw_and (pt_cmpR o_lt (pe_callB o_len (by rfl) T.z_len (by decide +kernel) (pa_cons (pv 0) pa_nil)) pe_int (by first | exact nomark _ | rfl)) (pw_and1 (pt_not (pt_val (pv 9))))))) (pss_cons (ps_if (PW.pt (pw_and (pt_cmpR (o_eq hr.units) (pv 3) pe_int (by first | exact nomark _ | rfl)) (pw_and1 (pt_cmpR o_gt (pe_op o_mod (pe_op o_div (pv 2) pe_int) pe_int) pe_int (by first | exact nomark _ | rfl))))) (pss_one (ps_set (i := 7) sc_law_put.nd rfl (by first | exact Or.inl rfl | exact Or.inr rfl) (pe_tup (pa_cons pe_str (pa_cons (pe_tup (pa_cons pe_str (pa_cons (pe_ix ix_seq (pv 1) (pe_op o_mod (pe_op o_div (pv 2) pe_int) pe_int) (fun _ _ => rfl)) pa_nil))) (pa_cons (pe_tup (pa_cons pe_str (pa_cons (pe_op o_add pe_int (pe_op o_mod (pe_op o_div (pv 2) pe_int) pe_int)) pa_nil))) pa_nil)))))) pss_nil) (pss_one (ps_expr (pe_bm PySem.F.plainAttrs_list PySem.F.slot_list_append PySem.F.type_list_append mt_append (pv 0) (pa_cons (pe_lst (pa_cons pe_str (pa_cons (pv 7) (pa_cons (pe_lst pa_nil) (pa_cons (pv 8) (pa_cons pe_non pa_nil)))))) pa_nil))))) (pss_one (ps_if (pt_cmpR o_gt (pe_callB o_len (by rfl) T.z_len (by decide +kernel) (pa_cons (pv 0) pa_nil)) pe_int (by first | exact nomark _ | rfl)) (pss_one (ps_expr (pe_f c_law_closed hr (by decide) (pa_cons (pv 0) pa_nil)))) pss_nil))))))))))))))))), pure_law_put K vs H Q E h⟩
theorem ok_law_block_by (T : Top K mg) : Cal P w K mg base 21 "_law_block_by" (sp_law_block_by K) := by
  have c_law_mixed : Cal P w K mg base 1 "_law_mixed" (sp_law_mixed K) := ok_law_mixed T
  have c_law_put : Cal P w K mg base 20 "_law_put" (sp_law_put K) := ok_law_put T
  have c_law_closed : Cal P w K mg base 1 "_law_closed" (sp_law_closed K) := ok_law_closed T
  exact cal_of (k := 20) T.f_law_block_by sc_law_block_by (by intro vs H Q E h; repeat (first | (obtain ⟨rfl, _⟩ := h; rfl) | (obtain ⟨_, h⟩ := h))) fun f cdv A outer s H vs Q E hr h => ⟨t_law_block_by K, PSs.nox (pss_cons (ps_set (i := 3) sc_law_block_by.nd rfl (by first | exact Or.inl rfl | exact Or.inr rfl) (pe_lst (pa_cons (pe_lst (pa_cons pe_str (pa_cons pe_non (pa_cons (pe_lst pa_nil) (pa_cons pe_bl (pa_cons pe_non pa_nil)))))) pa_nil))) (pss_cons (ps_for PassesOwn.never rfl (pi_enum (by rfl) T.z_enumerate (pa_cons (pv 0) pa_nil)) (pg_tup rfl (pgs_cons (pg_name (i := 4) sc_law_block_by.nd rfl (by first | exact Or.inl rfl | exact Or.inr rfl)) (pgs_cons (pg_name (i := 5) sc_law_block_by.nd rfl (by first | exact Or.inl rfl | exact Or.inr rfl)) pgs_nil))) (pss_cons (ps_set (i := 6) sc_law_block_by.nd rfl (by first | exact Or.inl rfl | exact Or.inr rfl) (pe_f c_law_mixed hr (by decide) (pa_cons (pe_op o_mul (pe_f c_law_mixed hr (by decide) (pa_cons (pe_op o_add (pv 5) (pe_op o_mul pe_int (pv 4))) pa_nil)) (pe_op o_add (pv 4) pe_int)) pa_nil))) (pss_cons (ps_set (i := 7) sc_law_block_by.nd rfl (by first | exact Or.inl rfl | exact Or.inr rfl) pe_int) (pss_cons (ps_if (PW.pt (pw_and (pt_cmpR (o_eq hr.units) (pv 2) pe_int (by first | exact nomark _ | rfl)) (pw_and1 (pt_cmpR (o_eq hr.units) (pe_op o_mod (pe_op o_div (pv 6) pe_int) pe_int) pe_int (by first | exact nomark _ | rfl))))) (pss_one (ps_set (i := 7) sc_law_block_by.nd rfl (by first | exact Or.inl rfl | exact Or.inr rfl) pe_int)) pss_nil) (pss_cons (ps_if (PW.pt (pw_and (pt_cmpR o_gt (pv 2) pe_int (by first | exact nomark _ | rfl)) (pw_and1 (pt_cmpR (o_eq hr.units) (pv 4) (pe_op o_mod (pv 2) (pe_callB o_len (by rfl) T.z_len (by decide +kernel) (pa_cons (pv 0) pa_nil))) (by first | exact nomark _ | rfl))))) (pss_one (ps_set (i := 7) sc_law_block_by.nd rfl (by first | exact Or.inl rfl | exact Or.inr rfl) pe_int)) pss_nil) (pss_one (ps_expr (pe_f c_law_put hr (by decide) (pa_cons (pv 3) (pa_cons (pv 1) (pa_cons (pv 6) (pa_cons (pv 7) pa_nil)))))))))))) (pss_cons (ps_while PassesOwn.never (pt_cmpR o_gt (pe_callB o_len (by rfl) T.z_len (by decide +kernel) (pa_cons (pv 3) pa_nil)) pe_int (by first | exact nomark _ | rfl)) (pss_one (ps_expr (pe_f c_law_closed hr (by decide) (pa_cons (pv 3) pa_nil))))) (pss_one (ps_ret (pe_ix ix_seq (pe_ix ix_seq (pv 3) pe_int (fun _ _ => rfl)) pe_int (fun _ _ => rfl))))))), pure_law_block_by K vs H Q E h⟩
theorem ok_formula_text (T : Top K mg) : ∀ n : Nat, Cal P w K mg base (0 + n) "formula_text" (sp_formula_text K n)
  | 0 => cal_none T.f_formula_text no_formula_text
  | n + 1 => by
    have c_formula_text : Cal P w K mg base (0 + n) "formula_text" (sp_formula_text K n) := ok_formula_text T n
    exact cal_of (k := 0 + n) T.f_formula_text sc_formula_text (by intro vs H Q E h; repeat (first | (obtain ⟨rfl, _⟩ := h; rfl) | (obtain ⟨_, h⟩ := h))) fun f cdv A outer s H vs Q E hr h => ⟨t_formula_text K n, PSs.nox (pss_cons (ps_if (pt_cmpR (o_eq hr.units) (pe_ix ix_seq (pv 0) pe_int (fun _ _ => rfl)) pe_str (by first | exact nomark _ | rfl)) (pss_one (ps_ret (pe_callTy o_str (by rfl) T.z_str (by decide +kernel) (pa_cons (pe_ix ix_seq (pv 0) pe_int (fun _ _ => rfl)) pa_nil)))) pss_nil) (pss_cons (ps_if (pt_cmpR (o_eq hr.units) (pe_ix ix_seq (pv 0) pe_int (fun _ _ => rfl)) pe_str (by first | exact nomark _ | rfl)) (pss_one (ps_ret (pe_ix ix_seq (pv 0) pe_int (fun _ _ => rfl)))) pss_nil) (pss_one (ps_ret (pe_op o_add (pe_op o_add (pe_op o_add (pe_op o_add (pe_ix ix_seq (pv 0) pe_int (fun _ _ => rfl)) pe_str) (pe_f c_formula_text hr (by omega) (pa_cons (pe_ix ix_seq (pv 0) pe_int (fun _ _ => rfl)) pa_nil))) pe_str) (pe_f c_formula_text hr (by omega) (pa_cons (pe_ix ix_seq (pv 0) pe_int (fun _ _ => rfl)) pa_nil))))))), pure_formula_text K n vs H Q E h⟩
theorem ok_written (T : Top K mg) : ∀ n : Nat, Cal P w K mg base (18 + n) "written" (sp_written K n)
  | 0 => cal_none T.f_written no_written
  | n + 1 => by
    have c_written : Cal P w K mg base (18 + n) "written" (sp_written K n) := ok_written T n
    have c_formula_text : Cal P w K mg base 18 "formula_text" (sp_formula_text K 18) := ok_formula_text T 18
    exact cal_of (k := 18 + n) T.f_written sc_written (by intro vs H Q E h; repeat (first | (obtain ⟨rfl, _⟩ := h; rfl) | (obtain ⟨_, h⟩ := h))) fun f cdv A outer s H vs Q E hr h => ⟨t_written K n, PSs.nox (pss_cons (ps_set (i := 1) sc_written.nd rfl (by first | exact Or.inl rfl | exact Or.inr rfl) (pe_lst pa_nil)) (pss_cons (ps_for PassesOwn.never rfl (pi_seq (pv 0)) (pg_name (i := 2) sc_written.nd rfl (by first | exact Or.inl rfl | exact Or.inr rfl)) (pss_cons (ps_if (pt_cmpR (o_eq hr.units) (pe_ix ix_seq (pv 2) pe_int (fun _ _ => rfl)) pe_str (by first | exact nomark _ | rfl)) (pss_one (ps_expr (pe_bm PySem.F.plainAttrs_list PySem.F.slot_list_append PySem.F.type_list_append mt_append (pv 1) (pa_cons pe_str pa_nil)))) (pss_one (ps_if (pt_cmpR (o_eq hr.units) (pe_ix ix_seq (pv 2) pe_int (fun _ _ => rfl)) pe_str (by first | exact nomark _ | rfl)) (pss_one (ps_expr (pe_bm PySem.F.plainAttrs_list PySem.F.slot_list_append PySem.F.type_list_append mt_append (pv 1) (pa_cons (pe_op o_add (pe_op o_add (pe_op o_add pe_str (pe_ix ix_seq (pv 2) pe_int (fun _ _ => rfl))) pe_str) (pe_f c_formula_text hr (by omega) (pa_cons (pe_ix ix_seq (pv 2) pe_int (fun _ _ => rfl)) pa_nil))) pa_nil)))) (pss_one (ps_expr (pe_bm PySem.F.plainAttrs_list PySem.F.slot_list_append PySem.F.type_list_append mt_append (pv 1) (pa_cons (pe_op o_add (pe_op o_add (pe_ix ix_seq (pv 2) pe_int (fun _ _ => rfl)) pe_str) (pe_f c_formula_text hr (by omega) (pa_cons (pe_ix ix_seq (pv 2) pe_int (fun _ _ => rfl)) pa_nil))) pa_nil))))))) (pss_cons (ps_if (pt_cmpR (o_eq hr.units) (pe_ix ix_seq (pv 2) pe_int (fun _ _ => rfl)) pe_str (by first | exact nomark _ | rfl)) (pss_one (ps_set (i := 1) sc_written.nd rfl (by first | exact Or.inl rfl | exact Or.inr rfl) (pe_op o_add (pe_op o_add (pe_op o_add (pe_op o_add (pv 1) (pe_f c_written hr (by omega) (pa_cons (pe_ix ix_seq (pv 2) pe_int (fun _ _ => rfl)) pa_nil))) (pe_lst (pa_cons pe_str pa_nil))) (pe_f c_written hr (by omega) (pa_cons (pe_ix ix_seq (pv 2) pe_int (fun _ _ => rfl)) pa_nil))) (pe_lst (pa_cons pe_str pa_nil))))) pss_nil) (pss_one (ps_if (pt_cmpR (o_eq hr.units) (pe_ix ix_seq (pv 2) pe_int (fun _ _ => rfl)) pe_str (by first | exact nomark _ | rfl)) (pss_one (ps_set (i := 1) sc_written.nd rfl (by first | exact Or.inl rfl | exact Or.inr rfl) (pe_op o_add (pe_op o_add (pv 1) (pe_f c_written hr (by omega) (pa_cons (pe_ix ix_seq (pv 2) pe_int (fun _ _ => rfl)) pa_nil))) (pe_lst (pa_cons pe_str pa_nil))))) pss_nil))))) (pss_one (ps_ret (pv 1))))), pure_written K n vs H Q E h⟩
theorem ok_law_text (T : Top K mg) : ∀ n : Nat, Cal P w K mg base (0 + n) "_law_text" (sp_law_text K n)
  | 0 => cal_none T.f_law_text no_law_text
  | n + 1 => by
    have c_law_text : Cal P w K mg base (0 + n) "_law_text" (sp_law_text K n) := ok_law_text T n
    exact cal_of (k := 0 + n) T.f_law_text sc_law_text (by intro vs H Q E h; repeat (first | (obtain ⟨rfl, _⟩ := h; rfl) | (obtain ⟨_, h⟩ := h))) fun f cdv A outer s H vs Q E hr h => ⟨t_law_text K n, PSs.nox (pss_cons (ps_if (pt_cmpR (o_eq hr.units) (pe_ix ix_seq (pv 0) pe_int (fun _ _ => rfl)) pe_str (by first | exact nomark _ | rfl)) (pss_one (ps_ret (pe_callTy o_str (by rfl) T.z_str (by decide +kernel) (pa_cons (pe_ix ix_seq (pv 0) pe_int (fun _ _ => rfl)) pa_nil)))) pss_nil) (pss_cons (ps_if (pt_cmpR (o_eq hr.units) (pe_ix ix_seq (pv 0) pe_int (fun _ _ => rfl)) pe_str (by first | exact nomark _ | rfl)) (pss_one (ps_ret (pe_ix ix_seq (pv 0) pe_int (fun _ _ => rfl)))) pss_nil) (pss_one (ps_ret (pe_op o_add (pe_op o_add (pe_op o_add (pe_op o_add (pe_ix ix_seq (pv 0) pe_int (fun _ _ => rfl)) pe_str) (pe_f c_law_text hr (by omega) (pa_cons (pe_ix ix_seq (pv 0) pe_int (fun _ _ => rfl)) pa_nil))) pe_str) (pe_f c_law_text hr (by omega) (pa_cons (pe_ix ix_seq (pv 0) pe_int (fun _ _ => rfl)) pa_nil))))))), pure_law_text K n vs H Q E h⟩
theorem ok_law_lines (T : Top K mg) : ∀ n : Nat, Cal P w K mg base (18 + n) "_law_lines" (sp_law_lines K n)
  | 0 => cal_none T.f_law_lines no_law_lines
  | n + 1 => by
    have c_law_lines : Cal P w K mg base (18 + n) "_law_lines" (sp_law_lines K n) := ok_law_lines T n
    have c_law_text : Cal P w K mg base 18 "_law_text" (sp_law_text K 18) := ok_law_text T 18
    exact cal_of (k := 18 + n) T.f_law_lines sc_law_lines (by intro vs H Q E h; repeat (first | (obtain ⟨rfl, _⟩ := h; rfl) | (obtain ⟨_, h⟩ := h))) fun f cdv A outer s H vs Q E hr h => ⟨t_law_lines K n, PSs.nox (pss_cons (ps_set (i := 1) sc_law_lines.nd rfl (by first | exact Or.inl rfl | exact Or.inr rfl) (pe_lst pa_nil)) (pss_cons (ps_for PassesOwn.never rfl (pi_seq (pv 0)) (pg_name (i := 2) sc_law_lines.nd rfl (by first | exact Or.inl rfl | exact Or.inr rfl)) (pss_cons (ps_if (pt_cmpR (o_eq hr.units) (pe_ix ix_seq (pv 2) pe_int (fun _ _ => rfl)) pe_str (by first | exact nomark _ | rfl)) (pss_one (ps_expr (pe_bm PySem.F.plainAttrs_list PySem.F.slot_list_append PySem.F.type_list_append mt_append (pv 1) (pa_cons (pe_op o_add (pe_op o_add (pe_op o_add pe_str (pe_ix ix_seq (pv 2) pe_int (fun _ _ => rfl))) pe_str) (pe_f c_law_text hr (by omega) (pa_cons (pe_ix ix_seq (pv 2) pe_int (fun _ _ => rfl)) pa_nil))) pa_nil)))) (pss_one (ps_if (pt_cmpR (o_eq hr.units) (pe_ix ix_seq (pv 2) pe_int (fun _ _ => rfl)) pe_str (by first | exact nomark _ | rfl)) (pss_one (ps_expr (pe_bm PySem.F.plainAttrs_list PySem.F.slot_list_append PySem.F.type_list_append mt_append (pv 1) (pa_cons pe_str pa_nil)))) (pss_one (ps_expr (pe_bm PySem.F.plainAttrs_list PySem.F.slot_list_append PySem.F.type_list_append mt_append (pv 1) (pa_cons (pe_op o_add (pe_op o_add (pe_ix ix_seq (pv 2) pe_int (fun _ _ => rfl)) pe_str) (pe_f c_law_text hr (by omega) (pa_cons (pe_ix ix_seq (pv 2) pe_int (fun _ _ => rfl)) pa_nil))) pa_nil))))))) (pss_cons (ps_if (pt_cmpR (o_eq hr.units) (pe_ix ix_seq (pv 2) pe_int (fun _ _ => rfl)) pe_str (by first | exact nomark _ | rfl)) (pss_one (ps_set (i := 1) sc_law_lines.nd rfl (by first | exact Or.inl rfl | exact Or.inr rfl) (pe_op o_add (pe_op o_add (pe_op o_add (pe_op o_add (pv 1) (pe_f c_law_lines hr (by omega) (pa_cons (pe_ix ix_seq (pv 2) pe_int (fun _ _ => rfl)) pa_nil))) (pe_lst (pa_cons pe_str pa_nil))) (pe_f c_law_lines hr (by omega) (pa_cons (pe_ix ix_seq (pv 2) pe_int (fun _ _ => rfl)) pa_nil))) (pe_lst (pa_cons pe_str pa_nil))))) pss_nil) (pss_one (ps_if (pt_cmpR (o_eq hr.units) (pe_ix ix_seq (pv 2) pe_int (fun _ _ => rfl)) pe_str (by first | exact nomark _ | rfl)) (pss_one (ps_set (i := 1) sc_law_lines.nd rfl (by first | exact Or.inl rfl | exact Or.inr rfl) (pe_op o_add (pe_op o_add (pv 1) (pe_f c_law_lines hr (by omega) (pa_cons (pe_ix ix_seq (pv 2) pe_int (fun _ _ => rfl)) pa_nil))) (pe_lst (pa_cons pe_str pa_nil))))) pss_nil))))) (pss_one (ps_ret (pv 1))))), pure_law_lines K n vs H Q E h⟩
theorem ok_law_alike (T : Top K mg) : ∀ n : Nat, Cal P w K mg base (0 + n) "_law_alike" (sp_law_alike K n)
  | 0 => cal_none T.f_law_alike no_law_alike
  | n + 1 => by
    have c_law_alike : Cal P w K mg base (0 + n) "_law_alike" (sp_law_alike K n) := ok_law_alike T n
    exact cal_of (k := 0 + n) T.f_law_alike sc_law_alike (by intro vs H Q E h; repeat (first | (obtain ⟨rfl, _⟩ := h; rfl) | (obtain ⟨_, h⟩ := h))) fun f cdv A outer s H vs Q E hr h => ⟨t_law_alike K n, PSs.nox (pss_cons (ps_if (pt_val (pe_callB o_isi (by rfl) T.z_isinstance (by decide +kernel) (pa_cons (pv 1) (pa_cons (pe_bltn (by rfl) T.z_tuple (by decide +kernel) rfl) pa_nil)))) (pss_cons (ps_if (PW.pt (pw_or (pt_not (pt_val (pe_callB o_isi (by rfl) T.z_isinstance (by decide +kernel) (pa_cons (pv 0) (pa_cons (pe_bltn (by rfl) T.z_tuple (by decide +kernel) rfl) pa_nil))))) (pw_or1 (pt_cmpR (o_ne hr.units) (pe_callB o_len (by rfl) T.z_len (by decide +kernel) (pa_cons (pv 0) pa_nil)) (pe_callB o_len (by rfl) T.z_len (by decide +kernel) (pa_cons (pv 1) pa_nil)) (by first | exact nomark _ | rfl))))) (pss_one (ps_ret pe_bl)) pss_nil) (pss_one (ps_ret (pe_cmpR (o_eq hr.units) (pe_lc (own := [("_law_k", 2)]) (g := (gName 2)) (tt := (tNot (tB (tF (sp_law_alike K n) (tCons (tOp (rIx K) (tVar 0) (tVar 2)) (tCons (tOp (rIx K) (tVar 1) (tVar 2)) tNil)))))) rfl sc_law_alike.nd (pi_range1 (by rfl) T.z_range (pa_cons (pe_callB o_len (by rfl) T.z_len (by decide +kernel) (pa_cons (pv 1) pa_nil)) pa_nil)) (blkOk_by (own := [("_law_k", 2)]) (N := M_law_alike) (sc := defScope s_law_alike) (by decide +kernel)) (fun _ _ _ _ _ => (pg_name (i := 2) sc_law_alike.nd rfl (by first | exact Or.inl rfl | exact Or.inr rfl))) (fun _ _ _ _ _ => (pts_one (pt_not (pt_val (pe_f c_law_alike hr (by omega) (pa_cons (pe_ix ix_seq (pv 0) (pv 2) (fun _ _ => rfl)) (pa_cons (pe_ix ix_seq (pv 1) (pv 2) (fun _ _ => rfl)) pa_nil))))))) (fun _ _ _ _ _ => (pv 2))) (pe_lst pa_nil) (by first | exact nomark _ | rfl))))) pss_nil) (pss_cons (ps_if (pt_val (pe_callB o_isi (by rfl) T.z_isinstance (by decide +kernel) (pa_cons (pv 1) (pa_cons (pe_bltn (by rfl) T.z_int (by decide +kernel) rfl) pa_nil)))) (pss_one (ps_ret (pe_and (pe_callB o_isi (by rfl) T.z_isinstance (by decide +kernel) (pa_cons (pv 0) (pa_cons (pe_bltn (by rfl) T.z_int (by decide +kernel) rfl) pa_nil))) (pe_and (pe_not (pe_callB o_isi (by rfl) T.z_isinstance (by decide +kernel) (pa_cons (pv 0) (pa_cons (pe_bltn (by rfl) T.z_bool (by decide +kernel) rfl) pa_nil)))) (pe_one (pe_cmpR (o_eq hr.units) (pv 0) (pv 1) (by first | exact nomark _ | rfl))))))) pss_nil) (pss_one (ps_ret (pe_and (pe_callB o_isi (by rfl) T.z_isinstance (by decide +kernel) (pa_cons (pv 0) (pa_cons (pe_bltn (by rfl) T.z_str (by decide +kernel) rfl) pa_nil))) (pe_one (pe_cmpR (o_eq hr.units) (pv 0) (pv 1) (by first | exact nomark _ | rfl)))))))), pure_law_alike K n vs H Q E h⟩
theorem ok_is_name (T : Top K mg) : Cal P w K mg base 1 "is_name" (sp_is_name K) := by
  exact cal_of (k := 0) T.f_is_name sc_is_name (by intro vs H Q E h; repeat (first | (obtain ⟨rfl, _⟩ := h; rfl) | (obtain ⟨_, h⟩ := h))) fun f cdv A outer s H vs Q E hr h => ⟨t_is_name K, PSs.nox (pss_cons (ps_if (PW.pt (pw_or (pt_not (pt_val (pe_callB o_isi (by rfl) T.z_isinstance (by decide +kernel) (pa_cons (pv 0) (pa_cons (pe_bltn (by rfl) T.z_str (by decide +kernel) rfl) pa_nil))))) (pw_or (pt_not (pt_chain o_le o_le pe_int (pe_callB o_len (by rfl) T.z_len (by decide +kernel) (pa_cons (pv 0) pa_nil)) pe_int)) (pw_or (pt_cmpR o_in (pv 0) (pe_globT (by rfl) T.g_WORDS) (by first | exact nomark _ | rfl)) (pw_or1 (pt_cmpR o_nin (pe_ix ix_seq (pv 0) pe_int (fun _ _ => rfl)) (pe_globS (by rfl) T.g_LETTERS) (by first | exact nomark _ | rfl))))))) (pss_one (ps_ret pe_bl)) pss_nil) (pss_cons (ps_for PassesOwn.never rfl (pi_str (pv 0)) (pg_name (i := 1) sc_is_name.nd rfl (by first | exact Or.inl rfl | exact Or.inr rfl)) (pss_one (ps_if (PW.pt (pw_and (pt_cmpR o_nin (pv 1) (pe_globS (by rfl) T.g_LETTERS) (by first | exact nomark _ | rfl)) (pw_and1 (pt_cmpR o_nin (pv 1) (pe_globS (by rfl) T.g_FIGURES) (by first | exact nomark _ | rfl))))) (pss_one (ps_ret pe_bl)) pss_nil))) (pss_one (ps_ret pe_bl)))), pure_is_name K vs H Q E h⟩
theorem ok_number_of (T : Top K mg) : Cal P w K mg base 1 "number_of" (sp_number_of K) := by
  exact cal_of (k := 0) T.f_number_of sc_number_of (by intro vs H Q E h; repeat (first | (obtain ⟨rfl, _⟩ := h; rfl) | (obtain ⟨_, h⟩ := h))) fun f cdv A outer s H vs Q E hr h => ⟨t_number_of K, PSs.nox (pss_cons (ps_if (PW.pt (pw_or (pt_not (pt_chain o_le o_le pe_int (pe_callB o_len (by rfl) T.z_len (by decide +kernel) (pa_cons (pv 0) pa_nil)) pe_int)) (pw_or1 (PW.pt (pw_and (pt_cmpR (o_eq hr.units) (pe_ix ix_seq (pv 0) pe_int (fun _ _ => rfl)) pe_str (by first | exact nomark _ | rfl)) (pw_and1 (pt_cmpR (o_ne hr.units) (pv 0) pe_str (by first | exact nomark _ | rfl)))))))) (pss_one ps_never) pss_nil) (pss_cons (ps_for PassesOwn.never rfl (pi_str (pv 0)) (pg_name (i := 1) sc_number_of.nd rfl (by first | exact Or.inl rfl | exact Or.inr rfl)) (pss_one (ps_if (pt_cmpR o_nin (pv 1) (pe_globS (by rfl) T.g_FIGURES) (by first | exact nomark _ | rfl)) (pss_one ps_never) pss_nil))) (pss_one (ps_ret (pe_callTy o_int (by rfl) T.z_int (by decide +kernel) (pa_cons (pv 0) pa_nil)))))), pure_number_of K vs H Q E h⟩
theorem ok_read_formula (T : Top K mg) : ∀ n : Nat, Cal P w K mg base (1 + n) "read_formula" (sp_read_formula K n)
  | 0 => cal_none T.f_read_formula no_read_formula
  | n + 1 => by
    have c_read_formula : Cal P w K mg base (1 + n) "read_formula" (sp_read_formula K n) := ok_read_formula T n
    have c_is_name : Cal P w K mg base 1 "is_name" (sp_is_name K) := ok_is_name T
    have c_number_of : Cal P w K mg base 1 "number_of" (sp_number_of K) := ok_number_of T
    exact cal_of (k := 1 + n) T.f_read_formula sc_read_formula (by intro vs H Q E h; repeat (first | (obtain ⟨rfl, _⟩ := h; rfl) | (obtain ⟨_, h⟩ := h))) fun f cdv A outer s H vs Q E hr h => ⟨t_read_formula K n, PSs.nox (pss_cons (ps_if (PW.pt (pw_or (pt_cmpR (o_eq hr.units) (pv 2) pe_int (by first | exact nomark _ | rfl)) (pw_or1 (pt_cmpR o_ge (pv 1) (pe_callB o_len (by rfl) T.z_len (by decide +kernel) (pa_cons (pv 0) pa_nil)) (by first | exact nomark _ | rfl))))) (pss_one ps_never) pss_nil) (pss_cons (ps_set (i := 3) sc_read_formula.nd rfl (by first | exact Or.inl rfl | exact Or.inr rfl) (pe_ix ix_seq (pv 0) (pv 1) (fun _ _ => rfl))) (pss_cons (ps_if (pt_cmpR o_in (pv 3) (pe_globT (by rfl) T.g_SIGNS) (by first | exact nomark _ | rfl)) (pss_cons (ps_asg (pe_f c_read_formula hr (by omega) (pa_cons (pv 0) (pa_cons (pe_op o_add (pv 1) pe_int) (pa_cons (pe_op o_sub (pv 2) pe_int) pa_nil)))) (pg_tup rfl (pgs_cons (pg_name (i := 4) sc_read_formula.nd rfl (by first | exact Or.inl rfl | exact Or.inr rfl)) (pgs_cons (pg_name (i := 1) sc_read_formula.nd rfl (by first | exact Or.inl rfl | exact Or.inr rfl)) pgs_nil)))) (pss_cons (ps_asg (pe_f c_read_formula hr (by omega) (pa_cons (pv 0) (pa_cons (pv 1) (pa_cons (pe_op o_sub (pv 2) pe_int) pa_nil)))) (pg_tup rfl (pgs_cons (pg_name (i := 5) sc_read_formula.nd rfl (by first | exact Or.inl rfl | exact Or.inr rfl)) (pgs_cons (pg_name (i := 1) sc_read_formula.nd rfl (by first | exact Or.inl rfl | exact Or.inr rfl)) pgs_nil)))) (pss_one (ps_ret (pe_tup (pa_cons (pe_tup (pa_cons (pv 3) (pa_cons (pv 4) (pa_cons (pv 5) pa_nil)))) (pa_cons (pv 1) pa_nil))))))) pss_nil) (pss_cons (ps_if (pt_val (pe_f c_is_name hr (by omega) (pa_cons (pv 3) pa_nil))) (pss_one (ps_ret (pe_tup (pa_cons (pe_tup (pa_cons pe_str (pa_cons (pv 3) pa_nil))) (pa_cons (pe_op o_add (pv 1) pe_int) pa_nil))))) pss_nil) (pss_one (ps_ret (pe_tup (pa_cons (pe_tup (pa_cons pe_str (pa_cons (pe_f c_number_of hr (by omega) (pa_cons (pv 3) pa_nil)) pa_nil))) (pa_cons (pe_op o_add (pv 1) pe_int) pa_nil))))))))), pure_read_formula K n vs H Q E h⟩
theorem ok_whole_formula (T : Top K mg) : Cal P w K mg base 15 "whole_formula" (sp_whole_formula K) := by
  have c_read_formula : Cal P w K mg base 14 "read_formula" (sp_read_formula K 13) := ok_read_formula T 13
  exact cal_of (k := 14) T.f_whole_formula sc_whole_formula (by intro vs H Q E h; repeat (first | (obtain ⟨rfl, _⟩ := h; rfl) | (obtain ⟨_, h⟩ := h))) fun f cdv A outer s H vs Q E hr h => ⟨t_whole_formula K, PSs.nox (pss_cons (ps_asg (pe_f c_read_formula hr (by decide) (pa_cons (pv 0) (pa_cons pe_int (pa_cons (pe_globI (by rfl) T.g_MOST_DEEP) pa_nil)))) (pg_tup rfl (pgs_cons (pg_name (i := 1) sc_whole_formula.nd rfl (by first | exact Or.inl rfl | exact Or.inr rfl)) (pgs_cons (pg_name (i := 2) sc_whole_formula.nd rfl (by first | exact Or.inl rfl | exact Or.inr rfl)) pgs_nil)))) (pss_cons (ps_if (pt_cmpR (o_ne hr.units) (pv 2) (pe_callB o_len (by rfl) T.z_len (by decide +kernel) (pa_cons (pv 0) pa_nil)) (by first | exact nomark _ | rfl)) (pss_one ps_never) pss_nil) (pss_one (ps_ret (pv 1))))), pure_whole_formula K vs H Q E h⟩
theorem ok_need_line (T : Top K mg) : Cal P w K mg base 1 "need_line" (sp_need_line K) := by
  exact cal_of (k := 0) T.f_need_line sc_need_line (by intro vs H Q E h; repeat (first | (obtain ⟨rfl, _⟩ := h; rfl) | (obtain ⟨_, h⟩ := h))) fun f cdv A outer s H vs Q E hr h => ⟨t_need_line K, PSs.nox (pss_one (ps_if (PW.pt (pw_or (pt_cmpR o_ge (pv 1) (pe_callB o_len (by rfl) T.z_len (by decide +kernel) (pa_cons (pv 0) pa_nil)) (by first | exact nomark _ | rfl)) (pw_or1 (pt_cmpR (o_ne hr.units) (pe_ix ix_seq (pv 0) (pv 1) (fun _ _ => rfl)) (pv 2) (by first | exact nomark _ | rfl))))) (pss_one ps_never) pss_nil)), pure_need_line K vs H Q E h⟩
theorem ok_read_block_of (T : Top K mg) {n j : Nat} (hj : 15 ≤ j) (c_read_row : Cal P w K mg base j "read_row" (sp_read_row K n)) : Cal P w K mg base (j + 1) "read_block" (sp_read_block K n) := by
  exact cal_of (k := j) T.f_read_block sc_read_block (by intro vs H Q E h; repeat (first | (obtain ⟨rfl, _⟩ := h; rfl) | (obtain ⟨_, h⟩ := h))) fun f cdv A outer s H vs Q E hr h => ⟨t_read_block K n, PSs.nox (pss_cons (ps_set (i := 3) sc_read_block.nd rfl (by first | exact Or.inl rfl | exact Or.inr rfl) (pe_lst pa_nil)) (pss_cons (ps_while PassesOwn.never (PW.pt (pw_and (pt_cmpR o_lt (pv 1) (pe_callB o_len (by rfl) T.z_len (by decide +kernel) (pa_cons (pv 0) pa_nil)) (by first | exact nomark _ | rfl)) (pw_and (pt_cmpR (o_ne hr.units) (pe_ix ix_seq (pv 0) (pv 1) (fun _ _ => rfl)) pe_str (by first | exact nomark _ | rfl)) (pw_and1 (pt_cmpR (o_ne hr.units) (pe_ix ix_seq (pv 0) (pv 1) (fun _ _ => rfl)) pe_str (by first | exact nomark _ | rfl)))))) (pss_cons (ps_asg (pe_f c_read_row hr (by omega) (pa_cons (pv 0) (pa_cons (pv 1) (pa_cons (pv 2) pa_nil)))) (pg_tup rfl (pgs_cons (pg_name (i := 4) sc_read_block.nd rfl (by first | exact Or.inl rfl | exact Or.inr rfl)) (pgs_cons (pg_name (i := 1) sc_read_block.nd rfl (by first | exact Or.inl rfl | exact Or.inr rfl)) pgs_nil)))) (pss_one (ps_expr (pe_bm PySem.F.plainAttrs_list PySem.F.slot_list_append PySem.F.type_list_append mt_append (pv 3) (pa_cons (pv 4) pa_nil)))))) (pss_one (ps_ret (pe_tup (pa_cons (pe_callTy o_tuple (by rfl) T.z_tuple (by decide +kernel) (pa_cons (pv 3) pa_nil)) (pa_cons (pv 1) pa_nil))))))), pure_read_block K n vs H Q E h⟩
theorem ok_read_row (T : Top K mg) : ∀ n : Nat, Cal P w K mg base (15 + 2 * n) "read_row" (sp_read_row K n)
  | 0 => cal_none T.f_read_row no_read_row
  | n + 1 => by
    have c_read_block : Cal P w K mg base (15 + 2 * n + 1) "read_block" (sp_read_block K n) := ok_read_block_of T (by omega) (ok_read_row T n)
    have c_whole_formula : Cal P w K mg base 15 "whole_formula" (sp_whole_formula K) := ok_whole_formula T
    have c_is_name : Cal P w K mg base 1 "is_name" (sp_is_name K) := ok_is_name T
    have c_need_line : Cal P w K mg base 1 "need_line" (sp_need_line K) := ok_need_line T
    exact (cal_of (k := 15 + 2 * n + 1) T.f_read_row sc_read_row (by intro vs H Q E h; repeat (first | (obtain ⟨rfl, _⟩ := h; rfl) | (obtain ⟨_, h⟩ := h))) fun f cdv A outer s H vs Q E hr h => ⟨t_read_row K n, PSs.nox (pss_cons (ps_set (i := 3) sc_read_row.nd rfl (by first | exact Or.inl rfl | exact Or.inr rfl) (pe_bm PySem.F.plainAttrs_str PySem.F.slot_str_split PySem.F.type_str_split mt_split (pe_ix ix_seq (pv 0) (pv 1) (fun _ _ => rfl)) (pa_cons pe_str pa_nil))) (pss_cons (ps_if (pt_cmpR o_gt (pv 2) (pe_globI (by rfl) T.g_DEEPEST_ROW) (by first | exact nomark _ | rfl)) (pss_one ps_never) pss_nil) (pss_cons (ps_if (pt_cmpR (o_eq hr.units) (pv 3) (pe_lst (pa_cons pe_str pa_nil)) (by first | exact nomark _ | rfl)) (pss_one (ps_ret (pe_tup (pa_cons (pe_tup (pa_cons pe_str pa_nil)) (pa_cons (pe_op o_add (pv 1) pe_int) pa_nil))))) pss_nil) (pss_cons (ps_if (pt_cmpR (o_eq hr.units) (pe_ix ix_seq (pv 3) pe_int (fun _ _ => rfl)) pe_str (by first | exact nomark _ | rfl)) (pss_one (ps_ret (pe_tup (pa_cons (pe_tup (pa_cons pe_str (pa_cons (pe_f c_whole_formula hr (by omega) (pa_cons (pe_slice o_sl (pv 3) (po_some pe_int) po_none) pa_nil)) pa_nil))) (pa_cons (pe_op o_add (pv 1) pe_int) pa_nil))))) pss_nil) (pss_cons (ps_if (PW.pt (pw_and (pt_cmpR (o_eq hr.units) (pe_ix ix_seq (pv 3) pe_int (fun _ _ => rfl)) pe_str (by first | exact nomark _ | rfl)) (pw_and (pt_cmpR o_gt (pe_callB o_len (by rfl) T.z_len (by decide +kernel) (pa_cons (pv 3) pa_nil)) pe_int (by first | exact nomark _ | rfl)) (pw_and1 (pt_val (pe_f c_is_name hr (by omega) (pa_cons (pe_ix ix_seq (pv 3) pe_int (fun _ _ => rfl)) pa_nil))))))) (pss_one (ps_ret (pe_tup (pa_cons (pe_tup (pa_cons pe_str (pa_cons (pe_ix ix_seq (pv 3) pe_int (fun _ _ => rfl)) (pa_cons (pe_f c_whole_formula hr (by omega) (pa_cons (pe_slice o_sl (pv 3) (po_some pe_int) po_none) pa_nil)) pa_nil)))) (pa_cons (pe_op o_add (pv 1) pe_int) pa_nil))))) pss_nil) (pss_cons (ps_if (PW.pt (pw_and (pt_cmpR (o_ne hr.units) (pe_ix ix_seq (pv 3) pe_int (fun _ _ => rfl)) pe_str (by first | exact nomark _ | rfl)) (pw_and1 (pt_cmpR (o_ne hr.units) (pe_ix ix_seq (pv 3) pe_int (fun _ _ => rfl)) pe_str (by first | exact nomark _ | rfl))))) (pss_one ps_never) pss_nil) (pss_cons (ps_set (i := 4) sc_read_row.nd rfl (by first | exact Or.inl rfl | exact Or.inr rfl) (pe_f c_whole_formula hr (by omega) (pa_cons (pe_slice o_sl (pv 3) (po_some pe_int) po_none) pa_nil))) (pss_cons (ps_asg (pe_f c_read_block hr (by omega) (pa_cons (pv 0) (pa_cons (pe_op o_add (pv 1) pe_int) (pa_cons (pe_op o_add (pv 2) pe_int) pa_nil)))) (pg_tup rfl (pgs_cons (pg_name (i := 5) sc_read_row.nd rfl (by first | exact Or.inl rfl | exact Or.inr rfl)) (pgs_cons (pg_name (i := 1) sc_read_row.nd rfl (by first | exact Or.inl rfl | exact Or.inr rfl)) pgs_nil)))) (pss_cons (ps_if (pt_cmpR (o_eq hr.units) (pe_ix ix_seq (pv 3) pe_int (fun _ _ => rfl)) pe_str (by first | exact nomark _ | rfl)) (pss_cons (ps_expr (pe_f c_need_line hr (by omega) (pa_cons (pv 0) (pa_cons (pv 1) (pa_cons pe_str pa_nil))))) (pss_one (ps_ret (pe_tup (pa_cons (pe_tup (pa_cons pe_str (pa_cons (pv 4) (pa_cons (pv 5) pa_nil)))) (pa_cons (pe_op o_add (pv 1) pe_int) pa_nil)))))) pss_nil) (pss_cons (ps_expr (pe_f c_need_line hr (by omega) (pa_cons (pv 0) (pa_cons (pv 1) (pa_cons pe_str pa_nil))))) (pss_cons (ps_asg (pe_f c_read_block hr (by omega) (pa_cons (pv 0) (pa_cons (pe_op o_add (pv 1) pe_int) (pa_cons (pe_op o_add (pv 2) pe_int) pa_nil)))) (pg_tup rfl (pgs_cons (pg_name (i := 6) sc_read_row.nd rfl (by first | exact Or.inl rfl | exact Or.inr rfl)) (pgs_cons (pg_name (i := 1) sc_read_row.nd rfl (by first | exact Or.inl rfl | exact Or.inr rfl)) pgs_nil)))) (pss_cons (ps_expr (pe_f c_need_line hr (by omega) (pa_cons (pv 0) (pa_cons (pv 1) (pa_cons pe_str pa_nil))))) (pss_one (ps_ret (pe_tup (pa_cons (pe_tup (pa_cons pe_str (pa_cons (pv 4) (pa_cons (pv 5) (pa_cons (pv 6) pa_nil))))) (pa_cons (pe_op o_add (pv 1) pe_int) pa_nil))))))))))))))))), pure_read_row K n vs H Q E h⟩).mono (by omega)
theorem ok_read_block (T : Top K mg) (n : Nat) : Cal P w K mg base (15 + 2 * n + 1) "read_block" (sp_read_block K n) := ok_read_block_of T (by omega) (ok_read_row T n)
theorem ok_read (T : Top K mg) : Cal P w K mg base 35 "read" (sp_read K) := by
  have c_read_block : Cal P w K mg base 34 "read_block" (sp_read_block K 9) := ok_read_block T 9
  exact cal_of (k := 34) T.f_read sc_read (by intro vs H Q E h; repeat (first | (obtain ⟨rfl, _⟩ := h; rfl) | (obtain ⟨_, h⟩ := h))) fun f cdv A outer s H vs Q E hr h => ⟨t_read K, PSs.nox (pss_cons (ps_asg (pe_f c_read_block hr (by decide) (pa_cons (pv 0) (pa_cons pe_int (pa_cons pe_int pa_nil)))) (pg_tup rfl (pgs_cons (pg_name (i := 1) sc_read.nd rfl (by first | exact Or.inl rfl | exact Or.inr rfl)) (pgs_cons (pg_name (i := 2) sc_read.nd rfl (by first | exact Or.inl rfl | exact Or.inr rfl)) pgs_nil)))) (pss_cons (ps_if (pt_cmpR (o_ne hr.units) (pv 2) (pe_callB o_len (by rfl) T.z_len (by decide +kernel) (pa_cons (pv 0) pa_nil)) (by first | exact nomark _ | rfl)) (pss_one ps_never) pss_nil) (pss_one (ps_ret (pv 1))))), pure_read K vs H Q E h⟩
theorem ok_law_lists (T : Top K mg) : ∀ n : Nat, Cal P w K mg base (0 + n) "_law_lists" (sp_law_lists K n)
  | 0 => cal_none T.f_law_lists no_law_lists
  | n + 1 => by
    have c_law_lists : Cal P w K mg base (0 + n) "_law_lists" (sp_law_lists K n) := ok_law_lists T n
    exact cal_of (k := 0 + n) T.f_law_lists sc_law_lists (by intro vs H Q E h; repeat (first | (obtain ⟨rfl, _⟩ := h; rfl) | (obtain ⟨_, h⟩ := h))) fun f cdv A outer s H vs Q E hr h => ⟨t_law_lists K n, PSs.nox (pss_cons (ps_set (i := 1) sc_law_lists.nd rfl (by first | exact Or.inl rfl | exact Or.inr rfl) (pe_lst pa_nil)) (pss_cons (ps_for PassesOwn.never rfl (pi_seq (pv 0)) (pg_name (i := 2) sc_law_lists.nd rfl (by first | exact Or.inl rfl | exact Or.inr rfl)) (pss_cons (ps_if (pt_cmpR (o_eq hr.units) (pe_ix ix_seq (pv 2) pe_int (fun _ _ => rfl)) pe_str (by first | exact nomark _ | rfl)) (pss_one (ps_set (i := 2) sc_law_lists.nd rfl (by first | exact Or.inl rfl | exact Or.inr rfl) (pe_tup (pa_cons pe_str (pa_cons (pe_ix ix_seq (pv 2) pe_int (fun _ _ => rfl)) (pa_cons (pe_f c_law_lists hr (by omega) (pa_cons (pe_ix ix_seq (pv 2) pe_int (fun _ _ => rfl)) pa_nil)) (pa_cons (pe_f c_law_lists hr (by omega) (pa_cons (pe_ix ix_seq (pv 2) pe_int (fun _ _ => rfl)) pa_nil)) pa_nil))))))) (pss_one (ps_if (pt_cmpR (o_eq hr.units) (pe_ix ix_seq (pv 2) pe_int (fun _ _ => rfl)) pe_str (by first | exact nomark _ | rfl)) (pss_one (ps_set (i := 2) sc_law_lists.nd rfl (by first | exact Or.inl rfl | exact Or.inr rfl) (pe_tup (pa_cons pe_str (pa_cons (pe_ix ix_seq (pv 2) pe_int (fun _ _ => rfl)) (pa_cons (pe_f c_law_lists hr (by omega) (pa_cons (pe_ix ix_seq (pv 2) pe_int (fun _ _ => rfl)) pa_nil)) pa_nil)))))) pss_nil))) (pss_one (ps_expr (pe_bm PySem.F.plainAttrs_list PySem.F.slot_list_append PySem.F.type_list_append mt_append (pv 1) (pa_cons (pv 2) pa_nil)))))) (pss_one (ps_ret (pv 1))))), pure_law_lists K n vs H Q E h⟩
theorem ok_law {fa : Addr} {fd : FuncData} (T : Top K mg) (F : Fun K "law" "law" s_k03 fa fd) : FnOk P w K mg base CX0 41 fa fd ["_law_script"] (sp_k03 K) := by
  have c_law_names : Cal P w K mg base 3 "_law_names" (sp_law_names K) := ok_law_names T
  have c_law_cell_at : Cal P w K mg base 1 "_law_cell_at" (sp_law_cell_at K) := ok_law_cell_at T
  have c_law_block_by : Cal P w K mg base 21 "_law_block_by" (sp_law_block_by K) := ok_law_block_by T
  have c_written : Cal P w K mg base 27 "written" (sp_written K 9) := ok_written T 9
  have c_law_lines : Cal P w K mg base 27 "_law_lines" (sp_law_lines K 9) := ok_law_lines T 9
  have c_law_alike : Cal P w K mg base 40 "_law_alike" (sp_law_alike K 40) := ok_law_alike T 40
  have c_read : Cal P w K mg base 35 "read" (sp_read K) := ok_read T
  have c_law_lists : Cal P w K mg base 9 "_law_lists" (sp_law_lists K 9) := ok_law_lists T 9
  exact F.ok sc_k03 (by intro vs H Q E h; repeat (first | (obtain ⟨rfl, _⟩ := h; rfl) | (obtain ⟨_, h⟩ := h))) fun cdv A outer s H vs Q E hr h => ⟨t_k03 K, PSs.nox (pss_cons (ps_set (i := 1) sc_k03.nd rfl (by first | exact Or.inl rfl | exact Or.inr rfl) (pe_f c_law_names hr (by decide) (pa_cons (pe_f c_law_cell_at hr (by decide) (pa_cons (pv 0) (pa_cons pe_int pa_nil))) (pa_cons (pe_f c_law_cell_at hr (by decide) (pa_cons (pv 0) (pa_cons pe_int pa_nil))) pa_nil)))) (pss_cons (ps_set (i := 2) sc_k03.nd rfl (by first | exact Or.inl rfl | exact Or.inr rfl) (pe_callTy o_tuple (by rfl) T.z_tuple (by decide +kernel) (pa_cons (pe_f c_law_block_by hr (by decide) (pa_cons (pe_slice o_sl (pv 0) (po_some pe_int) (po_some pe_int)) (pa_cons (pv 1) (pa_cons pe_int pa_nil)))) pa_nil))) (pss_cons (ps_set (i := 3) sc_k03.nd rfl (by first | exact Or.inl rfl | exact Or.inr rfl) (pe_f c_written hr (by decide) (pa_cons (pv 2) pa_nil))) (pss_cons (ps_if (PW.pt (pw_or (pt_not (pt_val (pe_callB o_isi (by rfl) T.z_isinstance (by decide +kernel) (pa_cons (pv 3) (pa_cons (pe_bltn (by rfl) T.z_list (by decide +kernel) rfl) pa_nil))))) (pw_or1 (pt_cmpR (o_ne hr.units) (pv 3) (pe_f c_law_lines hr (by decide) (pa_cons (pv 2) pa_nil)) (by first | exact nomark _ | rfl))))) (pss_one (ps_ret pe_bl)) pss_nil) (pss_cons (ps_set (i := 4) sc_k03.nd rfl (by first | exact Or.inl rfl | exact Or.inr rfl) (pe_callTy (o_list rfl) (by rfl) T.z_list (by decide +kernel) (pa_cons (pv 3) pa_nil))) (pss_cons (ps_if (PW.pt (pw_or (pt_not (pt_val (pe_f c_law_alike hr (by decide) (pa_cons (pe_f c_read hr (by decide) (pa_cons (pv 4) pa_nil)) (pa_cons (pv 2) pa_nil))))) (pw_or1 (pt_cmpR (o_ne hr.units) (pv 4) (pv 3) (by first | exact nomark _ | rfl))))) (pss_one (ps_ret pe_bl)) pss_nil) (pss_cons (ps_expr (pe_bm PySem.F.plainAttrs_list PySem.F.slot_list_append PySem.F.type_list_append mt_append (pv 3) (pa_cons pe_str pa_nil))) (pss_cons (ps_set (i := 5) sc_k03.nd rfl (by first | exact Or.inl rfl | exact Or.inr rfl) (pe_tup (pa_cons (pe_tup (pa_cons pe_str pa_nil)) (pa_cons (pe_tup (pa_cons pe_str (pa_cons (pe_tup (pa_cons pe_str (pa_cons (pe_ix ix_seq (pv 1) pe_int (fun _ _ => rfl)) pa_nil))) pa_nil))) pa_nil)))) (pss_cons (ps_if (PW.pt (pw_or (pt_cmpR (o_ne hr.units) (pe_f c_written hr (by decide) (pa_cons (pv 5) pa_nil)) (pe_lst (pa_cons pe_str (pa_cons (pe_op o_add pe_str (pe_ix ix_seq (pv 1) pe_int (fun _ _ => rfl))) pa_nil))) (by first | exact nomark _ | rfl)) (pw_or1 (pt_not (pt_val (pe_f c_law_alike hr (by decide) (pa_cons (pe_f c_read hr (by decide) (pa_cons (pe_lst (pa_cons pe_str (pa_cons (pe_op o_add pe_str (pe_ix ix_seq (pv 1) pe_int (fun _ _ => rfl))) pa_nil))) pa_nil)) (pa_cons (pv 5) pa_nil)))))))) (pss_one (ps_ret pe_bl)) pss_nil) (pss_cons (ps_expr (pe_bm PySem.F.plainAttrs_list PySem.F.slot_list_append PySem.F.type_list_append mt_append (pv 4) (pa_cons pe_str pa_nil))) (pss_cons (ps_set (i := 6) sc_k03.nd rfl (by first | exact Or.inl rfl | exact Or.inr rfl) (pe_f c_law_lists hr (by decide) (pa_cons (pv 2) pa_nil))) (pss_cons (ps_if (PW.pt (pw_or (pt_cmpR (o_ne hr.units) (pe_f c_written hr (by decide) (pa_cons (pv 6) pa_nil)) (pe_slice o_sl (pv 4) po_none (po_some (pe_un o_neg pe_int))) (by first | exact nomark _ | rfl)) (pw_or1 (pt_cmpR (o_ne hr.units) (pv 6) (pe_f c_law_lists hr (by decide) (pa_cons (pv 2) pa_nil)) (by first | exact nomark _ | rfl))))) (pss_one (ps_ret pe_bl)) pss_nil) (pss_one (ps_ret (pe_and (pe_f c_law_alike hr (by decide) (pa_cons (pe_f c_read hr (by decide) (pa_cons (pv 4) pa_nil)) (pa_cons (pe_op o_add (pv 2) (pe_tup (pa_cons (pe_tup (pa_cons pe_str pa_nil)) pa_nil))) pa_nil))) (pe_one (pe_cmpR (o_eq hr.units) (pe_ix ix_seq (pv 3) (pe_un o_neg pe_int) (fun _ _ => rfl)) pe_str (by first | exact nomark _ | rfl)))))))))))))))))), pure_k03 K vs H Q E h⟩
end
theorem all_mk {P : Program} {w : World} {K : PySem.W.Frag} {h : Heap} {mg : Str → Option Value} {fa : Addr} (X : K.In h) (G : h.Ns mainGlobals mg) (hfa : mg "law" = some (.ref fa))
    {f0 f1 f2 f3 f4 f5 f6 f7 f8 f9 f10 f11 f12 f13 f14 f15 f16 f17 f18 f19 f20 f21 f22 f23 f24 f25 f26 : Addr} {od0 an0 od1 an1 od2 an2 od3 an3 od4 an4 od5 an5 od6 an6 od7 an7 od8 an8 od9 an9 od10 an10 od11 an11 od12 an12 od13 an13 od14 an14 od15 an15 od16 an16 od17 an17 od18 an18 od19 an19 od20 an20 od21 an21 od22 an22 od23 an23 od24 an24 od25 an25 od26 an26 : Option Addr} {sl0 sl1 sl2 sl3 sl4 sl5 sl6 sl7 sl8 sl9 sl10 sl11 sl12 sl13 sl14 sl15 sl16 sl17 sl18 sl19 sl20 sl21 sl22 sl23 sl24 sl25 sl26 : Array (Option Value)} {oc0 kV0 dc0 pm0 cd0 ct0 oc1 kV1 dc1 pm1 cd1 ct1 oc2 kV2 dc2 pm2 cd2 ct2 oc3 kV3 dc3 pm3 cd3 ct3 oc4 kV4 dc4 pm4 cd4 ct4 oc5 kV5 dc5 pm5 cd5 ct5 oc6 kV6 dc6 pm6 cd6 ct6 oc7 kV7 dc7 pm7 cd7 ct7 oc8 kV8 dc8 pm8 cd8 ct8 oc9 kV9 dc9 pm9 cd9 ct9 oc10 kV10 dc10 pm10 cd10 ct10 oc11 kV11 dc11 pm11 cd11 ct11 oc12 kV12 dc12 pm12 cd12 ct12 oc13 kV13 dc13 pm13 cd13 ct13 oc14 kV14 dc14 pm14 cd14 ct14 oc15 kV15 dc15 pm15 cd15 ct15 oc16 kV16 dc16 pm16 cd16 ct16 oc17 kV17 dc17 pm17 cd17 ct17 oc18 kV18 dc18 pm18 cd18 ct18 oc19 kV19 dc19 pm19 cd19 ct19 oc20 kV20 dc20 pm20 cd20 ct20 oc21 kV21 dc21 pm21 cd21 ct21 oc22 kV22 dc22 pm22 cd22 ct22 oc23 kV23 dc23 pm23 cd23 ct23 oc24 kV24 dc24 pm24 cd24 ct24 oc25 kV25 dc25 pm25 cd25 ct25 oc26 kV26 dc26 pm26 cd26 ct26 : Value}
    (a0 : PySem.W.nsIn K mainGlobals "_law_mixed" = some (some (.ref f0))) (l0 : K.lookup f0 = some ⟨oc0, od0, .func (PySem.W.fnOf "_law_mixed" "_law_mixed" (defArgs s_law_mixed) (defBody s_law_mixed) (defScope s_law_mixed) .none kV0 dc0 pm0 an0 cd0 ct0), sl0⟩) (c0 : PySem.W.codeIn K cd0 "_law_mixed" = true) (k0 : PySem.W.keepIn K (.ref f0) = true)
    (a1 : PySem.W.nsIn K mainGlobals "_law_name_by" = some (some (.ref f1))) (l1 : K.lookup f1 = some ⟨oc1, od1, .func (PySem.W.fnOf "_law_name_by" "_law_name_by" (defArgs s_law_name_by) (defBody s_law_name_by) (defScope s_law_name_by) .none kV1 dc1 pm1 an1 cd1 ct1), sl1⟩) (c1 : PySem.W.codeIn K cd1 "_law_name_by" = true) (k1 : PySem.W.keepIn K (.ref f1) = true)
    (a2 : PySem.W.nsIn K mainGlobals "_law_twin" = some (some (.ref f2))) (l2 : K.lookup f2 = some ⟨oc2, od2, .func (PySem.W.fnOf "_law_twin" "_law_twin" (defArgs s_law_twin) (defBody s_law_twin) (defScope s_law_twin) .none kV2 dc2 pm2 an2 cd2 ct2), sl2⟩) (c2 : PySem.W.codeIn K cd2 "_law_twin" = true) (k2 : PySem.W.keepIn K (.ref f2) = true)
    (a3 : PySem.W.nsIn K mainGlobals "_law_names" = some (some (.ref f3))) (l3 : K.lookup f3 = some ⟨oc3, od3, .func (PySem.W.fnOf "_law_names" "_law_names" (defArgs s_law_names) (defBody s_law_names) (defScope s_law_names) .none kV3 dc3 pm3 an3 cd3 ct3), sl3⟩) (c3 : PySem.W.codeIn K cd3 "_law_names" = true) (k3 : PySem.W.keepIn K (.ref f3) = true)
    (a4 : PySem.W.nsIn K mainGlobals "_law_cell_at" = some (some (.ref f4))) (l4 : K.lookup f4 = some ⟨oc4, od4, .func (PySem.W.fnOf "_law_cell_at" "_law_cell_at" (defArgs s_law_cell_at) (defBody s_law_cell_at) (defScope s_law_cell_at) .none kV4 dc4 pm4 an4 cd4 ct4), sl4⟩) (c4 : PySem.W.codeIn K cd4 "_law_cell_at" = true) (k4 : PySem.W.keepIn K (.ref f4) = true)
    (a5 : PySem.W.nsIn K mainGlobals "_law_end_by" = some (some (.ref f5))) (l5 : K.lookup f5 = some ⟨oc5, od5, .func (PySem.W.fnOf "_law_end_by" "_law_end_by" (defArgs s_law_end_by) (defBody s_law_end_by) (defScope s_law_end_by) .none kV5 dc5 pm5 an5 cd5 ct5), sl5⟩) (c5 : PySem.W.codeIn K cd5 "_law_end_by" = true) (k5 : PySem.W.keepIn K (.ref f5) = true)
    (a6 : PySem.W.nsIn K mainGlobals "_law_formula_by" = some (some (.ref f6))) (l6 : K.lookup f6 = some ⟨oc6, od6, .func (PySem.W.fnOf "_law_formula_by" "_law_formula_by" (defArgs s_law_formula_by) (defBody s_law_formula_by) (defScope s_law_formula_by) .none kV6 dc6 pm6 an6 cd6 ct6), sl6⟩) (c6 : PySem.W.codeIn K cd6 "_law_formula_by" = true) (k6 : PySem.W.keepIn K (.ref f6) = true)
    (a7 : PySem.W.nsIn K mainGlobals "_law_all_names" = some (some (.ref f7))) (l7 : K.lookup f7 = some ⟨oc7, od7, .func (PySem.W.fnOf "_law_all_names" "_law_all_names" (defArgs s_law_all_names) (defBody s_law_all_names) (defScope s_law_all_names) .none kV7 dc7 pm7 an7 cd7 ct7), sl7⟩) (c7 : PySem.W.codeIn K cd7 "_law_all_names" = true) (k7 : PySem.W.keepIn K (.ref f7) = true)
    (a8 : PySem.W.nsIn K mainGlobals "_law_row_by" = some (some (.ref f8))) (l8 : K.lookup f8 = some ⟨oc8, od8, .func (PySem.W.fnOf "_law_row_by" "_law_row_by" (defArgs s_law_row_by) (defBody s_law_row_by) (defScope s_law_row_by) .none kV8 dc8 pm8 an8 cd8 ct8), sl8⟩) (c8 : PySem.W.codeIn K cd8 "_law_row_by" = true) (k8 : PySem.W.keepIn K (.ref f8) = true)
    (a9 : PySem.W.nsIn K mainGlobals "_law_closed" = some (some (.ref f9))) (l9 : K.lookup f9 = some ⟨oc9, od9, .func (PySem.W.fnOf "_law_closed" "_law_closed" (defArgs s_law_closed) (defBody s_law_closed) (defScope s_law_closed) .none kV9 dc9 pm9 an9 cd9 ct9), sl9⟩) (c9 : PySem.W.codeIn K cd9 "_law_closed" = true) (k9 : PySem.W.keepIn K (.ref f9) = true)
    (a10 : PySem.W.nsIn K mainGlobals "_law_put" = some (some (.ref f10))) (l10 : K.lookup f10 = some ⟨oc10, od10, .func (PySem.W.fnOf "_law_put" "_law_put" (defArgs s_law_put) (defBody s_law_put) (defScope s_law_put) .none kV10 dc10 pm10 an10 cd10 ct10), sl10⟩) (c10 : PySem.W.codeIn K cd10 "_law_put" = true) (k10 : PySem.W.keepIn K (.ref f10) = true)
    (a11 : PySem.W.nsIn K mainGlobals "_law_block_by" = some (some (.ref f11))) (l11 : K.lookup f11 = some ⟨oc11, od11, .func (PySem.W.fnOf "_law_block_by" "_law_block_by" (defArgs s_law_block_by) (defBody s_law_block_by) (defScope s_law_block_by) .none kV11 dc11 pm11 an11 cd11 ct11), sl11⟩) (c11 : PySem.W.codeIn K cd11 "_law_block_by" = true) (k11 : PySem.W.keepIn K (.ref f11) = true)
    (a12 : PySem.W.nsIn K mainGlobals "formula_text" = some (some (.ref f12))) (l12 : K.lookup f12 = some ⟨oc12, od12, .func (PySem.W.fnOf "formula_text" "formula_text" (defArgs s_formula_text) (defBody s_formula_text) (defScope s_formula_text) .none kV12 dc12 pm12 an12 cd12 ct12), sl12⟩) (c12 : PySem.W.codeIn K cd12 "formula_text" = true) (k12 : PySem.W.keepIn K (.ref f12) = true)
    (a13 : PySem.W.nsIn K mainGlobals "written" = some (some (.ref f13))) (l13 : K.lookup f13 = some ⟨oc13, od13, .func (PySem.W.fnOf "written" "written" (defArgs s_written) (defBody s_written) (defScope s_written) .none kV13 dc13 pm13 an13 cd13 ct13), sl13⟩) (c13 : PySem.W.codeIn K cd13 "written" = true) (k13 : PySem.W.keepIn K (.ref f13) = true)
    (a14 : PySem.W.nsIn K mainGlobals "_law_text" = some (some (.ref f14))) (l14 : K.lookup f14 = some ⟨oc14, od14, .func (PySem.W.fnOf "_law_text" "_law_text" (defArgs s_law_text) (defBody s_law_text) (defScope s_law_text) .none kV14 dc14 pm14 an14 cd14 ct14), sl14⟩) (c14 : PySem.W.codeIn K cd14 "_law_text" = true) (k14 : PySem.W.keepIn K (.ref f14) = true)
    (a15 : PySem.W.nsIn K mainGlobals "_law_lines" = some (some (.ref f15))) (l15 : K.lookup f15 = some ⟨oc15, od15, .func (PySem.W.fnOf "_law_lines" "_law_lines" (defArgs s_law_lines) (defBody s_law_lines) (defScope s_law_lines) .none kV15 dc15 pm15 an15 cd15 ct15), sl15⟩) (c15 : PySem.W.codeIn K cd15 "_law_lines" = true) (k15 : PySem.W.keepIn K (.ref f15) = true)
    (a16 : PySem.W.nsIn K mainGlobals "_law_alike" = some (some (.ref f16))) (l16 : K.lookup f16 = some ⟨oc16, od16, .func (PySem.W.fnOf "_law_alike" "_law_alike" (defArgs s_law_alike) (defBody s_law_alike) (defScope s_law_alike) .none kV16 dc16 pm16 an16 cd16 ct16), sl16⟩) (c16 : PySem.W.codeIn K cd16 "_law_alike" = true) (k16 : PySem.W.keepIn K (.ref f16) = true)
    (a17 : PySem.W.nsIn K mainGlobals "is_name" = some (some (.ref f17))) (l17 : K.lookup f17 = some ⟨oc17, od17, .func (PySem.W.fnOf "is_name" "is_name" (defArgs s_is_name) (defBody s_is_name) (defScope s_is_name) .none kV17 dc17 pm17 an17 cd17 ct17), sl17⟩) (c17 : PySem.W.codeIn K cd17 "is_name" = true) (k17 : PySem.W.keepIn K (.ref f17) = true)
    (a18 : PySem.W.nsIn K mainGlobals "number_of" = some (some (.ref f18))) (l18 : K.lookup f18 = some ⟨oc18, od18, .func (PySem.W.fnOf "number_of" "number_of" (defArgs s_number_of) (defBody s_number_of) (defScope s_number_of) .none kV18 dc18 pm18 an18 cd18 ct18), sl18⟩) (c18 : PySem.W.codeIn K cd18 "number_of" = true) (k18 : PySem.W.keepIn K (.ref f18) = true)
    (a19 : PySem.W.nsIn K mainGlobals "read_formula" = some (some (.ref f19))) (l19 : K.lookup f19 = some ⟨oc19, od19, .func (PySem.W.fnOf "read_formula" "read_formula" (defArgs s_read_formula) (defBody s_read_formula) (defScope s_read_formula) .none kV19 dc19 pm19 an19 cd19 ct19), sl19⟩) (c19 : PySem.W.codeIn K cd19 "read_formula" = true) (k19 : PySem.W.keepIn K (.ref f19) = true)
    (a20 : PySem.W.nsIn K mainGlobals "whole_formula" = some (some (.ref f20))) (l20 : K.lookup f20 = some ⟨oc20, od20, .func (PySem.W.fnOf "whole_formula" "whole_formula" (defArgs s_whole_formula) (defBody s_whole_formula) (defScope s_whole_formula) .none kV20 dc20 pm20 an20 cd20 ct20), sl20⟩) (c20 : PySem.W.codeIn K cd20 "whole_formula" = true) (k20 : PySem.W.keepIn K (.ref f20) = true)
    (a21 : PySem.W.nsIn K mainGlobals "need_line" = some (some (.ref f21))) (l21 : K.lookup f21 = some ⟨oc21, od21, .func (PySem.W.fnOf "need_line" "need_line" (defArgs s_need_line) (defBody s_need_line) (defScope s_need_line) .none kV21 dc21 pm21 an21 cd21 ct21), sl21⟩) (c21 : PySem.W.codeIn K cd21 "need_line" = true) (k21 : PySem.W.keepIn K (.ref f21) = true)
    (a22 : PySem.W.nsIn K mainGlobals "read_row" = some (some (.ref f22))) (l22 : K.lookup f22 = some ⟨oc22, od22, .func (PySem.W.fnOf "read_row" "read_row" (defArgs s_read_row) (defBody s_read_row) (defScope s_read_row) .none kV22 dc22 pm22 an22 cd22 ct22), sl22⟩) (c22 : PySem.W.codeIn K cd22 "read_row" = true) (k22 : PySem.W.keepIn K (.ref f22) = true)
    (a23 : PySem.W.nsIn K mainGlobals "read_block" = some (some (.ref f23))) (l23 : K.lookup f23 = some ⟨oc23, od23, .func (PySem.W.fnOf "read_block" "read_block" (defArgs s_read_block) (defBody s_read_block) (defScope s_read_block) .none kV23 dc23 pm23 an23 cd23 ct23), sl23⟩) (c23 : PySem.W.codeIn K cd23 "read_block" = true) (k23 : PySem.W.keepIn K (.ref f23) = true)
    (a24 : PySem.W.nsIn K mainGlobals "read" = some (some (.ref f24))) (l24 : K.lookup f24 = some ⟨oc24, od24, .func (PySem.W.fnOf "read" "read" (defArgs s_read) (defBody s_read) (defScope s_read) .none kV24 dc24 pm24 an24 cd24 ct24), sl24⟩) (c24 : PySem.W.codeIn K cd24 "read" = true) (k24 : PySem.W.keepIn K (.ref f24) = true)
    (a25 : PySem.W.nsIn K mainGlobals "_law_lists" = some (some (.ref f25))) (l25 : K.lookup f25 = some ⟨oc25, od25, .func (PySem.W.fnOf "_law_lists" "_law_lists" (defArgs s_law_lists) (defBody s_law_lists) (defScope s_law_lists) .none kV25 dc25 pm25 an25 cd25 ct25), sl25⟩) (c25 : PySem.W.codeIn K cd25 "_law_lists" = true) (k25 : PySem.W.keepIn K (.ref f25) = true)
    (a26 : PySem.W.nsIn K mainGlobals "law" = some (some (.ref f26))) (l26 : K.lookup f26 = some ⟨oc26, od26, .func (PySem.W.fnOf "law" "law" (defArgs s_k03) (defBody s_k03) (defScope s_k03) .none kV26 dc26 pm26 an26 cd26 ct26), sl26⟩) (c26 : PySem.W.codeIn K cd26 "law" = true) (k26 : PySem.W.keepIn K (.ref f26) = true)
    (z_range : PySem.W.nsIn K mainGlobals "range" = some none)
    (z_len : PySem.W.nsIn K mainGlobals "len" = some none)
    (z_int : PySem.W.nsIn K mainGlobals "int" = some none)
    (z_tuple : PySem.W.nsIn K mainGlobals "tuple" = some none)
    (z_enumerate : PySem.W.nsIn K mainGlobals "enumerate" = some none)
    (z_str : PySem.W.nsIn K mainGlobals "str" = some none)
    (z_isinstance : PySem.W.nsIn K mainGlobals "isinstance" = some none)
    (z_bool : PySem.W.nsIn K mainGlobals "bool" = some none)
    (z_list : PySem.W.nsIn K mainGlobals "list" = some none)
    {a_WORDS : Addr} {d_WORDS : Option Addr} {n_WORDS : Nat} {sl_WORDS : Array (Option Value)} {t_WORDS0 t_WORDS1 t_WORDS2 t_WORDS3 t_WORDS4 t_WORDS5 t_WORDS6 : Tok} (g_WORDS : PySem.W.nsIn K mainGlobals "WORDS" = some (some (.ref a_WORDS))) (l_WORDS : K.lookup a_WORDS = some ⟨.type "tuple", d_WORDS, .seq #[.str "set" t_WORDS0, .str "tell" t_WORDS1, .str "skip" t_WORDS2, .str "if" t_WORDS3, .str "else" t_WORDS4, .str "while" t_WORDS5, .str "end" t_WORDS6] n_WORDS, sl_WORDS⟩)
    {t_LETTERS : Tok} (g_LETTERS : PySem.W.nsIn K mainGlobals "LETTERS" = some (some (.str "abcdefghijklmnopqrstuvwxyz" t_LETTERS)))
    {t_FIGURES : Tok} (g_FIGURES : PySem.W.nsIn K mainGlobals "FIGURES" = some (some (.str "0123456789" t_FIGURES)))
    {a_SIGNS : Addr} {d_SIGNS : Option Addr} {n_SIGNS : Nat} {sl_SIGNS : Array (Option Value)} {t_SIGNS0 t_SIGNS1 t_SIGNS2 t_SIGNS3 t_SIGNS4 t_SIGNS5 : Tok} (g_SIGNS : PySem.W.nsIn K mainGlobals "SIGNS" = some (some (.ref a_SIGNS))) (l_SIGNS : K.lookup a_SIGNS = some ⟨.type "tuple", d_SIGNS, .seq #[.str "+" t_SIGNS0, .str "-" t_SIGNS1, .str "*" t_SIGNS2, .str "/" t_SIGNS3, .str "<" t_SIGNS4, .str "=" t_SIGNS5] n_SIGNS, sl_SIGNS⟩)
    {t_MOST_DEEP : Tok} (g_MOST_DEEP : PySem.W.nsIn K mainGlobals "MOST_DEEP" = some (some (.int 12 t_MOST_DEEP)))
    {t_DEEPEST_ROW : Tok} (g_DEEPEST_ROW : PySem.W.nsIn K mainGlobals "DEEPEST_ROW" = some (some (.int 8 t_DEEPEST_ROW)))
    : ∃ fd : FuncData, (∀ (s : Shared) (v : Value), BindsTo s fd ⟨[v], []⟩ [("_law_script", v)]) ∧ ∀ base : Heap, K.In base → base.Ns mainGlobals mg → FnOk P w K mg base CX0 41 fa fd ["_law_script"] (sp_k03 K) := by
  have e := hfa.symm.trans (PySem.W.mg_of X G a26)
  cases e
  have d0 : DefAt K mg "_law_mixed" s_law_mixed ["_law_number"] := ⟨⟨f0, _, (fun_mk (st := s_law_mixed) l0 c0 k0), PySem.W.mg_of X G a0, (fun_mk (st := s_law_mixed) l0 c0 k0).binds (ps := ["_law_number"]) fun _ _ _ _ _ _ us hl => match us, hl with | [_], _ => rfl⟩⟩
  have d1 : DefAt K mg "_law_name_by" s_law_name_by ["_law_cell"] := ⟨⟨f1, _, (fun_mk (st := s_law_name_by) l1 c1 k1), PySem.W.mg_of X G a1, (fun_mk (st := s_law_name_by) l1 c1 k1).binds (ps := ["_law_cell"]) fun _ _ _ _ _ _ us hl => match us, hl with | [_], _ => rfl⟩⟩
  have d2 : DefAt K mg "_law_twin" s_law_twin ["_law_name", "_law_cell"] := ⟨⟨f2, _, (fun_mk (st := s_law_twin) l2 c2 k2), PySem.W.mg_of X G a2, (fun_mk (st := s_law_twin) l2 c2 k2).binds (ps := ["_law_name", "_law_cell"]) fun _ _ _ _ _ _ us hl => match us, hl with | [_, _], _ => rfl⟩⟩
  have d3 : DefAt K mg "_law_names" s_law_names ["_law_one", "_law_other"] := ⟨⟨f3, _, (fun_mk (st := s_law_names) l3 c3 k3), PySem.W.mg_of X G a3, (fun_mk (st := s_law_names) l3 c3 k3).binds (ps := ["_law_one", "_law_other"]) fun _ _ _ _ _ _ us hl => match us, hl with | [_, _], _ => rfl⟩⟩
  have d4 : DefAt K mg "_law_cell_at" s_law_cell_at ["_law_script", "_law_k"] := ⟨⟨f4, _, (fun_mk (st := s_law_cell_at) l4 c4 k4), PySem.W.mg_of X G a4, (fun_mk (st := s_law_cell_at) l4 c4 k4).binds (ps := ["_law_script", "_law_k"]) fun _ _ _ _ _ _ us hl => match us, hl with | [_, _], _ => rfl⟩⟩
  have d5 : DefAt K mg "_law_end_by" s_law_end_by ["_law_number", "_law_names_here"] := ⟨⟨f5, _, (fun_mk (st := s_law_end_by) l5 c5 k5), PySem.W.mg_of X G a5, (fun_mk (st := s_law_end_by) l5 c5 k5).binds (ps := ["_law_number", "_law_names_here"]) fun _ _ _ _ _ _ us hl => match us, hl with | [_, _], _ => rfl⟩⟩
  have d6 : DefAt K mg "_law_formula_by" s_law_formula_by ["_law_number", "_law_names_here", "_law_low", "_law_divide", "_law_left"] := ⟨⟨f6, _, (fun_mk (st := s_law_formula_by) l6 c6 k6), PySem.W.mg_of X G a6, (fun_mk (st := s_law_formula_by) l6 c6 k6).binds (ps := ["_law_number", "_law_names_here", "_law_low", "_law_divide", "_law_left"]) fun _ _ _ _ _ _ us hl => match us, hl with | [_, _, _, _, _], _ => rfl⟩⟩
  have d7 : DefAt K mg "_law_all_names" s_law_all_names ["_law_formula"] := ⟨⟨f7, _, (fun_mk (st := s_law_all_names) l7 c7 k7), PySem.W.mg_of X G a7, (fun_mk (st := s_law_all_names) l7 c7 k7).binds (ps := ["_law_formula"]) fun _ _ _ _ _ _ us hl => match us, hl with | [_], _ => rfl⟩⟩
  have d8 : DefAt K mg "_law_row_by" s_law_row_by ["_law_names_here", "_law_more", "_law_dark", "_law_mode"] := ⟨⟨f8, _, (fun_mk (st := s_law_row_by) l8 c8 k8), PySem.W.mg_of X G a8, (fun_mk (st := s_law_row_by) l8 c8 k8).binds (ps := ["_law_names_here", "_law_more", "_law_dark", "_law_mode"]) fun _ _ _ _ _ _ us hl => match us, hl with | [_, _, _, _], _ => rfl⟩⟩
  have d9 : DefAt K mg "_law_closed" s_law_closed ["_law_stack"] := ⟨⟨f9, _, (fun_mk (st := s_law_closed) l9 c9 k9), PySem.W.mg_of X G a9, (fun_mk (st := s_law_closed) l9 c9 k9).binds (ps := ["_law_stack"]) fun _ _ _ _ _ _ us hl => match us, hl with | [_], _ => rfl⟩⟩
  have d10 : DefAt K mg "_law_put" s_law_put ["_law_stack", "_law_names_here", "_law_more", "_law_mode"] := ⟨⟨f10, _, (fun_mk (st := s_law_put) l10 c10 k10), PySem.W.mg_of X G a10, (fun_mk (st := s_law_put) l10 c10 k10).binds (ps := ["_law_stack", "_law_names_here", "_law_more", "_law_mode"]) fun _ _ _ _ _ _ us hl => match us, hl with | [_, _, _, _], _ => rfl⟩⟩
  have d11 : DefAt K mg "_law_block_by" s_law_block_by ["_law_cells", "_law_names_here", "_law_loose"] := ⟨⟨f11, _, (fun_mk (st := s_law_block_by) l11 c11 k11), PySem.W.mg_of X G a11, (fun_mk (st := s_law_block_by) l11 c11 k11).binds (ps := ["_law_cells", "_law_names_here", "_law_loose"]) fun _ _ _ _ _ _ us hl => match us, hl with | [_, _, _], _ => rfl⟩⟩
  have d12 : DefAt K mg "formula_text" s_formula_text ["formula"] := ⟨⟨f12, _, (fun_mk (st := s_formula_text) l12 c12 k12), PySem.W.mg_of X G a12, (fun_mk (st := s_formula_text) l12 c12 k12).binds (ps := ["formula"]) fun _ _ _ _ _ _ us hl => match us, hl with | [_], _ => rfl⟩⟩
  have d13 : DefAt K mg "written" s_written ["block"] := ⟨⟨f13, _, (fun_mk (st := s_written) l13 c13 k13), PySem.W.mg_of X G a13, (fun_mk (st := s_written) l13 c13 k13).binds (ps := ["block"]) fun _ _ _ _ _ _ us hl => match us, hl with | [_], _ => rfl⟩⟩
  have d14 : DefAt K mg "_law_text" s_law_text ["_law_formula"] := ⟨⟨f14, _, (fun_mk (st := s_law_text) l14 c14 k14), PySem.W.mg_of X G a14, (fun_mk (st := s_law_text) l14 c14 k14).binds (ps := ["_law_formula"]) fun _ _ _ _ _ _ us hl => match us, hl with | [_], _ => rfl⟩⟩
  have d15 : DefAt K mg "_law_lines" s_law_lines ["_law_block"] := ⟨⟨f15, _, (fun_mk (st := s_law_lines) l15 c15 k15), PySem.W.mg_of X G a15, (fun_mk (st := s_law_lines) l15 c15 k15).binds (ps := ["_law_block"]) fun _ _ _ _ _ _ us hl => match us, hl with | [_], _ => rfl⟩⟩
  have d16 : DefAt K mg "_law_alike" s_law_alike ["_law_told", "_law_due"] := ⟨⟨f16, _, (fun_mk (st := s_law_alike) l16 c16 k16), PySem.W.mg_of X G a16, (fun_mk (st := s_law_alike) l16 c16 k16).binds (ps := ["_law_told", "_law_due"]) fun _ _ _ _ _ _ us hl => match us, hl with | [_, _], _ => rfl⟩⟩
  have d17 : DefAt K mg "is_name" s_is_name ["thing"] := ⟨⟨f17, _, (fun_mk (st := s_is_name) l17 c17 k17), PySem.W.mg_of X G a17, (fun_mk (st := s_is_name) l17 c17 k17).binds (ps := ["thing"]) fun _ _ _ _ _ _ us hl => match us, hl with | [_], _ => rfl⟩⟩
  have d18 : DefAt K mg "number_of" s_number_of ["word"] := ⟨⟨f18, _, (fun_mk (st := s_number_of) l18 c18 k18), PySem.W.mg_of X G a18, (fun_mk (st := s_number_of) l18 c18 k18).binds (ps := ["word"]) fun _ _ _ _ _ _ us hl => match us, hl with | [_], _ => rfl⟩⟩
  have d19 : DefAt K mg "read_formula" s_read_formula ["words", "at", "left"] := ⟨⟨f19, _, (fun_mk (st := s_read_formula) l19 c19 k19), PySem.W.mg_of X G a19, (fun_mk (st := s_read_formula) l19 c19 k19).binds (ps := ["words", "at", "left"]) fun _ _ _ _ _ _ us hl => match us, hl with | [_, _, _], _ => rfl⟩⟩
  have d20 : DefAt K mg "whole_formula" s_whole_formula ["words"] := ⟨⟨f20, _, (fun_mk (st := s_whole_formula) l20 c20 k20), PySem.W.mg_of X G a20, (fun_mk (st := s_whole_formula) l20 c20 k20).binds (ps := ["words"]) fun _ _ _ _ _ _ us hl => match us, hl with | [_], _ => rfl⟩⟩
  have d21 : DefAt K mg "need_line" s_need_line ["lines", "at", "line"] := ⟨⟨f21, _, (fun_mk (st := s_need_line) l21 c21 k21), PySem.W.mg_of X G a21, (fun_mk (st := s_need_line) l21 c21 k21).binds (ps := ["lines", "at", "line"]) fun _ _ _ _ _ _ us hl => match us, hl with | [_, _, _], _ => rfl⟩⟩
  have d22 : DefAt K mg "read_row" s_read_row ["lines", "at", "deep"] := ⟨⟨f22, _, (fun_mk (st := s_read_row) l22 c22 k22), PySem.W.mg_of X G a22, (fun_mk (st := s_read_row) l22 c22 k22).binds (ps := ["lines", "at", "deep"]) fun _ _ _ _ _ _ us hl => match us, hl with | [_, _, _], _ => rfl⟩⟩
  have d23 : DefAt K mg "read_block" s_read_block ["lines", "at", "deep"] := ⟨⟨f23, _, (fun_mk (st := s_read_block) l23 c23 k23), PySem.W.mg_of X G a23, (fun_mk (st := s_read_block) l23 c23 k23).binds (ps := ["lines", "at", "deep"]) fun _ _ _ _ _ _ us hl => match us, hl with | [_, _, _], _ => rfl⟩⟩
  have d24 : DefAt K mg "read" s_read ["lines"] := ⟨⟨f24, _, (fun_mk (st := s_read) l24 c24 k24), PySem.W.mg_of X G a24, (fun_mk (st := s_read) l24 c24 k24).binds (ps := ["lines"]) fun _ _ _ _ _ _ us hl => match us, hl with | [_], _ => rfl⟩⟩
  have d25 : DefAt K mg "_law_lists" s_law_lists ["_law_block"] := ⟨⟨f25, _, (fun_mk (st := s_law_lists) l25 c25 k25), PySem.W.mg_of X G a25, (fun_mk (st := s_law_lists) l25 c25 k25).binds (ps := ["_law_block"]) fun _ _ _ _ _ _ us hl => match us, hl with | [_], _ => rfl⟩⟩
  have T : Top K mg := ⟨d0, d1, d2, d3, d4, d5, d6, d7, d8, d9, d10, d11, d12, d13, d14, d15, d16, d17, d18, d19, d20, d21, d22, d23, d24, d25, PySem.W.mg_none_of X G z_range, PySem.W.mg_none_of X G z_len, PySem.W.mg_none_of X G z_int, PySem.W.mg_none_of X G z_tuple, PySem.W.mg_none_of X G z_enumerate, PySem.W.mg_none_of X G z_str, PySem.W.mg_none_of X G z_isinstance, PySem.W.mg_none_of X G z_bool, PySem.W.mg_none_of X G z_list, ⟨_, PySem.W.mg_of X G g_WORDS, fun H => .inr ⟨_, _, _, l_WORDS, rfl, rfl, show 7 ≤ sizeLine from by decide, .cons ⟨_, rfl⟩ (.cons ⟨_, rfl⟩ (.cons ⟨_, rfl⟩ (.cons ⟨_, rfl⟩ (.cons ⟨_, rfl⟩ (.cons ⟨_, rfl⟩ (.cons ⟨_, rfl⟩ (.nil)))))))⟩⟩, ⟨_, PySem.W.mg_of X G g_LETTERS⟩, ⟨_, PySem.W.mg_of X G g_FIGURES⟩, ⟨_, PySem.W.mg_of X G g_SIGNS, fun H => .inr ⟨_, _, _, l_SIGNS, rfl, rfl, show 6 ≤ sizeLine from by decide, .cons ⟨_, rfl⟩ (.cons ⟨_, rfl⟩ (.cons ⟨_, rfl⟩ (.cons ⟨_, rfl⟩ (.cons ⟨_, rfl⟩ (.cons ⟨_, rfl⟩ (.nil))))))⟩⟩, ⟨_, PySem.W.mg_of X G g_MOST_DEEP⟩, ⟨_, PySem.W.mg_of X G g_DEEPEST_ROW⟩⟩
  exact ⟨PySem.W.fnOf "law" "law" (defArgs s_k03) (defBody s_k03) (defScope s_k03) .none kV26 dc26 pm26 an26 cd26 ct26, fun s v => .of_eq rfl, fun base _ _ => ok_law T (fun_mk (st := s_k03) l26 c26 k26)⟩
theorem walk {l : PySem.W.OpenLaw} {q : Program} {loose : List Str} {XP : (Str → Option Value) → Heap → Prop} {YP : World → Heap → Prop} {d : DefRec} {K : Params → PySem.W.Frag} (hn : l.most = some 63) (hdf : d.params.defaults = [])
    (hY : ∀ (w : World) (h : Heap), YP w h → (K w.params).In h)
    (F : ∀ (w : World) (mg : Str → Option Value) (fa : Addr) (h : Heap), (K w.params).In h → h.Ns mainGlobals mg → mg d.name = some (.ref fa) →
      ∃ fd : FuncData, (∀ (s : Shared) (u : Value), BindsTo s fd ⟨[u], []⟩ [("_law_script", u)]) ∧ ∀ base : Heap, (K w.params).In base → base.Ns mainGlobals mg → FnOk l.prog w (K w.params) mg base CX0 41 fa fd ["_law_script"] (sp_k03 (K w.params))) :
    PySem.W.WalkO q loose XP YP l.row.toRowW d [] (fun f vs => PySem.call f vs) :=
  L2.walk_of (n := 63) (k := 41) (x := "_law_script") (CX := fun _ => CX0) (sp := fun w => sp_k03 (K w.params)) hn (by decide) hdf ⟨rfl, by decide, by decide⟩ hY F (fun w H a ns hl ho hS => law_in_k03 (K w.params) H a ns hl hS) fun _ _ _ _ _ z => z
end Hu
open PySem PySem.W PyProof.Rows
set_option maxRecDepth 100000 in
set_option maxHeartbeats 0 in
theorem PySem.Challenge.cw_hushkind_k03_blocks_written_holds : PySem.Challenge.rw_hushkind_k03_blocks_written.Holds := by
  w_on; o_law; k_head; (case hw => w_witness2)
  k_fill
  refine Hu.walk (l := PySem.Challenge.rw_hushkind_k03_blocks_written) rfl rfl (fun w h Y => PySem.W.kIn_of Y) ?F
  case F =>
    intro w mg fa h KX G hmg
    refine' Hu.all_mk KX G hmg ?a0 ?l0 ?c0 ?k0 ?a1 ?l1 ?c1 ?k1 ?a2 ?l2 ?c2 ?k2 ?a3 ?l3 ?c3 ?k3 ?a4 ?l4 ?c4 ?k4 ?a5 ?l5 ?c5 ?k5 ?a6 ?l6 ?c6 ?k6 ?a7 ?l7 ?c7 ?k7 ?a8 ?l8 ?c8 ?k8 ?a9 ?l9 ?c9 ?k9 ?a10 ?l10 ?c10 ?k10 ?a11 ?l11 ?c11 ?k11 ?a12 ?l12 ?c12 ?k12 ?a13 ?l13 ?c13 ?k13 ?a14 ?l14 ?c14 ?k14 ?a15 ?l15 ?c15 ?k15 ?a16 ?l16 ?c16 ?k16 ?a17 ?l17 ?c17 ?k17 ?a18 ?l18 ?c18 ?k18 ?a19 ?l19 ?c19 ?k19 ?a20 ?l20 ?c20 ?k20 ?a21 ?l21 ?c21 ?k21 ?a22 ?l22 ?c22 ?k22 ?a23 ?l23 ?c23 ?k23 ?a24 ?l24 ?c24 ?k24 ?a25 ?l25 ?c25 ?k25 ?a26 ?l26 ?c26 ?k26 ?z_range ?z_len ?z_int ?z_tuple ?z_enumerate ?z_str ?z_isinstance ?z_bool ?z_list ?g_WORDS ?l_WORDS ?g_LETTERS ?g_FIGURES ?g_SIGNS ?l_SIGNS ?g_MOST_DEEP ?g_DEEPEST_ROW
    (case a0 => k_is)
    (case l0 => k_is)
    (case c0 => k_is)
    (case k0 => k_is)
    (case a1 => k_is)
    (case l1 => k_is)
    (case c1 => k_is)
    (case k1 => k_is)
    (case a2 => k_is)
    (case l2 => k_is)
    (case c2 => k_is)
    (case k2 => k_is)
    (case a3 => k_is)
    (case l3 => k_is)
    (case c3 => k_is)
    (case k3 => k_is)
    (case a4 => k_is)
    (case l4 => k_is)
    (case c4 => k_is)
    (case k4 => k_is)
    (case a5 => k_is)
    (case l5 => k_is)
    (case c5 => k_is)
    (case k5 => k_is)
    (case a6 => k_is)
    (case l6 => k_is)
    (case c6 => k_is)
    (case k6 => k_is)
    (case a7 => k_is)
    (case l7 => k_is)
    (case c7 => k_is)
    (case k7 => k_is)
    (case a8 => k_is)
    (case l8 => k_is)
    (case c8 => k_is)
    (case k8 => k_is)
    (case a9 => k_is)
    (case l9 => k_is)
    (case c9 => k_is)
    (case k9 => k_is)
    (case a10 => k_is)
    (case l10 => k_is)
    (case c10 => k_is)
    (case k10 => k_is)
    (case a11 => k_is)
    (case l11 => k_is)
    (case c11 => k_is)
    (case k11 => k_is)
    (case a12 => k_is)
    (case l12 => k_is)
    (case c12 => k_is)
    (case k12 => k_is)
    (case a13 => k_is)
    (case l13 => k_is)
    (case c13 => k_is)
    (case k13 => k_is)
    (case a14 => k_is)
    (case l14 => k_is)
    (case c14 => k_is)
    (case k14 => k_is)
    (case a15 => k_is)
    (case l15 => k_is)
    (case c15 => k_is)
    (case k15 => k_is)
    (case a16 => k_is)
    (case l16 => k_is)
    (case c16 => k_is)
    (case k16 => k_is)
    (case a17 => k_is)
    (case l17 => k_is)
    (case c17 => k_is)
    (case k17 => k_is)
    (case a18 => k_is)
    (case l18 => k_is)
    (case c18 => k_is)
    (case k18 => k_is)
    (case a19 => k_is)
    (case l19 => k_is)
    (case c19 => k_is)
    (case k19 => k_is)
    (case a20 => k_is)
    (case l20 => k_is)
    (case c20 => k_is)
    (case k20 => k_is)
    (case a21 => k_is)
    (case l21 => k_is)
    (case c21 => k_is)
    (case k21 => k_is)
    (case a22 => k_is)
    (case l22 => k_is)
    (case c22 => k_is)
    (case k22 => k_is)
    (case a23 => k_is)
    (case l23 => k_is)
    (case c23 => k_is)
    (case k23 => k_is)
    (case a24 => k_is)
    (case l24 => k_is)
    (case c24 => k_is)
    (case k24 => k_is)
    (case a25 => k_is)
    (case l25 => k_is)
    (case c25 => k_is)
    (case k25 => k_is)
    (case a26 => k_is)
    (case l26 => k_is)
    (case c26 => k_is)
    (case k26 => k_is)
    (case z_range => k_is)
    (case z_len => k_is)
    (case z_int => k_is)
    (case z_tuple => k_is)
    (case z_enumerate => k_is)
    (case z_str => k_is)
    (case z_isinstance => k_is)
    (case z_bool => k_is)
    (case z_list => k_is)
    (case g_WORDS => k_is)
    (case l_WORDS => k_is)
    (case g_LETTERS => k_is)
    (case g_FIGURES => k_is)
    (case g_SIGNS => k_is)
    (case l_SIGNS => k_is)
    (case g_MOST_DEEP => k_is)
    (case g_DEEPEST_ROW => k_is)
#print axioms PySem.Challenge.cw_hushkind_k03_blocks_written_holds
