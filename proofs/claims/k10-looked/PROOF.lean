import PyProof.Rows.All
import Wide.All
import OpenK.AllK
import Wide.FinOn
import HandS.ForMost
import HandS.TupAny
import HandS.IsInst
import HandS.Codes
import HandS.More
import HandS.Small
import HandS.DictComp
import HandS.DeepEq
import HandS.SetFor
import HandS.Strs
import HandS.Walk
import HandS.Rev
import HandS.Codes
import HandS.Finally
import PyProof.ListRange
import PyProof.Rows.SortShellAny
import PySem.Challenge.RW_hushkind_k10_looked
set_option Elab.async false
set_option linter.all false
set_option maxRecDepth 100000
set_option maxHeartbeats 4000000
namespace Hu
open PySem PySem.Spec PyProof.Rows L2
def rAddI : R2 := rI0 fun i j => .int (i + j)
def rAddT : R2 := fun x y H Q => ∃ i j, x = .str i ∧ y = .str j ∧ i.length + j.length ≤ sizeLine ∧ Q (.str (i ++ j)) H
def rAdd (K : PySem.W.Frag) : R2 := fun x y H Q => rAddI x y H Q ∨ rAddT x y H Q ∨ rCat x y H Q ∨ rCatA K x y H Q
def rSub : R2 := rI0 fun i j => .int (i - j)
def rMulI : R2 := rI CMul fun i j => .int (i * j)
def rMul : R2 := fun x y H Q => rMulI x y H Q ∨ rRep x y H Q
def rMod : R2 := rI (fun _ j => 0 < j) fun i j => .int (i % j)
def rDiv : R2 := rI CDiv fun i j => .int (i / j)
def rPow : R2 := rI CPow fun i j => .int (i ^ j.toNat)
def rLt : R2 := rI0 fun i j => .bl (decide (i < j))
def rLe : R2 := rI0 fun i j => .bl (decide (i ≤ j))
def rGt : R2 := rI0 fun i j => .bl (decide (j < i))
def rGe : R2 := rI0 fun i j => .bl (decide (j ≤ i))
def rEq2 (K : PySem.W.Frag) : R2 := fun x y H Q => rEq x y H Q ∨ rEqD K x y H Q ∨ rEqDA x y H Q ∨ rEqV K x y H Q
def rNe2 (K : PySem.W.Frag) : R2 := fun x y H Q => rNe x y H Q ∨ rNeD K x y H Q ∨ rNeDA x y H Q
def rInSg (neg : Bool) : R2 := fun x y H Q => ∃ (c : Nat) (z : Str), x = .str ⟨#[c]⟩ ∧ y = .str z ∧ Q (.bl (if neg then !decide (c ∈ z.cps.toList) else decide (c ∈ z.cps.toList))) H
def rIn2 (K : PySem.W.Frag) (neg : Bool) : R2 := fun x y H Q => rIn K neg x y H Q ∨ rInSg neg x y H Q
def rDIn (neg : Bool) : R2 := fun y x H Q => ∃ a o, x = .ref a ∧ DGet H a y o ∧ Q (.bl (if neg then !o.isSome else o.isSome)) H
def rIsN2 (neg : Bool) : R2 := fun x y H Q => y = .non ∧ Q (.bl (if neg then !decide (x = .non) else decide (x = .non))) H
def rNeg : V → Hp → VK → Prop := rU fun i => .int (-i)
def rSl (K : PySem.W.Frag) : V → Option Int → Option Int → Hp → VK → Prop := fun x lo hi H Q => rSlL K x lo hi H Q ∨ rSlA K x lo hi H Q ∨ C8.rSlX x lo hi H Q
def rLenA (K : PySem.W.Frag) : List V → Hp → VK → Prop := fun xs H Q => ∃ x n, xs = [x] ∧ LenV K x H n ∧ Q (.int (n : Nat)) H
def rIntB : List V → Hp → VK → Prop := fun xs H Q => (∃ i, xs = [.int i] ∧ Q (.int i) H) ∨ ∃ k, xs = [.bl k] ∧ Q (.int (if k then 1 else 0)) H
def rIntS : List V → Hp → VK → Prop := fun xs H Q => ∃ a n, xs = [.str a] ∧ PySem.intText? a = some n ∧ a.length ≤ 640 ∧ Q (.int n) H
def rInt : List V → Hp → VK → Prop := fun xs H Q => rIntB xs H Q ∨ rIntS xs H Q
def rStr : List V → Hp → VK → Prop := fun xs H Q => ∃ i, xs = [.int i] ∧ i.natAbs.log2 < 1920 ∧ Q (.str (toString i)) H
def rListS (K : PySem.W.Frag) : List V → Hp → VK → Prop := fun xs H Q => ∃ p ys, xs = [.ref p] ∧ (SqL K H p ys ∨ SqT K H p ys) ∧ ∀ l, H l = none → Q (.ref l) (upd H l (.lst ys))
def rListD : List V → Hp → VK → Prop := fun xs H Q => ∃ (a : Addr) (kvs : List (Key × V)), xs = [.ref a] ∧ Rd H a (.dK kvs) ∧ ∀ p, H p = none → Q (.ref p) (upd H p (.lst (kvs.map fun kv => kV kv.1)))
def rList (K : PySem.W.Frag) : List V → Hp → VK → Prop := fun xs H Q => rListS K xs H Q ∨ rListD xs H Q
def rTupO (K : PySem.W.Frag) : List V → Hp → VK → Prop := fun xs H Q => ∃ p ys, xs = [.ref p] ∧ ((SqL K H p ys ∧ ∀ l, H l = none → Q (.ref l) (upd H l (.tup ys))) ∨ (SqT K H p ys ∧ Q (.ref p) H))
def rIsi2 (K : PySem.W.Frag) : List V → Hp → VK → Prop := fun xs H Q => rIsi K xs H Q ∨ rIsiT K xs H Q
section
variable {X : Cx}
theorem o_add : OpR X (binaryOp .Add) (rAdd X.K) := OpR.or op_add (OpR.or op_add_str (OpR.or op_cat op_catA))
theorem o_sub : OpR X (binaryOp .Sub) rSub := op_sub
theorem o_mul : OpR X (binaryOp .Mult) rMul := OpR.or op_mul op_rep
theorem o_mod : OpR X (binaryOp .Mod) rMod := op_mod
theorem o_div : OpR X (binaryOp .FloorDiv) rDiv := op_fdiv
theorem o_pow : OpR X (binaryOp .Pow) rPow := op_pow
theorem o_lt : OpR X (compareOp .Lt) rLt := op_lt
theorem o_le : OpR X (compareOp .LtE) rLe := op_le
theorem o_gt : OpR X (compareOp .Gt) rGt := op_gt
theorem o_eq (hu : X.A.units + 64 < cLine) : OpR X (compareOp .Eq) (rEq2 X.K) := OpR.or op_eq (OpR.or (op_eqD hu) (OpR.or (op_eq_dictA (Nat.lt_of_le_of_lt (Nat.le_add_right _ _) hu)) (op_eqV hu)))
theorem o_ne (hu : X.A.units + 64 < cLine) : OpR X (compareOp .NotEq) (rNe2 X.K) := OpR.or op_ne (OpR.or (op_neD hu) (op_ne_dictA (Nat.lt_of_le_of_lt (Nat.le_add_right _ _) hu)))
theorem o_in : OpR X (compareOp .In) (rIn2 X.K false) := OpR.or op_in_seq op_in_sign
theorem o_nin : OpR X (compareOp .NotIn) (rIn2 X.K true) := OpR.or op_notIn_seq op_notIn_sign
theorem o_din (hu : X.A.units + 64 < cLine) : OpR X (compareOp .In) (rDIn false) := by
  intro pins s σ H y x v u Q I ry rx h
  obtain ⟨a, o, hx, g, q⟩ := h
  subst hx
  cases rx
  exact d_in (Nat.lt_of_le_of_lt (Nat.add_le_add_left (by decide) _) hu) I g ry fun s3 I3 => ⟨.bl o.isSome, H, I3, rfl, q⟩
theorem o_ndin (hu : X.A.units + 64 < cLine) : OpR X (compareOp .NotIn) (rDIn true) := by
  intro pins s σ H y x v u Q I ry rx h
  obtain ⟨a, o, hx, g, q⟩ := h
  subst hx
  cases rx
  exact d_notIn (Nat.lt_of_le_of_lt (Nat.add_le_add_left (by decide) _) hu) I g ry fun s3 I3 => ⟨.bl (!o.isSome), H, I3, rfl, q⟩
theorem o_isN : OpR X (compareOp .Is) (rIsN2 false) := op_isN
theorem o_notN : OpR X (compareOp .IsNot) (rIsN2 true) := op_notN
theorem o_neg : UnR X (unaryOp .USub) rNeg := un_neg
theorem o_sl : SlR X (rSl X.K) := SlR.or sl_list (SlR.or sl_tupA C8.sl_txt)
theorem o_len : CallR X (.builtin "len") (rLenA X.K) := call_len
theorem o_int : CallR X (.type "int") rInt := CallR.or call_int1 call_int_str
theorem o_str : CallR X (.type "str") rStr := call_str_int
theorem o_list (hc : X.calm = true) : CallR X (.type "list") (rList X.K) := CallR.or call_list_of (call_listD hc)
theorem o_tuple : CallR X (.type "tuple") (rTupO X.K) := call_tuple_of
theorem o_isi : CallR X (.builtin "isinstance") (rIsi2 X.K) := CallR.or call_isi call_isiT
end
theorem pe_globI {X : Cx} {x : Str} {i : Int} {pos : Pos} (hg : Gl X x) (hm : ∃ t, X.mg x = some (.int i t)) (hd : (x == ("__debug__" : Str)) = false := by decide) : PE X (.Name x pos) (tC (.int i)) := by
  obtain ⟨t, hm⟩ := hm
  exact pe_glob hg hm ⟨t, rfl⟩ hd
theorem pe_globS {X : Cx} {x z : Str} {pos : Pos} (hg : Gl X x) (hm : ∃ t, X.mg x = some (.str z t)) (hd : (x == ("__debug__" : Str)) = false := by decide) : PE X (.Name x pos) (tC (.str z)) := by
  obtain ⟨t, hm⟩ := hm
  exact pe_glob hg hm ⟨t, rfl⟩ hd
def iSeq (K : PySem.W.Frag) (tl : TE) : TI := fun σ H R => tl σ H fun x H1 => ∃ a, x = .ref a ∧ (((∃ xs, SqL K H1 a xs) ∧ R (Itl K a) H1) ∨ ((∃ xs, SqT K H1 a xs) ∧ R (Itt K a) H1))
section
variable {X : Cx} {tg : Expr}
theorem pi_seq {l : Expr} {tl : TE} (hl : PE X l tl) : PI X tg l (iSeq X.K tl) := by
  refine ⟨fun pins s σ H R I h => ?_⟩
  refine thn (hl.run pins s σ H _ I h) fun v s1 ⟨x, H1, I1, r1, q1⟩ => ?_
  obtain ⟨a, e, q⟩ := q1
  subst e
  cases r1
  rcases q with ⟨⟨xs, hq⟩, q⟩ | ⟨⟨xs, hq⟩, q⟩
  · obtain ⟨its, rv, pl, _⟩ := I1.list hq
    refine wpAny_pyIter_list pl.isList ?_
    refine ⟨s1.heap.objs.size, [s1.heap.objs.size], _, _, H1, rfl, I1.kept (t' := s1.toks) fun b o e => Heap.get?_push_of_some _ e, turn_list a _, ⟨_, Heap.get?_push_size _ rfl, rfl, rfl⟩, fun b hb => ?_, q⟩
    obtain rfl : b = s1.heap.objs.size := by simpa using hb
    exact I1.fpOk (Nat.le_refl _) (I1.hok.fresh (Nat.le_refl _))
  · obtain ⟨its, rv, pt, _⟩ := I1.tuple hq
    refine wpAny_pyIter_tuple (show s1.heap.IsTuple a its.toArray from pt) ?_
    refine ⟨s1.heap.objs.size, [s1.heap.objs.size], _, _, H1, rfl, I1.kept (t' := s1.toks) fun b o e => Heap.get?_push_of_some _ e, turn_tuple a _, ⟨_, Heap.get?_push_size _ rfl, rfl, rfl⟩, fun b hb => ?_, q⟩
    obtain rfl : b = s1.heap.objs.size := by simpa using hb
    exact I1.fpOk (Nat.le_refl _) (I1.hok.fresh (Nat.le_refl _))
end
structure Cal (P : Program) (w : World) (K : PySem.W.Frag) (mg : Str → Option Value) (base : Heap) (k : Nat) (x : Str) (sp : Sp) : Prop where
  ex : ∃ (f : Addr) (fd : FuncData) (ps : List Str), FnOk P w K mg base CX0 k f fd ps sp ∧ mg x = some (.ref f) ∧ PySem.W.keepIn K (.ref f) = true ∧ Binds K fd ps []
theorem Cal.mono {P : Program} {w : World} {K : PySem.W.Frag} {mg : Str → Option Value} {base : Heap} {j k : Nat} {x : Str} {sp : Sp} (c : Cal P w K mg base j x sp) (h : j ≤ k) : Cal P w K mg base k x sp := by
  obtain ⟨f, fd, ps, F, r⟩ := c.ex
  exact ⟨f, fd, ps, F.mono h, r⟩
theorem Cal.imp {P : Program} {w : World} {K : PySem.W.Frag} {mg : Str → Option Value} {base : Heap} {k : Nat} {x : Str} {sp sp' : Sp} (c : Cal P w K mg base k x sp) (h : ∀ vs H Q E, sp' vs H Q E → sp vs H Q E) : Cal P w K mg base k x sp' := by
  obtain ⟨f, fd, ps, F, r⟩ := c.ex
  exact ⟨f, fd, ps, F.imp h, r⟩
/-- a def of the top -/
structure DefAt (K : PySem.W.Frag) (mg : Str → Option Value) (x : Str) (st : Stmt) (ps : List Str) : Prop where
  ex : ∃ (f : Addr) (fd : FuncData), Fun K x x st f fd ∧ mg x = some (.ref f) ∧ Binds K fd ps []
section
variable {P : Program} {w : World} {K : PySem.W.Frag} {mg : Str → Option Value} {base : Heap}
theorem cal_of {x : Str} {st : Stmt} {N ps : List Str} {k : Nat} {sp : Sp} (D : DefAt K mg x st ps) (S : FnScope N ps (defScope st)) (len : ∀ vs H Q E, sp vs H Q E → vs.length = ps.length)
    (hbody : ∀ (f : Addr) (cdv : Value) (A : Around) (outer : List Env) (s : Shared) (H : Hp) (vs : List V) (Q : VK) (E : XK), Room k (A.deeper (envOfC x (defScope st) s.heap.objs.size f cdv)) → sp vs H Q E →
      ∃ t, PSs (cxOf CX0 P w K mg base N x (defScope st) f cdv A outer s H E).nox (defBody st) t ∧ t { nx := fun _ H' => Q .non H', rt := Q } (start N vs) H) : Cal P w K mg base (k + 1) x sp := by
  obtain ⟨f, fd, F, m, b⟩ := D.ex
  exact ⟨f, fd, ps, F.ok S len fun cdv A outer s H vs Q E => hbody f cdv A outer s H vs Q E, m, F.kp, b⟩
/-- nothing is promised: a def at no depth -/
theorem cal_none {x : Str} {st : Stmt} {ps : List Str} {k : Nat} {sp : Sp} (D : DefAt K mg x st ps) (no : ∀ vs H Q E, ¬ sp vs H Q E) : Cal P w K mg base k x sp := by
  obtain ⟨f, fd, F, m, b⟩ := D.ex
  exact ⟨f, fd, ps, ⟨fun vs H Q E h => absurd h (no vs H Q E), fun A outer s H args us vs Q E _ _ _ _ h => absurd h (no vs H Q E)⟩, m, F.kp, b⟩
end
section
variable {X : Cx} {k j : Nat} {x : Str} {sp : Sp} {p pos : Pos} {e : Expr} {es : List Expr} {t : TA}
def tF (sp : Sp) (t : TA) : TE := fun σ H Q => t σ H fun vs H1 => sp vs H1 Q E0
theorem pe_f (c : Cal X.prog X.w X.K X.mg X.base k x sp) (hr : Room j X.A) (hk : k ≤ j) (ha : PA X (e :: es) t) (hg : Gl X x := by rfl)
    (hdb : (x == ("__debug__" : Str)) = false := by decide) (he : starEach (e :: es) X.env = (false, eval e X.env) :: starEach es X.env := by rfl) (hpl : (backTo pos (starEach es X.env)).any (·.1) = false := by rfl) :
    PE X (.Call (.Name x p) (e :: es) [] pos) (tF sp t) := by
  obtain ⟨f, fd, ps, F, hm, kp, b⟩ := c.ex
  have h := pe_call (p := p) F (hr.mono hk) hg hm kp b .nil (pass0 (X := X)) ha hdb he hpl
  refine ⟨fun pins s σ H Q I q => h.run pins s σ H Q I ?_⟩
  show t σ H fun vs H1 => sp (vs ++ []) H1 Q E0
  have e : (fun (vs : List V) (H1 : Hp) => sp (vs ++ []) H1 Q E0) = fun vs H1 => sp vs H1 Q E0 := by
    funext vs H1
    rw [List.append_nil]
  rw [e]
  exact q
end
theorem same_new {H : Hp} {p : Addr} {o : HO} (h : H p = none) : Same H (upd H p o) := fun b u q => by rw [upd_ne (ne_of_none q h)]; exact q
theorem same_mut {H H' : Hp} {p : Addr} {o : HO} (e : Same H H') (h : H p = none) : Same H (upd H' p o) := fun a u ha => by
  rw [upd_ne (ne_of_none ha h)]
  exact e a u ha
theorem same_rd {H H' : Hp} {a : Addr} {u : HO} (e : Same H H') (h : Rd H a u) : Rd H' a u := by
  rcases h with h | ⟨o, h⟩
  · exact .inl (e a _ h)
  · exact .inr ⟨o, e a _ h⟩
theorem same_l {K : PySem.W.Frag} {H H' : Hp} {a : Addr} {xs : List V} (e : Same H H') (h : SqL K H a xs) : SqL K H' a xs := h.elim (fun h => .inl (same_rd e h)) .inr
theorem same_t {K : PySem.W.Frag} {H H' : Hp} {a : Addr} {xs : List V} (e : Same H H') (h : SqT K H a xs) : SqT K H' a xs := h.elim (fun h => .inl (same_rd e h)) .inr
theorem sz {n : Nat} (h : n ≤ 16000000) : n ≤ sizeLine := Nat.le_trans h (by decide)
section
variable {K : PySem.W.Frag} {σ : L2.St} {H : Hp} {Q : VK} {x y v : V} {ta tb tc te : TE} {t u : TT} {D : Ends} {ts tu tw : TS}
theorem dec_int {i j : Int} : decide (V.int i = V.int j) = decide (i = j) := by simp
theorem dec_str {i j : Str} : decide (V.str i = V.str j) = decide (i = j) := by simp
theorem w_var {i : Nat} (h : σ[i]? = some (some v)) (q : Q v H) : tVar i σ H Q := ⟨v, h, q⟩
theorem w_c (q : Q v H) : tC v σ H Q := q
theorem w_op {r : R2} (q : ta σ H fun x H1 => tb σ H1 fun y H2 => r x y H2 Q) : tOp r ta tb σ H Q := q
theorem w_un {r : V → Hp → VK → Prop} (q : ta σ H fun x H1 => r x H1 Q) : tUn r ta σ H Q := q
theorem w_neg {i : Int} (q : Q (.int (-i)) H) : rNeg (.int i) H Q := ⟨i, rfl, q⟩
theorem w_addI {i j : Int} (q : Q (.int (i + j)) H) : rAdd K (.int i) (.int j) H Q := .inl ⟨i, j, rfl, rfl, q⟩
theorem w_addT {i j : Str} (h : i.length + j.length ≤ sizeLine) (q : Q (.str (i ++ j)) H) : rAdd K (.str i) (.str j) H Q := .inr (.inl ⟨i, j, rfl, rfl, h, q⟩)
theorem w_addL {a b : Addr} {xs ys : List V} (ha : H a = some (.lst xs)) (hb : H b = some (.lst ys)) (h : xs.length + ys.length ≤ sizeLine) (q : ∀ p, H p = none → Q (.ref p) (upd H p (.lst (xs ++ ys)))) : rAdd K (.ref a) (.ref b) H Q :=
  .inr (.inr (.inl ⟨a, b, xs, ys, rfl, rfl, ha, hb, h, q⟩))
theorem w_sub {i j : Int} (q : Q (.int (i - j)) H) : rSub (.int i) (.int j) H Q := ⟨i, j, rfl, rfl, q⟩
theorem w_mulI {i j : Int} (h : CMul i j) (q : Q (.int (i * j)) H) : rMul (.int i) (.int j) H Q := .inl ⟨i, j, rfl, rfl, h, q⟩
theorem w_mod {i j : Int} (h : 0 < j) (q : Q (.int (i % j)) H) : rMod (.int i) (.int j) H Q := ⟨i, j, rfl, rfl, h, q⟩
theorem w_div {i j : Int} (h : CDiv i j) (q : Q (.int (i / j)) H) : rDiv (.int i) (.int j) H Q := ⟨i, j, rfl, rfl, h, q⟩
theorem w_pow {i j : Int} (h : CPow i j) (q : Q (.int (i ^ j.toNat)) H) : rPow (.int i) (.int j) H Q := ⟨i, j, rfl, rfl, h, q⟩
theorem w_lt {i j : Int} (q : Q (.bl (decide (i < j))) H) : rLt (.int i) (.int j) H Q := ⟨i, j, rfl, rfl, q⟩
theorem w_le {i j : Int} (q : Q (.bl (decide (i ≤ j))) H) : rLe (.int i) (.int j) H Q := ⟨i, j, rfl, rfl, q⟩
theorem w_gt {i j : Int} (q : Q (.bl (decide (j < i))) H) : rGt (.int i) (.int j) H Q := ⟨i, j, rfl, rfl, q⟩
theorem w_ge {i j : Int} (q : Q (.bl (decide (j ≤ i))) H) : rGe (.int i) (.int j) H Q := ⟨i, j, rfl, rfl, q⟩
theorem w_eqI {i j : Int} (q : Q (.bl (decide (i = j))) H) : rEq2 K (.int i) (.int j) H Q := .inl ⟨rfl, by rw [dec_int]; exact q⟩
theorem w_eqS {i j : Str} (q : Q (.bl (decide (i = j))) H) : rEq2 K (.str i) (.str j) H Q := .inl ⟨rfl, by rw [dec_str]; exact q⟩
theorem w_neI {i j : Int} (q : Q (.bl (!decide (i = j))) H) : rNe2 K (.int i) (.int j) H Q := .inl ⟨rfl, by rw [dec_int]; exact q⟩
theorem w_neS {i j : Str} (q : Q (.bl (!decide (i = j))) H) : rNe2 K (.str i) (.str j) H Q := .inl ⟨rfl, by rw [dec_str]; exact q⟩
theorem w_eqD {d e : PyData} (hx : Dp K H x d) (hy : Dp K H y e) (sd : SeqAt.shaped d = true) (se : SeqAt.shaped e = true) (q : Q (.bl (PyData.eqv d e)) H) : rEq2 K x y H Q := .inr (.inl ⟨d, e, hx, hy, sd, se, q⟩)
theorem w_neD {d e : PyData} (hx : Dp K H x d) (hy : Dp K H y e) (sd : SeqAt.shaped d = true) (se : SeqAt.shaped e = true) (q : Q (.bl (!PyData.eqv d e)) H) : rNe2 K x y H Q := .inr (.inl ⟨d, e, hx, hy, sd, se, q⟩)
theorem w_ixT {p : Addr} {xs : List V} {i : Int} (h : SqT K H p xs) (e : atI xs i = some v) (q : Q v H) : rIx K (.ref p) (.int i) H Q := .inr (.inl ⟨p, xs, i, v, rfl, rfl, h, e, q⟩)
theorem w_ixL {p : Addr} {xs : List V} {i : Int} (h : SqL K H p xs) (e : atI xs i = some v) (q : Q v H) : rIx K (.ref p) (.int i) H Q := .inl ⟨p, xs, i, v, rfl, rfl, h, e, q⟩
theorem w_ixS {z : Str} {i : Int} {c : Nat} (h : z.length ≤ sizeLine) (e : atI z.cps.toList i = some c) (q : Q (.str ⟨#[c]⟩) H) : rIx K (.str z) (.int i) H Q := .inr (.inr ⟨z, i, c, rfl, rfl, h, e, q⟩)
theorem w_lenL {p : Addr} {xs : List V} (h : SqL K H p xs) (q : Q (.int ((xs.length : Nat) : Int)) H) : rLenA K [.ref p] H Q := ⟨.ref p, xs.length, rfl, .inl ⟨xs, h, rfl⟩, q⟩
theorem w_lenT {p : Addr} {xs : List V} (h : SqT K H p xs) (q : Q (.int ((xs.length : Nat) : Int)) H) : rLenA K [.ref p] H Q := ⟨.ref p, xs.length, rfl, .inr ⟨xs, h, rfl⟩, q⟩
theorem w_lenS {z : Str} (h : z.length ≤ sizeLine) (q : Q (.int ((z.length : Nat) : Int)) H) : rLenA K [.str z] H Q := ⟨.str z, z.length, rfl, ⟨h, rfl⟩, q⟩
theorem w_intI {i : Int} (q : Q (.int i) H) : rInt [.int i] H Q := .inl (.inl ⟨i, rfl, q⟩)
theorem w_intB {k : Bool} (q : Q (.int (if k then 1 else 0)) H) : rInt [.bl k] H Q := .inl (.inr ⟨k, rfl, q⟩)
theorem w_nil {Q : List V → Hp → Prop} (q : Q [] H) : tNil σ H Q := q
theorem w_cons {tr : TA} {Q : List V → Hp → Prop} (q : ta σ H fun x H1 => tr σ H1 fun xs H2 => Q (x :: xs) H2) : tCons ta tr σ H Q := q
theorem w_f {sp : Sp} {t : TA} (q : t σ H fun vs H1 => sp vs H1 Q E0) : tF sp t σ H Q := q
theorem w_cb {r : List V → Hp → VK → Prop} {t : TA} (q : t σ H fun vs H1 => r vs H1 Q) : tCB r t σ H Q := q
theorem w_lst {t : TA} (q : t σ H fun xs H1 => xs.length ≤ sizeLine ∧ ∀ p, H1 p = none → Q (.ref p) (upd H1 p (.lst xs))) : tLst t σ H Q := q
theorem w_tup {t : TA} (q : t σ H fun xs H1 => xs.length ≤ sizeLine ∧ ∀ p, H1 p = none → Q (.ref p) (upd H1 p (.tup xs))) : tTup t σ H Q := q
theorem w_test {Q : Bool → Hp → Prop} (q : te σ H fun x H' => ∃ k, x = .bl k ∧ Q k H') : tTest te σ H Q := q
theorem w_tB {Q : Bool → Hp → Prop} (q : te σ H fun x H' => ∃ k, x = .bl k ∧ Q k H') : tB te σ H Q := q
theorem w_bl {b : Bool} {R : Bool → Prop} (q : R b) : ∃ k, V.bl b = .bl k ∧ R k := ⟨b, rfl, q⟩
theorem w_and {Q : Bool → Hp → Prop} (q : t σ H fun c H1 => if c = true then u σ H1 Q else Q false H1) : tAnd t u σ H Q := q
theorem w_or {Q : Bool → Hp → Prop} (q : t σ H fun c H1 => if c = true then Q true H1 else u σ H1 Q) : tOr t u σ H Q := q
theorem w_not {Q : Bool → Hp → Prop} (q : t σ H fun c H1 => Q (!c) H1) : tNot t σ H Q := q
theorem w_andV (q : ta σ H fun x H1 => ∃ c, x = .bl c ∧ if c = true then tb σ H1 Q else Q (.bl false) H1) : tAndV ta tb σ H Q := q
theorem w_orV (q : ta σ H fun x H1 => ∃ c, x = .bl c ∧ if c = true then Q (.bl true) H1 else tb σ H1 Q) : tOrV ta tb σ H Q := q
theorem w_notV (q : ta σ H fun x H1 => ∃ c, x = .bl c ∧ Q (.bl (!c)) H1) : tNotV ta σ H Q := q
theorem w_seq (q : ts { D with nx := tu D } σ H) : tSeq ts tu D σ H := q
theorem w_next (q : D.nx σ H) : tNext D σ H := q
theorem w_asg {i : Nat} (q : te σ H fun x H1 => D.nx (σ.set i (some x)) H1) : tAsg te (gName i) D σ H := q
theorem w_asgT {n : Nat} {g : TGs} (q : te σ H fun x H1 => gTup K n g x σ H1 D.nx) : tAsg te (gTup K n g) D σ H := q
theorem w_ret (q : te σ H D.rt) : tRet te D σ H := q
theorem w_drop (q : te σ H fun _ H1 => D.nx σ H1) : tDrop te D σ H := q
theorem w_if (q : t σ H fun b H1 => if b = true then ts D σ H1 else tu D σ H1) : tIfS t ts tu D σ H := q
theorem w_yes {c : Bool} {A B : Prop} (e : c = true) (a : A) : if c = true then A else B := by rw [if_pos e]; exact a
theorem w_no {c : Bool} {A B : Prop} (e : c = false) (b : B) : if c = true then A else B := by rw [e]; exact iteF b
theorem w_two {c : Bool} {A B : Prop} (a : c = true → A) (b : c = false → B) : if c = true then A else B := by
  cases c with
  | true => exact iteT (a rfl)
  | false => exact iteF (b rfl)
end
end Hu
namespace Hu
open PySem PySem.Spec PyProof.Rows L2
structure CC (K : PySem.W.Frag) (cx : Str) (as : List Str) (C : Addr) : Prop where
  isC : PySem.W.nsIn K mainGlobals cx = some (some (.ref C))
  cls : Cls K C
  no : ∀ f ∈ as, NoAttr K C f
theorem CC.eq {K : PySem.W.Frag} {cx : Str} {as bs : List Str} {C D : Addr} (a : CC K cx as C) (b : CC K cx bs D) : C = D := by
  have := a.isC.symm.trans b.isC
  exact Value.ref.inj (Option.some.inj (Option.some.inj this))
structure MethAt (K : PySem.W.Frag) (C : Addr) (x qual : Str) (st : Stmt) (ps : List Str) : Prop where
  ex : ∃ (f : Addr) (fd : FuncData), Fun K x qual st f fd ∧ Meth K C x f ∧ Binds K fd ps []
structure InitAt (K : PySem.W.Frag) (C : Addr) (qual : Str) (st : Stmt) (ps : List Str) : Prop where
  ex : ∃ (f : Addr) (fd : FuncData), Fun K "__init__" qual st f fd ∧ Mk K C f ∧ Binds K fd ps []
structure CalM (P : Program) (w : World) (K : PySem.W.Frag) (mg : Str → Option Value) (base : Heap) (k : Nat) (cx : Str) (as : List Str) (x : Str) (sp : Sp) : Prop where
  ex : ∃ (C f : Addr) (fd : FuncData) (ps : List Str), CC K cx as C ∧ FnOk P w K mg base CX0 k f fd ps sp ∧ Meth K C x f ∧ Binds K fd ps []
structure CalC (P : Program) (w : World) (K : PySem.W.Frag) (mg : Str → Option Value) (base : Heap) (k : Nat) (cx : Str) (as : List Str) (sp : Sp) : Prop where
  ex : ∃ (C f : Addr) (fd : FuncData) (ps : List Str), CC K cx as C ∧ mg cx = some (.ref C) ∧ FnOk P w K mg base CX0 k f fd ps sp ∧ Mk K C f ∧ Binds K fd ps []
section
variable {P : Program} {w : World} {K : PySem.W.Frag} {mg : Str → Option Value} {base : Heap}
theorem calM_of {C : Addr} {cx x qual : Str} {as : List Str} {st : Stmt} {N ps : List Str} {k : Nat} {sp : Sp} (c : CC K cx as C) (D : MethAt K C x qual st ps) (S : FnScope N ps (defScope st)) (len : ∀ vs H Q E, sp vs H Q E → vs.length = ps.length)
    (hbody : ∀ (f : Addr) (cdv : Value) (A : Around) (outer : List Env) (s : Shared) (H : Hp) (vs : List V) (Q : VK) (E : XK), Room k (A.deeper (envOfC qual (defScope st) s.heap.objs.size f cdv)) → sp vs H Q E →
      ∃ t, PSs (cxOf CX0 P w K mg base N qual (defScope st) f cdv A outer s H E).nox (defBody st) t ∧ t { nx := fun _ H' => Q .non H', rt := Q } (start N vs) H) : CalM P w K mg base (k + 1) cx as x sp := by
  obtain ⟨f, fd, F, m, b⟩ := D.ex
  exact ⟨C, f, fd, ps, c, F.ok S len fun cdv A outer s H vs Q E => hbody f cdv A outer s H vs Q E, m, b⟩
theorem calC_of {C : Addr} {cx qual : Str} {as : List Str} {st : Stmt} {N ps : List Str} {k : Nat} {sp : Sp} (c : CC K cx as C) (hm : mg cx = some (.ref C)) (D : InitAt K C qual st ps) (S : FnScope N ps (defScope st)) (len : ∀ vs H Q E, sp vs H Q E → vs.length = ps.length)
    (hbody : ∀ (f : Addr) (cdv : Value) (A : Around) (outer : List Env) (s : Shared) (H : Hp) (vs : List V) (Q : VK) (E : XK), Room k (A.deeper (envOfC qual (defScope st) s.heap.objs.size f cdv)) → sp vs H Q E →
      ∃ t, PSs (cxOf CX0 P w K mg base N qual (defScope st) f cdv A outer s H E).nox (defBody st) t ∧ t { nx := fun _ H' => Q .non H', rt := Q } (start N vs) H) : CalC P w K mg base (k + 1) cx as sp := by
  obtain ⟨f, fd, F, m, b⟩ := D.ex
  exact ⟨C, f, fd, ps, c, hm, F.ok S len fun cdv A outer s H vs Q E => hbody f cdv A outer s H vs Q E, m, b⟩
end
section
variable {X : Cx} {k j : Nat} {x cx : Str} {as : List Str} {sp : Sp} {p pos apos : Pos} {o e : Expr} {es : List Expr} {t : TA} {ta : TE}
/-- o.m(..), o an instance of the class named cx -/
def tM (K : PySem.W.Frag) (cx : Str) (as : List Str) (m : Str) (sp : Sp) (ta : TE) (t : TA) : TE := fun σ H Q => ta σ H fun x H1 => ∃ a C dx fs, x = .ref a ∧ H1 a = some (.ins C dx fs) ∧ CC K cx as C ∧ fs.lookup m = none ∧ t σ H1 fun vs H2 => sp (x :: vs) H2 Q E0
/-- cx(..) -/
def tMk (K : PySem.W.Frag) (cx : Str) (as : List Str) (sp : Sp) (t : TA) : TE := fun σ H Q => t σ H fun vs H1 => ∀ x C dx, CC K cx as C → H1 x = none → H1 dx = none → dx ≠ x →
  sp (.ref x :: vs) (upd (upd H1 dx (.own x)) x (.ins C dx [])) (fun v H2 => v = .non ∧ Q (.ref x) H2) E0
theorem pe_m {m : Str} {pl : Sem Bool} (c : CalM X.prog X.w X.K X.mg X.base k cx as m sp) (hr : Room j X.A) (hk : k ≤ j) (he : PE X o ta) (ha : PA X (e :: es) t)
    (hst : starEach (e :: es) X.env = (false, eval e X.env) :: starEach es X.env := by rfl) (hpl : (backTo pos (starEach es X.env)).any (·.1) = false := by rfl)
    (ht : eval (.Call (.Attribute o m apos) (e :: es) [] pos) X.env = (do
      let ov ← eval o X.env
      standAt apos.atName
      let (f, first) ← holding [ov] (getMethod ov m pl)
      callWith pos f first (backTo pos (starEach (e :: es) X.env)) (backToKw pos (keywordEach [] X.env))) := by rfl) : PE X (.Call (.Attribute o m apos) (e :: es) [] pos) (tM X.K cx as m sp ta t) := by
  obtain ⟨C, f, fd, ps, cc, F, hm, b⟩ := c.ex
  have h := pe_meth (pl := pl) (E := E0) he cc.cls hm F (hr.mono hk) b .nil (pass0 (X := X)) ha hst hpl ht
  refine ⟨fun pins s σ H Q I q => h.run pins s σ H Q I ?_⟩
  have e2 : ∀ (q : Q = Q), (fun (x : V) (H1 : Hp) => ∃ a C' dx fs, x = .ref a ∧ H1 a = some (.ins C' dx fs) ∧ CC X.K cx as C' ∧ fs.lookup m = none ∧ t σ H1 fun vs H2 => sp (x :: vs) H2 Q E0) = fun x H1 => ∃ a dx fs, x = .ref a ∧ H1 a = some (.ins C dx fs) ∧ fs.lookup m = none ∧ t σ H1 fun vs H2 => sp (x :: (vs ++ [])) H2 Q E0 := by
    intro _
    funext x H1
    have e0 : (fun (vs : List V) (H2 : Hp) => sp (x :: (vs ++ [])) H2 Q E0) = fun vs H2 => sp (x :: vs) H2 Q E0 := by
      funext vs H2
      rw [List.append_nil]
    rw [e0]
    refine propext ⟨?_, ?_⟩
    · rintro ⟨a, C', dx, fs, h1, h2, h3, h4, h5⟩
      have := h3.eq cc
      subst this
      exact ⟨a, dx, fs, h1, h2, h4, h5⟩
    · rintro ⟨a, dx, fs, h1, h2, h4, h5⟩
      exact ⟨a, C, dx, fs, h1, h2, cc, h4, h5⟩
  show ta σ H _
  rw [← e2 rfl]
  exact q
theorem pe_m0 {m : Str} {pl : Sem Bool} (c : CalM X.prog X.w X.K X.mg X.base k cx as m sp) (hr : Room j X.A) (hk : k ≤ j) (he : PE X o ta)
    (ht : eval (.Call (.Attribute o m apos) [] [] pos) X.env = (do
      let ov ← eval o X.env
      standAt apos.atName
      let (f, first) ← holding [ov] (getMethod ov m pl)
      callWith pos f first (backTo pos (starEach [] X.env)) (backToKw pos (keywordEach [] X.env))) := by rfl) : PE X (.Call (.Attribute o m apos) [] [] pos) (tM X.K cx as m sp ta tNil) := by
  obtain ⟨C, f, fd, ps, cc, F, hm, b⟩ := c.ex
  have h := pe_meth0 (pl := pl) (E := E0) he cc.cls hm F (hr.mono hk) b .nil (pass0 (X := X)) ht
  refine ⟨fun pins s σ H Q I q => h.run pins s σ H Q I ?_⟩
  have e2 : (fun (x : V) (H1 : Hp) => ∃ a C' dx fs, x = .ref a ∧ H1 a = some (.ins C' dx fs) ∧ CC X.K cx as C' ∧ fs.lookup m = none ∧ tNil σ H1 fun vs H2 => sp (x :: vs) H2 Q E0) = fun x H1 => ∃ a dx fs, x = .ref a ∧ H1 a = some (.ins C dx fs) ∧ fs.lookup m = none ∧ tNil σ H1 fun vs H2 => sp (x :: (vs ++ [])) H2 Q E0 := by
    funext x H1
    refine propext ⟨?_, ?_⟩
    · rintro ⟨a, C', dx, fs, h1, h2, h3, h4, h5⟩
      have := h3.eq cc
      subst this
      exact ⟨a, dx, fs, h1, h2, h4, h5⟩
    · rintro ⟨a, dx, fs, h1, h2, h4, h5⟩
      exact ⟨a, C, dx, fs, h1, h2, cc, h4, h5⟩
  show ta σ H _
  rw [← e2]
  exact q
theorem pe_c (c : CalC X.prog X.w X.K X.mg X.base k cx as sp) (hr : Room j X.A) (hk : k + 1 ≤ j) (ha : PA X (e :: es) t) (hg : Gl X cx := by rfl)
    (hdb : (cx == ("__debug__" : Str)) = false := by decide) (he : starEach (e :: es) X.env = (false, eval e X.env) :: starEach es X.env := by rfl) (hpl : (backTo pos (starEach es X.env)).any (·.1) = false := by rfl) :
    PE X (.Call (.Name cx p) (e :: es) [] pos) (tMk X.K cx as sp t) := by
  obtain ⟨C, f, fd, ps, cc, hm, F, M, b⟩ := c.ex
  have h := pe_make (p := p) (E := E0) M F (hr.mono hk) hg hm b .nil (pass0 (X := X)) ha hdb he hpl
  refine ⟨fun pins s σ H Q I q => h.run pins s σ H Q I ?_⟩
  show t σ H fun vs H1 => ∀ x dx, H1 x = none → H1 dx = none → dx ≠ x → sp (.ref x :: (vs ++ [])) (upd (upd H1 dx (.own x)) x (.ins C dx [])) (fun v H2 => v = .non ∧ Q (.ref x) H2) E0
  have e2 : (fun (vs : List V) (H1 : Hp) => ∀ x dx, H1 x = none → H1 dx = none → dx ≠ x → sp (.ref x :: (vs ++ [])) (upd (upd H1 dx (.own x)) x (.ins C dx [])) (fun v H2 => v = .non ∧ Q (.ref x) H2) E0) =
      fun vs H1 => ∀ x C' dx, CC X.K cx as C' → H1 x = none → H1 dx = none → dx ≠ x → sp (.ref x :: vs) (upd (upd H1 dx (.own x)) x (.ins C' dx [])) (fun v H2 => v = .non ∧ Q (.ref x) H2) E0 := by
    funext vs H1
    rw [List.append_nil]
    refine propext ⟨?_, ?_⟩
    · intro q x C' dx h3 h4 h5 h6
      have := h3.eq cc
      subst this
      exact q x dx h4 h5 h6
    · intro q x dx h4 h5 h6
      exact q x C dx cc h4 h5 h6
  rw [e2]
  exact q
/-- a name of the top that stands for a tuple -/
def tGT (K : PySem.W.Frag) (xs : List V) : TE := fun _ H Q => ∀ a, (∀ H', SqT K H' a xs) → Q (.ref a) H
theorem pe_globT {xs : List V} (hg : Gl X x) (hm : ∃ a, X.mg x = some (.ref a) ∧ ∀ H, SqT X.K H a xs) (hd : (x == ("__debug__" : Str)) = false := by decide) : PE X (.Name x pos) (tGT X.K xs) := by
  obtain ⟨a, hm, hs⟩ := hm
  have h := pe_glob (pos := pos) (v := .ref a) hg hm rfl hd
  exact ⟨fun pins s σ H Q I q => h.run pins s σ H Q I (q a hs)⟩
end
section
variable {K : PySem.W.Frag} {σ : L2.St} {H : Hp} {Q : VK} {te tv : TE} {D : Ends} {y v : V}
theorem w_glt {xs : List V} (q : ∀ a, (∀ H', SqT K H' a xs) → Q (.ref a) H) : tGT K xs σ H Q := q
theorem w_m {cx : Str} {as : List Str} {m : Str} {sp : Sp} {t : TA} (q : te σ H fun x H1 => ∃ a C dx fs, x = .ref a ∧ H1 a = some (.ins C dx fs) ∧ CC K cx as C ∧ fs.lookup m = none ∧ t σ H1 fun vs H2 => sp (x :: vs) H2 Q E0) : tM K cx as m sp te t σ H Q := q
theorem w_mk {cx : Str} {as : List Str} {sp : Sp} {t : TA} (q : t σ H fun vs H1 => ∀ x C dx, CC K cx as C → H1 x = none → H1 dx = none → dx ≠ x → sp (.ref x :: vs) (upd (upd H1 dx (.own x)) x (.ins C dx [])) (fun v H2 => v = .non ∧ Q (.ref x) H2) E0) : tMk K cx as sp t σ H Q := q
theorem w_fld {f : Str} (q : te σ H fun x H1 => ∃ a C dx fs v, x = .ref a ∧ H1 a = some (.ins C dx fs) ∧ Cls K C ∧ NoAttr K C f ∧ fs.lookup f = some v ∧ Q v H1) : tFld K te f σ H Q := q
theorem w_fldAt {f cx : Str} {as : List Str} {a C dx : Addr} {fs : List (Str × V)} {R : V → Prop} (h : H a = some (.ins C dx fs)) (c : CC K cx as C) (m : f ∈ as) (l : fs.lookup f = some v) (q : R v) : ∃ b C dx fs v, V.ref a = .ref b ∧ H b = some (.ins C dx fs) ∧ Cls K C ∧ NoAttr K C f ∧ fs.lookup f = some v ∧ R v := ⟨a, C, dx, fs, v, rfl, h, c.cls, c.no f m, l, q⟩
theorem w_sfld {f : Str} (q : tv σ H fun y H1 => te σ H1 fun x H2 => ∃ a C dx fs, x = .ref a ∧ H2 a = some (.ins C dx fs) ∧ Cls K C ∧ NoAttr K C f ∧ fs.length < 1000 ∧ D.nx σ (upd H2 a (.ins C dx (putF f y fs)))) : sFld K te tv f D σ H := q
theorem w_sfldAt {f cx : Str} {as : List Str} {a C dx : Addr} {fs : List (Str × V)} {R : Hp → Prop} (h : H a = some (.ins C dx fs)) (c : CC K cx as C) (m : f ∈ as) (l : fs.length < 1000) (q : R (upd H a (.ins C dx (putF f y fs)))) : ∃ b C dx fs, V.ref a = .ref b ∧ H b = some (.ins C dx fs) ∧ Cls K C ∧ NoAttr K C f ∧ fs.length < 1000 ∧ R (upd H b (.ins C dx (putF f y fs))) := ⟨a, C, dx, fs, rfl, h, c.cls, c.no f m, l, q⟩
theorem w_mAt {cx : Str} {as : List Str} {m : Str} {a C dx : Addr} {fs : List (Str × V)} {R : Prop} (h : H a = some (.ins C dx fs)) (c : CC K cx as C) (l : fs.lookup m = none) (q : R) : ∃ b C dx fs, V.ref a = .ref b ∧ H b = some (.ins C dx fs) ∧ CC K cx as C ∧ fs.lookup m = none ∧ R := ⟨a, C, dx, fs, rfl, h, c, l, q⟩
theorem w_chain {r r' : R2} {ta tb tc : TE} (q : ta σ H fun x H1 => tb σ H1 fun y H2 => r x y H2 fun z H3 => ∃ k, z = .bl k ∧ (if k = true then tc σ H3 fun w' H4 => r' y w' H4 Q else Q (.bl false) H3)) : tChain r r' ta tb tc σ H Q := q
theorem w_istr {R : It → Hp → Prop} (q : te σ H fun v H1 => ∃ x, v = .str x ∧ R (Its x) H1) : iStr te σ H R := q
theorem tyx_t {a : Addr} {xs : List V} (h : SqT K H a xs) : TyX K H (.ref a) (.type "tuple") := by
  rcases h with (h | ⟨o, h⟩) | ⟨o, its, n, h, c, _⟩
  · exact .base (.tup h)
  · exact .fTuple h
  · exact .kTuple h c
theorem tyx_l {a : Addr} {xs : List V} (h : SqL K H a xs) : TyX K H (.ref a) (.type "list") := by
  rcases h with (h | ⟨o, h⟩) | ⟨o, its, n, h, c, _⟩
  · exact .base (.lst h)
  · exact .base (.frz h)
  · exact .kList h c
end
theorem for_str {x : Str} {g : TG} {tb : TS} {D : Ends} {σ : L2.St} {H : Hp} (Pv : Nat → L2.St → Hp → Prop) (h0 : Pv 0 σ H)
    (hs : ∀ i c σ H, x.cps[i]? = some c → Pv i σ H → g (.str ⟨#[c]⟩) σ H fun σ2 H2 => tb { D with nx := Pv (i + 1), ct := Pv (i + 1), bk := D.nx } σ2 H2) (hd : ∀ σ H, Pv x.cps.size σ H → D.nx σ H) :
    ∃ W : Nat → Nat → L2.St → Hp → Prop, (∃ m, W 0 m σ H) ∧ ∀ i m σ H, W i m σ H →
      ((Its x).stop i H ∧ D.nx σ H) ∨ ((Its x).go i H ∧ ∃ N : L2.St → Hp → Prop, (∀ σ' H', N σ' H' → ∃ m', m' < m ∧ W (i + 1) m' σ' H') ∧ ∀ v H', (Its x).yld i H v H' → g v σ H' fun σ2 H2 => tb { D with nx := N, ct := N, bk := D.nx } σ2 H2) := by
  refine ⟨fun i m σ H => m = x.cps.size - i ∧ i ≤ x.cps.size ∧ Pv i σ H, ⟨x.cps.size, by simp, Nat.zero_le _, h0⟩, ?_⟩
  rintro i m σ H ⟨rfl, hi, p⟩
  by_cases hlt : i < x.cps.size
  · refine .inr ⟨hlt, Pv (i + 1), fun σ' H' p' => ⟨x.cps.size - (i + 1), by omega, rfl, hlt, p'⟩, fun v H' y => ?_⟩
    obtain ⟨rfl, c, hc, rfl⟩ := y
    exact hs i c σ _ hc p
  · have e : i = x.cps.size := by omega
    subst e
    exact .inl ⟨Nat.le_refl _, hd σ H p⟩
end Hu
namespace HuS
open PySem PySem.Spec PyProof.Rows L2
def nameOf (e : Int × Value) : Str := match e.2 with
  | .str x _ => x
  | _ => Str.empty
def Fit (w : World) (e : Int × Value) : Prop := ∃ x tk, e.2 = Value.str x tk ∧ e.1 = hashStr w x
def TxtSet (w : World) (h : Heap) (a : Addr) (S : Str → Bool) (n : Nat) : Prop :=
  ∃ o es ep t, h.get? a = some o ∧ o.ExactSet ∧ o.data = .set es ep t ∧ (∀ e ∈ es.toList, Fit w e) ∧ (es.toList.map nameOf).Nodup ∧ (∀ x, S x = true ↔ x ∈ es.toList.map nameOf) ∧
    es.size < scanBound ∧ t.fits es.size = true ∧ es.size = n ∧ Ris t.place.toList ∧ (w.params.followText "set-order" = true ∨ t.led = true)
section
variable {P : Program} {w : World} {h h' : Heap} {a : Addr} {S : Str → Bool} {n : Nat}
theorem TxtSet.at (R : TxtSet w h a S n) (k : ∀ o, h.get? a = some o → h'.get? a = some o) : TxtSet w h' a S n := by
  obtain ⟨o, es, ep, t, ho, r⟩ := R
  exact ⟨o, es, ep, t, k o ho, r⟩
theorem TxtSet.congr {S' : Str → Bool} (R : TxtSet w h a S n) (e : ∀ x, S' x = S x) : TxtSet w h a S' n := (funext e : S' = S) ▸ R
theorem fit_elems {l : List (Int × Value)} (g : ∀ e ∈ l, Fit w e) : ElemsOf (PySem.strKind P w) l := fun e he => by
  obtain ⟨x, tk, h1, h2⟩ := g e he
  exact ⟨⟨x, by rw [h1]; exact strKind_is P w x tk, h2⟩, by rw [h1] <;> rfl⟩
theorem fit_is {e : Int × Value} (g : Fit w e) (x : Str) : (PySem.strKind P w).is x e.2 = true ↔ nameOf e = x := by
  obtain ⟨y, tk, h1, _⟩ := g
  unfold nameOf
  rw [h1]
  constructor
  · intro z
    obtain ⟨t, e⟩ := Value.isStrOf_shape (show Value.isStrOf x (.str y tk) = true from z)
    injection e
  · intro z
    subst z
    exact strKind_is P w _ tk
theorem fit_mem {l : List (Int × Value)} (g : ∀ e ∈ l, Fit w e) (x : Str) : x ∈ l.map nameOf ↔ ∃ e ∈ l, (PySem.strKind P w).is x e.2 = true := by
  rw [List.mem_map]
  exact ⟨fun ⟨e, he, q⟩ => ⟨e, he, (fit_is (g e he) x).2 q⟩, fun ⟨e, he, q⟩ => ⟨e, he, (fit_is (g e he) x).1 q⟩⟩
end
section
variable {P : Program} {w : World} {A : Around} {E : Value → Shared → Prop} {s : Shared} {a : Addr} {S : Str → Bool} {n : Nat}
theorem put_tail {g : Bool → Sem Unit} (hg : ∀ (b : Bool) (s₁ : Shared) (Q' : Unit → Shared → Prop), Q' () s₁ → wpAny (model P w) A (g b) Q' E s₁)
    {o : Obj} {es : Array (Int × Value)} {ep : Nat} {t : SetTable} (ho : s.heap.get? a = some o) (hex : o.ExactSet) (hd : o.data = .set es ep t)
    {fs : Array (Int × Value)} {t2 : SetTable} {T : Str → Bool} (g1 : ∀ e ∈ fs.toList, Fit w e) (nd1 : (fs.toList.map nameOf).Nodup) (m1 : ∀ x, T x = true ↔ x ∈ fs.toList.map nameOf)
    (hb1 : fs.size < scanBound) (hf2 : t2.fits fs.size = true) (hr : Ris t2.place.toList) (hl : w.params.followText "set-order" = true ∨ t2.led = true) {dummy : Bool} {R : Option Bool → Shared → Prop}
    (hR : ∀ h', Heap.SameBut a s.heap h' → TxtSet w h' a T fs.size → R (some true) { s with heap := h' }) :
    wpAny (model P w) A (do
        storeSet a fs t2
        if (!dummy && t2.tooFull) = true then do
            g (relayAll t2 fs (SetTable.grown fs.size)).2.2
            storeSet a (relayAll t2 fs (SetTable.grown fs.size)).1 (relayAll t2 fs (SetTable.grown fs.size)).2.1
            pure (some true)
          else pure (some true)) R E s := by
  refine wpAny_bind (wpAny_storeSet_of ho hd ?_ (fits_of_scanBound hb1))
  have o1 := store_at (es' := fs) (t' := t2) ho hd
  have b1 := Heap.SameBut.update s.heap a (Obj.putSet fs t2)
  split
  · have pm := relayAll_perm t2 fs (SetTable.grown fs.size)
    have hf3 := relayAll_fits t2 fs (SetTable.grown fs.size)
    have hr3 := relayAll_ris t2 fs (SetTable.grown fs.size)
    have hl3 := relayAll_led t2 fs (SetTable.grown fs.size)
    generalize relayAll t2 fs (SetTable.grown fs.size) = Z at pm hf3 hr3 hl3 ⊢
    obtain ⟨gs, t3, gave⟩ := Z
    dsimp only at pm hf3 hr3 hl3 ⊢
    have z : gs.size = fs.size := by rw [← Array.length_toList, pm.length_eq, Array.length_toList]
    have hb2 : gs.size < scanBound := z ▸ hb1
    refine wpAny_bind (hg _ _ _ ?_)
    refine wpAny_bind (wpAny_storeSet_of o1 rfl ?_ (fits_of_scanBound hb2))
    have o2 := store_at (es' := gs) (t' := t3) o1 rfl
    refine wpAny_pure (hR _ (b1.trans (Heap.SameBut.update _ a _)) ?_)
    exact ⟨_, gs, _, t3, o2, hex, rfl, fun e he => g1 e (pm.mem_iff.mp he), (pm.map nameOf).nodup_iff.mpr nd1, fun x => (m1 x).trans (pm.map nameOf).mem_iff.symm, hb2, hf3, z, hr3,
      hl.imp id fun q => by rw [hl3]; exact q⟩
  · exact wpAny_pure (hR _ b1 ⟨_, fs, _, t2, o1, hex, rfl, g1, nd1, m1, hb1, hf2, rfl, hr, hl⟩)
theorem put_hashed {x : Str} {tk : Tok} {Q : Bool → Shared → Prop} (R : TxtSet w s.heap a S n) (room : n + 1 < scanBound)
    (hQ : ∀ h', Heap.SameBut a s.heap h' → TxtSet w h' a (fun y => S y || decide (y = x)) (if S x = true then n else n + 1) → Q (!S x) { s with heap := h' }) :
    wpAny (model P w) A (setAddHashed a (.str x tk) ((PySem.strKind P w).hash x)) Q E s := by
  obtain ⟨o, es, ep, t, ho, hex, hd, g, nd, hm, hb, hf, hn, hr, hl⟩ := R
  have hkey : (PySem.strKind P w).is x (.str x tk) = true := strKind_is P w x tk
  have hsc : (Value.str x tk).scannable = true := rfl
  have hel : ElemsOf (PySem.strKind P w) es.toList := fit_elems g
  unfold setAddHashed setAddHashedIn
  refine wpAny_holding (wpAny_bind (wpAny_setState_of ho hd hf ?_))
  dsimp only
  rw [byScan_of hsc hb hel]
  simp only [↓reduceIte]
  unfold setAddByScan
  refine wpAny_bind ?_
  refine wpAny_bind (wpAny_rule ?_)
  refine wpAny_bind (wpAny_setScan_of hkey ho hd hf hel ?_)
  cases hfi : List.findIdx? (fun e => (PySem.strKind P w).is x e.2) es.toList with
  | some j =>
    dsimp only
    obtain ⟨hj, pj, _⟩ := List.findIdx?_eq_some_iff_getElem.mp hfi
    have hS : S x = true := (hm x).2 ((fit_mem (P := P) (w := w) g x).2 ⟨es.toList[j], List.getElem_mem hj, pj⟩)
    refine wpAny_pure (wpAny_pure ?_)
    have q := hQ s.heap (Heap.SameBut.refl a s.heap) ⟨o, es, ep, t, ho, hex, hd, g, nd, fun y => by
      rw [Bool.or_eq_true, decide_eq_true_eq, ← hm y]
      exact ⟨fun z => z.elim id (fun e => e ▸ hS), .inl⟩, hb, hf, by rw [if_pos hS]; exact hn, hr, hl⟩
    rw [hS] at q
    exact q
  | none =>
    dsimp only
    have hno : x ∉ es.toList.map nameOf := fun z => by
      obtain ⟨e, he, q⟩ := (fit_mem (P := P) (w := w) g x).1 z
      have c := List.findIdx?_eq_none_iff.mp hfi e he
      rw [q] at c
      cases c
    have hS : S x = false := by
      cases q : S x with
      | false => rfl
      | true => exact absurd ((hm x).1 q) hno
    have hgw : ∀ (b : Bool) {s₁ : Shared} {Q' : Unit → Shared → Prop}, Q' () s₁ → wpAny (model P w) A (match b with | true => rule "set.scan.the-table-gave-way" | false => pure ()) Q' E s₁ :=
      fun b s₁ Q' q => by cases b <;> first | exact wpAny_pure q | exact wpAny_rule q
    have pm := layNew_perm t es ((PySem.strKind P w).hash x) (.str x tk)
    have hf1 := layNew_fits t es ((PySem.strKind P w).hash x) (.str x tk)
    have hr1 := layNew_ris t es ((PySem.strKind P w).hash x) (.str x tk) hr
    have hl1 := layNew_led t es ((PySem.strKind P w).hash x) (.str x tk)
    generalize layNew t es ((PySem.strKind P w).hash x) (.str x tk) = Z at pm hf1 hr1 hl1 ⊢
    obtain ⟨fs, t1, wasDummy, gave⟩ := Z
    dsimp only at pm hf1 hr1 hl1 ⊢
    rw [Array.toList_push] at pm
    have pc : fs.toList.Perm (((PySem.strKind P w).hash x, Value.str x tk) :: es.toList) := pm.trans (List.perm_append_singleton _ _)
    have pk : (fs.toList.map nameOf).Perm (x :: es.toList.map nameOf) := pc.map nameOf
    have g1 : ∀ e ∈ fs.toList, Fit w e := fun e he => by
      rcases List.mem_cons.mp (pc.mem_iff.mp he) with z | z
      · rw [z]; exact ⟨x, tk, rfl, rfl⟩
      · exact g e z
    have nd1 : (fs.toList.map nameOf).Nodup := pk.nodup_iff.mpr (List.nodup_cons.mpr ⟨hno, nd⟩)
    have m1 : ∀ y, (S y || decide (y = x)) = true ↔ y ∈ fs.toList.map nameOf := fun y => by
      rw [Bool.or_eq_true, decide_eq_true_eq, hm y, pk.mem_iff, List.mem_cons]
      exact Or.comm
    have z : fs.size = n + 1 := by rw [← Array.length_toList, pc.length_eq, List.length_cons, Array.length_toList, hn]
    have hb1 : fs.size < scanBound := by rw [z]; exact room
    have hled : w.params.followText "set-order" = true ∨ t1.led = true := hl.imp id fun q => by rw [hl1]; exact q
    have fin : ∀ h', Heap.SameBut a s.heap h' → TxtSet w h' a (fun y => S y || decide (y = x)) fs.size → Q true { s with heap := h' } := fun h' sb r => by
      have q := hQ h' sb
      rw [hS] at q
      rw [z] at r
      exact q r
    refine wpAny_bind (hgw _ ?_)
    split
    · refine wpAny_bind ?_
      rw [hashByValue_scannable 8 hsc]
      refine wpAny_pure ?_
      refine put_tail ?_ ho hex hd g1 nd1 m1 hb1 ?_ ?_ ?_ ?_
      · intro b s₁ Q' q; cases b <;> first | exact wpAny_pure q | exact wpAny_rule q
      · first | (split <;> first | exact hf1 | exact SetTable.fits_plain_off hf1) | exact hf1
      · first | (split <;> exact hr1) | exact hr1
      · first | (split <;> exact hled) | exact hled
      · intro h' sb r; dsimp only; exact wpAny_pure (fin h' sb r)
    · refine wpAny_bind (wpAny_pure ?_)
      simp only [↓reduceIte]
      refine put_tail ?_ ho hex hd g1 nd1 m1 hb1 hf1 hr1 hled ?_
      · intro b s₁ Q' q; cases b <;> first | exact wpAny_pure q | exact wpAny_rule q
      · intro h' sb r; dsimp only; exact wpAny_pure (fin h' sb r)
abbrev freshSet (w : World) : Obj := { cls := .type "set", dict := none, data := .set #[] 0 (.fresh 0 0 (!w.params.followText "set-order")) }
theorem fresh_txt {h : Heap} {a : Addr} {xs : List Str} (ho : h.get? a = some (freshSet w)) : TxtSet w h a (fun y => decide (y ∈ xs.take 0)) 0 :=
  ⟨_, #[], 0, _, ho, ⟨rfl, rfl, rfl⟩, rfl, (fun e he => by simp at he), (by simp), (fun x => by simp), (by decide), (by rfl), rfl, List.Pairwise.nil, by
    show _ ∨ (!w.params.followText "set-order") = true
    cases w.params.followText "set-order"
    · exact .inr rfl
    · exact .inl rfl⟩
/-- a set whose members all stand in ns is no longer than ns -/
theorem nodup_le {α : Type} [DecidableEq α] : ∀ {l m : List α}, l.Nodup → (∀ x ∈ l, x ∈ m) → l.length ≤ m.length
  | [], _, _, _ => Nat.zero_le _
  | x :: l, m, hn, hs => by
    obtain ⟨h1, h2⟩ := List.nodup_cons.mp hn
    have hx : x ∈ m := hs x List.mem_cons_self
    have ih := nodup_le (l := l) (m := m.erase x) h2 fun y hy => (List.mem_erase_of_ne (fun e : y = x => h1 (by rw [← e]; exact hy))).mpr (hs y (List.mem_cons_of_mem _ hy))
    have e := List.length_erase_of_mem hx
    have pos := List.length_pos_of_mem hx
    rw [List.length_cons]
    omega
theorem TxtSet.le (R : TxtSet w s.heap a S n) {ns : List Str} (h : ∀ x, S x = true → x ∈ ns) : n ≤ ns.length := by
  obtain ⟨o, es, ep, t, ho, hex, hd, g, nd, hm, hb, hf, hn, hr, hl⟩ := R
  have z := nodup_le nd fun x hx => h x ((hm x).2 hx)
  rw [List.length_map, Array.length_toList] at z
  omega
theorem put_loop {I : Addr} {fp wr : List Addr} {G : Array GenState → Array GenState → Prop} {n : Nat} {Pv : Nat → Value → Prop} {St : Nat → Shared → Prop} {R : Result → Shared → Prop}
    (W : WalksS P w A.in1 I fp wr G n Pv St) (D : Addr) (hSf : D ∉ fp) (xs ns : List Str) (hn : n = xs.length) (hsub : ∀ x ∈ xs, x ∈ ns) (hb : ns.length + 1 < scanBound) (hval : ∀ i v, Pv i v → ∃ x t, xs[i]? = some x ∧ v = .str x t) :
    ∀ (k i : Nat) (s : Shared), n - i = k → i ≤ n → St i s → (∃ c, TxtSet w s.heap D (fun y => decide (y ∈ xs.take i)) c) →
      (∀ s' c, Moved (D :: wr) G s s' → TxtSet w s'.heap D (fun y => decide (y ∈ xs)) c → R (.ok (.ret .none)) s') →
      codeAny (model P w) A (.builtin "set.update.loop" ⟨[.ref D, .ref I], []⟩) R s := by
  have hSw : D ∉ wr := fun h => hSf (W.sub _ h)
  have more : ∀ b ∈ wr, b ∈ D :: wr := fun b hb => List.mem_cons_of_mem _ hb
  intro k
  induction k with
  | zero =>
    intro i s hk hi hst ⟨c, hS⟩ hR
    obtain rfl : i = n := by omega
    refine codeAny_builtin F.entry_set_update_loop ?_
    rw [Around.under_plainId F.plain_set_update_loop _]
    show wpAny _ A.in1 (pyNext (.ref I) >>= _) _ _ s
    refine wpAny_bind (W.done s _ _ hst fun s' hm => ?_)
    show wpAny _ A.in1 (ret Value.none) _ _ s'
    rw [List.take_of_length_le (by omega)] at hS
    exact wpAny_pure (hR s' c (hm.mono more) (hS.at fun o e => hm.heap D o hSw e))
  | succ k ih =>
    intro i s hk hi hst ⟨c, hS⟩ hR
    have hlt : i < n := by omega
    refine codeAny_builtin F.entry_set_update_loop ?_
    rw [Around.under_plainId F.plain_set_update_loop _]
    show wpAny _ A.in1 (pyNext (.ref I) >>= _) _ _ s
    refine wpAny_bind (W.item i s _ _ hlt hst fun v s' hP hst' hm => ?_)
    obtain ⟨z, t, hz, rfl⟩ := hval i v hP
    have hS' : TxtSet w s'.heap D (fun y => decide (y ∈ xs.take i)) c := hS.at fun o e => hm.heap D o hSw e
    have hc : c ≤ ns.length := hS'.le fun x hx => hsub x (List.mem_of_mem_take (of_decide_eq_true hx))
    show wpAny _ A.in1 (holding [Value.str z t] (setAdd D (.str z t)) >>= _) _ _ s'
    refine wpAny_bind (wpAny_holding ?_)
    unfold setAdd
    refine wpAny_holding ?_
    refine wpAny_bind ((PySem.strKind P w).pyHash (k := z) (strKind_is _ _ _ _) ?_)
    refine put_hashed (s := { s' with toks := s'.toks + 1 }) hS' (by omega) fun h' hsb hS2 => ?_
    have hS3 : TxtSet w h' D (fun y => decide (y ∈ xs.take (i + 1))) (if decide (z ∈ xs.take i) = true then c else c + 1) := hS2.congr fun y => by
      rw [List.take_add_one, hz]
      simp [List.mem_append]
    refine wpAny_pure ⟨plainId_quiet F.plain_set_update_loop _, ih (i + 1) _ (by omega) hlt (W.frame _ s' _ _ hst' (Nat.le_succ _) fun b hb o e => ?_) ⟨_, hS3⟩ fun s'' c2 hm2 hS4 => ?_⟩
    · rw [hsb.2 b (fun h : b = D => hSf (h ▸ hb))]; exact e
    · refine hR s'' c2 (Moved.trans W.gtrans ((hm.mono more).then_heap (Nat.le_succ _) fun b o hb e => ?_) hm2) hS4
      rw [hsb.2 b (fun h : b = D => hb (h ▸ List.mem_cons_self))]; exact e
theorem txt_at : ∀ {us : List Value} {xs : List Str}, StrsAre us xs → ∀ (i : Nat) (v : Value), us[i]? = some v → ∃ x t, xs[i]? = some x ∧ v = .str x t
  | _, _, .nil, i, v, h => by simp at h
  | _, _, .cons n t hr, 0, v, h => ⟨n, t, rfl, by simpa using h.symm⟩
  | _, _, .cons n t hr, i + 1, v, h => by simpa using txt_at hr i v (by simpa using h)
set_option maxHeartbeats 3200000 in
theorem call_set_list {l : Addr} {items : Array Value} (xs ns : List Str) {Q : Value → Shared → Prop} (hh : A.handled = none) (hl : s.heap.IsList l items) (hit : StrsAre items.toList xs) (hsub : ∀ x ∈ xs, x ∈ ns) (hb : ns.length + 1 < scanBound)
    (h : ∀ (h' : Heap) (tk c : Nat), TxtSet w h' s.heap.objs.size (fun y => decide (y ∈ xs)) c → (∀ b o, s.heap.get? b = some o → h'.get? b = some o) → Q (.ref s.heap.objs.size) { s with heap := h', toks := tk }) :
    wpAny (model P w) A (call (.type "set") [.ref l]) Q E s := by
  have hisz : items.size = xs.length := by
    have q := StrsAre.length hit
    rw [Array.length_toList] at q
    exact q
  obtain ⟨c, tl, hmro⟩ := F.called_set.mro
  have hmade := F.called_set.made
  have hsb := F.called_set.sub
  refine wpAny_call (codeAny_of_tree ?_)
  show wpAny _ _ (callAny (.type "set") _) _ _ _
  refine wpAny_pure ⟨Code.quiet_builtin _ (by decide +kernel), codeAny_builtin F.entry_type_call ?_⟩
  rw [Around.under_plain (weight_type_call_type "set" [.ref l] []) rfl]
  have h1 := F.called_set.notType
  have h2 := F.called_set.canCreate
  have hct := F.typeCall_set_1 (.ref l)
  repeat (any_goals (first | assumption | wp_step))
  refine codeAny_mono (code_set_led1 (.ref l) (E := E) (Q₁ := fun obj s₁ => obj = .ref s.heap.objs.size ∧ s₁ = { s with heap := s.heap.push (freshSet w) }) ⟨rfl, rfl⟩) fun r s₁ hr => ?_
  cases r with
  | error e => exact hr
  | ok fl =>
    cases fl with
    | ret obj =>
      obtain ⟨rfl, rfl⟩ := hr
      have hS : (s.heap.push (freshSet w)).get? s.heap.objs.size = some (freshSet w) := Heap.get?_push_size _ rfl
      have hT : Shared.TypeIs { s with heap := s.heap.push (freshSet w) } (.ref s.heap.objs.size) "set" := ⟨_, hS, rfl⟩
      have hli := F.called_set.init.lookup
      have hbi := F.called_set.init.bind (.ref s.heap.objs.size)
      repeat (any_goals (first | assumption | wp_step))
      refine codeAny_mono (codeAny_call_builtin (R := wants (fun r s₂ => r = .none ∧ ∃ h' tk c, s₂ = { s with heap := h', toks := tk } ∧ TxtSet w h' s.heap.objs.size (fun y => decide (y ∈ xs)) c ∧
          (∀ b o, s.heap.get? b = some o → h'.get? b = some o)) E) F.called_set.init.plain F.entry_set_init (check_set_init_1 hT ?_)) fun r₂ s₂ hr₂ => ?_
      · obtain ⟨ol, hol, hcl, nl, hdl⟩ := hl
        obtain ⟨ocls, odict, odata, oslots⟩ := ol
        simp only at hcl hdl
        subst hcl; subst hdl
        have hol' : (s.heap.push (freshSet w)).get? l = some { cls := .type "list", dict := odict, data := .seq items nl, slots := oslots } := Heap.get?_push_of_some _ hol
        have hsls := PySem.F.sub_list_set
        have hslf := PySem.F.sub_list_frozenset
        have hne : (Value.type "list" == Value.type "dict") = false := by decide
        have hl1 : (s.heap.push (freshSet w)).IsList l items := ⟨_, hol', rfl, nl, rfl⟩
        unfold Builtin.«set.__init__» noKeywords Builtin.Frozenset.updateFrom
        generalize hPI : pyIter = PI
        wp_walk
        subst hPI
        refine wpAny_pyIter_list hl1 ?_
        refine wpAny_bind (wpAny_runValue ?_)
        have hlS : l < s.heap.objs.size := Heap.lt_size hol
        have hh3 : A.in1.in1.in1.handled = none := by simp [hh]
        have z1 : (s.heap.push (freshSet w)).objs.size = s.heap.objs.size + 1 := Heap.size_push ..
        have hneI : l ≠ (s.heap.push (freshSet w)).objs.size := by rw [z1]; exact Nat.ne_of_lt (Nat.lt_succ_of_lt hlS)
        have hSf : s.heap.objs.size ∉ [(s.heap.push (freshSet w)).objs.size, l] := by
          rw [z1]; simp only [List.mem_cons, List.mem_singleton, List.not_mem_nil, or_false, not_or]
          exact ⟨Nat.ne_of_lt (Nat.lt_succ_self _), Nat.ne_of_gt hlS⟩
        have hval : ∀ (i : Nat) (v : Value), items[i]? = some v → ∃ x t, xs[i]? = some x ∧ v = .str x t := fun i v hv => by
          exact txt_at hit i v (by rw [Array.getElem?_toList]; exact hv)
        refine put_loop ((Walks.list hh3 _ l hneI items).toS) s.heap.objs.size hSf xs ns hisz hsub hb hval (items.size - 0) 0 _ (by omega) (Nat.zero_le _)
          ⟨⟨_, Heap.get?_push_size _ rfl, rfl, rfl⟩, (hl1.push _)⟩ ?hS0 ?hR
        case hS0 => exact ⟨0, fresh_txt (Heap.get?_push_of_some _ hS)⟩
        case hR =>
          intro s' c' hm hS'
          obtain ⟨h', g2, d', tk', os'⟩ := s'
          have eg : g2 = s.gens := hm.gens
          have ed : d' = s.drawn := hm.drawn
          have eo : os' = s.os := hm.os
          subst eg; subst ed; subst eo
          show wpAny _ _ _ _ _ _
          refine wpAny_pure ?_
          show wpAny _ _ (ret Value.none) _ _ _
          refine wpAny_pure ⟨rfl, h', tk', c', rfl, hS', fun b o e => ?_⟩
          have hb0 : b < s.heap.objs.size := Heap.lt_size e
          refine hm.heap b o ?_ (Heap.get?_push_of_some _ (Heap.get?_push_of_some _ e))
          rw [z1]; simp only [List.mem_cons, List.mem_singleton, List.not_mem_nil, or_false, not_or]
          exact ⟨Nat.ne_of_lt hb0, Nat.ne_of_lt (Nat.lt_succ_of_lt hb0)⟩
      · cases r₂ with
        | error e => exact hr₂
        | ok fl₂ =>
          cases fl₂ with
          | ret r =>
            obtain ⟨rfl, h', tk, c', rfl, hS', hk'⟩ := hr₂
            repeat (any_goals (first | assumption | wp_step))
            exact h _ _ _ hS' hk'
          | _ => exact hr₂.elim
    | _ => exact hr.elim
theorem strsAre_names : ∀ (l : List (Int × Value)), (∀ e ∈ l, Fit w e) → StrsAre (l.map (·.2)) (l.map nameOf)
  | [], _ => .nil
  | e :: l, h => by
    obtain ⟨x, tk, h1, h2⟩ := h e List.mem_cons_self
    have q := strsAre_names l fun e he => h e (List.mem_cons_of_mem _ he)
    have z : nameOf e = x := by unfold nameOf; rw [h1]
    rw [List.map_cons, List.map_cons, z, h1]
    exact .cons x tk q
theorem strsAre_perm {us vs : List Value} (p : vs.Perm us) : ∀ {xs : List Str}, StrsAre us xs → ∃ ys : List Str, StrsAre vs ys ∧ ys.Perm xs := by
  intro xs h
  induction p generalizing xs with
  | nil => exact ⟨xs, h, .refl _⟩
  | cons v _ ih =>
    cases h with
    | cons x t h =>
      obtain ⟨ys, h1, h2⟩ := ih h
      exact ⟨x :: ys, .cons x t h1, h2.cons x⟩
  | swap v u l =>
    cases h with
    | cons x t h =>
      cases h with
      | cons y t' h => exact ⟨y :: x :: _, .cons y t' (.cons x t h), .swap x y _⟩
  | trans _ _ i1 i2 =>
    obtain ⟨ys, h1, h2⟩ := i2 h
    obtain ⟨zs, h3, h4⟩ := i1 h1
    exact ⟨zs, h3, h4.trans h2⟩
theorem sorted_txt {Q : Value → Shared → Prop} (R : TxtSet w s.heap a S n) (hh : A.handled = none)
    (hQ : ∀ s' p (out : Array Value) (c : Nat) (ys : List Str), (∀ b o, s.heap.get? b = some o → s'.heap.get? b = some o) → s'.gens = s.gens → s'.os = s.os → s.heap.objs.size ≤ p →
      s'.heap.get? p = some (seqObj "list" out c) → StrsAre out.toList ys → sortedS ys = true → ys.Nodup → (∀ x, x ∈ ys ↔ S x = true) → ys.length = n → Q (.ref p) s') :
    wpAny (model P w) A (call (.builtin "sorted") [.ref a]) Q E s := by
  obtain ⟨o, es, ep, t, ho, hex, hd, g, nd, hm, hb, hf, hn, hr, hl⟩ := R
  refine Calls.call_function_entry kind_sorted plain_sorted entry_sorted (args_sorted1 _) ?_
  unfold Builtin.«sorted»
  refine wpAny_bind (m := checkCount "sorted" 1 1 _) (wpAny_pure ?_)
  refine wpAny_bind (collect_set (A := A.in1) hh ⟨o, ho, hex.1, hd⟩ hf hb hr hl fun s1 vs k1 hz g1 o1 pm => ?_)
  have hvl : vs.length = n := by rw [pm.length_eq, List.length_map, Array.length_toList]; exact hn
  have hvz : vs.length ≤ sizeLine := by rw [hvl, ← hn]; exact fits_of_scanBound hb
  obtain ⟨zs, hZ, pz⟩ := strsAre_perm pm (strsAre_names es.toList g)
  refine wpAny_bind (wpAny_newList ?_ hvz)
  have hoL : (s1.heap.push (seqObj "list" vs.toArray 0)).get? s1.heap.objs.size = some (seqObj "list" vs.toArray 0) := Heap.get?_push_size _ rfl
  refine wpAny_bind (wpAny_holding (wpAny_call_entry slot_list_sort ⟨_, hoL, rfl⟩ entry_list_sort
    (list_sort_treeKAny strKind_oneLt hoL hZ.keysOf (fun v1 v2 rest e => keyKind_strs (by rw [← e]; exact hZ)) hvz fun st' hp hs => ⟨_, rfl, ?_⟩) (args_list_sort _)))
  obtain ⟨ys, a1, a2, a3⟩ := sorted_out_str hZ hp hs
  obtain ⟨c, hc⟩ := sortedHeap_at (vs := vs) (out := (arrOf st').map (·.2)) hoL
  have pn : ys.Perm (es.toList.map nameOf) := a2.trans pz
  refine wpAny_pure ⟨_, rfl, hQ _ s1.heap.objs.size _ c ys (fun b u e => ?_) g1 o1 hz hc a1 a3 (pn.nodup_iff.mpr nd) (fun x => by rw [pn.mem_iff, ← hm x]) ?_⟩
  · have q := k1 b u e
    have hlt := Heap.lt_size q
    show (sortedHeap (s1.heap.push (seqObj "list" vs.toArray 0)) s1.heap.objs.size vs _).get? b = some u
    rw [sortedHeap_old (Nat.ne_of_lt hlt) (by rw [size_push']; exact Nat.lt_succ_of_lt hlt)]
    exact Heap.get?_push_of_some _ q
  · rw [pn.length_eq, List.length_map, Array.length_toList]; exact hn
end
def tSortSet (K : PySem.W.Frag) (ta : TE) : TE := fun σ H Q => ta σ H fun x H1 => ∃ (l : Addr) (xs ns : List Str), x = .ref l ∧ SqL K H1 l (xs.map V.str) ∧ (∀ y ∈ xs, y ∈ ns) ∧ ns.length ≤ 4000 ∧
  ∀ (ys : List Str) (p : Addr) (H2 : Hp), sortedS ys = true → ys.Nodup → (∀ y, y ∈ ys ↔ y ∈ xs) → Same H1 H2 → H1 p = none → H2 p = some (.lst (ys.map V.str)) → Q (.ref p) H2
theorem vals_strs : ∀ {us : List Value} {xs : List Str}, StrsAre us xs → Vals (xs.map V.str) us
  | _, _, .nil => .nil
  | _, _, .cons x t h => .cons ⟨t, rfl⟩ (vals_strs h)
def TxtO (w : World) (a : Addr) (S : Str → Bool) (n : Nat) : HO := .ext fun h => TxtSet w h a S n
theorem txtO_new {w : World} {P : Program} {H : Hp} {h : Heap} {a : Addr} {S : Str → Bool} {n : Nat} (R : TxtSet w h a S n) : ObjOk P w H h a (TxtO w a S n) := by
  obtain ⟨o, es, ep, t, ho, r⟩ := id R
  exact ⟨R, ⟨o, ho⟩, fun h1 h2 f k => TxtSet.at f k⟩
def rSetL (K : PySem.W.Frag) (w : World) : List V → Hp → VK → Prop := fun vs H Q => ∃ (l : Addr) (xs ns : List Str), vs = [.ref l] ∧ SqL K H l (xs.map V.str) ∧ (∀ y ∈ xs, y ∈ ns) ∧ ns.length ≤ 4000 ∧
  ∀ p c, H p = none → Q (.ref p) (upd H p (TxtO w p (fun y => decide (y ∈ xs)) c))
def rSortT (w : World) : List V → Hp → VK → Prop := fun vs H Q => ∃ (a : Addr) (S : Str → Bool) (n : Nat), vs = [.ref a] ∧ H a = some (TxtO w a S n) ∧
  ∀ (ys : List Str) (p : Addr), sortedS ys = true → ys.Nodup → (∀ y, y ∈ ys ↔ S y = true) → H p = none → Q (.ref p) (upd H p (.lst (ys.map V.str)))
section
variable {X : Cx}
theorem cr_setL (hc : X.calm = true) : CallR X (.type "set") (rSetL X.K X.w) := by
  intro pins s σ H vs us Q I r h
  obtain ⟨l, xs, ns, rfl, hs, hsub, hn, q⟩ := h
  rw [Vals.ref1 r]
  obtain ⟨its, rv, pl, _⟩ := I.list hs
  have hS : StrsAre its xs := strsAre_of rv
  refine call_set_list xs ns (I.ok.hd hc) pl.isList hS hsub (by unfold scanBound; omega) fun h' tk c R k => ?_
  have hf : H s.heap.objs.size = none := I.hok.fresh (Nat.le_refl _)
  exact ⟨.ref s.heap.objs.size, _, I.laid (t' := tk) k (Nat.le_refl _) (txtO_new R), rfl, q _ c hf⟩
theorem cr_sortT (hc : X.calm = true) : CallR X (.builtin "sorted") (rSortT X.w) := by
  intro pins s σ H vs us Q I r h
  obtain ⟨a, S, n, rfl, ha, q⟩ := h
  rw [Vals.ref1 r]
  have R : TxtSet X.w s.heap a S n := (I.hok a _ ha).1
  refine sorted_txt R (I.ok.hd hc) fun s' p out c ys k g o hp hg hi hs hd hm hl => ?_
  have hlen : (ys.map V.str).length ≤ sizeLine := by
    obtain ⟨o', es, ep, t, _, _, _, _, _, _, hb, _, hn, _⟩ := R
    rw [List.length_map, hl, ← hn]
    exact fits_of_scanBound hb
  have hn : H p = none := I.hok.fresh hp
  have J : Inv X pins σ (upd H p (.lst (ys.map V.str))) { s with heap := s'.heap, gens := s'.gens, drawn := s'.drawn, toks := s'.toks } :=
    I.call (ch := []) (Un.laid k hp hn) (I.hok.laid k hp ⟨hlen, out.toList, c, vals_strs hi, hg⟩) (by rw [g]; exact I.bare) (fun _ z => nomatch z)
  have e : s' = { s with heap := s'.heap, gens := s'.gens, drawn := s'.drawn, toks := s'.toks } := by
    cases s'
    cases s
    cases o
    rfl
  rw [e]
  exact ⟨.ref p, _, J, rfl, q ys p hs hd hm hn⟩
variable {a : Expr} {ta : TE} {p p2 q pos : Pos}
/-- an expression at one place, its wish weakened -/
theorem pe_at {e : Expr} {t : TE} (h : PE X e t) (σ : L2.St) (H : Hp) (Q0 : VK) (h0 : t σ H Q0) : PE X e (fun σ' H' Q' => σ' = σ ∧ H' = H ∧ ∀ x H1, Q0 x H1 → Q' x H1) :=
  ⟨fun pins s σ' H' Q' I ⟨e1, e2, k⟩ => by
    subst e1 e2
    exact thn (h.run pins s _ _ Q0 I h0) fun v s1 ⟨x, H1, I1, r1, q1⟩ => ⟨x, H1, I1, r1, k x H1 q1⟩⟩
theorem pe_sortSet (hc : X.calm = true) (hg : Gl X "sorted") (hm : X.mg "sorted" = none) (hg2 : Gl X "set") (hm2 : X.mg "set" = none) (ha : PE X a ta)
    (hs : starEach [a] X.env = (false, eval a X.env) :: starEach [] X.env := by rfl) (hs2 : starEach [.Call (.Name "set" p2) [a] [] q] X.env = (false, eval (.Call (.Name "set" p2) [a] [] q) X.env) :: starEach [] X.env := by rfl)
    (e1 : (backTo q (starEach [] X.env)).any (·.1) = false := by rfl) (e2 : (backTo pos (starEach [] X.env)).any (·.1) = false := by rfl) :
    PE X (.Call (.Name "sorted" p) [.Call (.Name "set" p2) [a] [] q] [] pos) (tSortSet X.K ta) := by
  refine ⟨fun pins s σ H Q I h => ?_⟩
  have hp1 := pa_cons (pe_at ha σ H _ h) pa_nil hs
  have hp2 := pe_callTy (pos := q) (p := p2) (cr_setL hc) hg2 hm2 (by decide +kernel) hp1 (by decide) (by decide) hs e1
  have hp3 := pe_callB (pos := pos) (p := p) (cr_sortT hc) hg hm (by decide +kernel) (pa_cons hp2 pa_nil hs2) (by decide) (by decide) hs2 e2
  refine hp3.run pins s σ H Q I ⟨rfl, rfl, fun x H1 ⟨l, xs, ns, e, hl, hsub, hn, k⟩ => ?_⟩
  refine ⟨l, xs, ns, by rw [e], hl, hsub, hn, fun p c hp => ?_⟩
  refine ⟨p, _, c, rfl, upd_same, fun ys r h1 h2 h3 hr => ?_⟩
  have new : ∀ {H : Hp} {p : Addr} {o : HO}, H p = none → Same H (upd H p o) := fun h b u q => by rw [upd_ne (ne_of_none q h)]; exact q
  exact k ys r _ h1 h2 (fun y => (h3 y).trans decide_eq_true_iff) ((new hp).trans (new hr)) ((new hp).free hr) upd_same
end
end HuS
namespace Hu
open PySem PySem.Spec PyProof.Rows L2 HuS
abbrev cs (x : Str) : List Nat := x.cps.toList
theorem cs_app (x y : Str) : cs (x ++ y) = cs x ++ cs y := TL.tl_append x y
theorem cs_len (x : Str) : x.length = (cs x).length := by simp [Str.length]
theorem cs_one (c : Nat) : cs ⟨#[c]⟩ = [c] := rfl
theorem cs_slTo {x : Str} {i : Int} (h : 0 ≤ i) : cs (Txt.slice x none (some i)) = (cs x).take i.toNat := by
  have e := SX.slice_to (a := cs x) h
  rw [SX.S_tl] at e
  rw [e]
theorem cs_slFrom {x : Str} {i : Int} (h : 0 ≤ i) : cs (Txt.slice x (some i) none) = (cs x).drop i.toNat := by
  have e := SX.slice_from (a := cs x) h
  rw [SX.S_tl] at e
  rw [e]
def az : Str := "abcdefghijklmnopqrstuvwxyz"
def az9 : Str := "abcdefghijklmnopqrstuvwxyz0123456789"
def n09 : Str := "0123456789"
def words : List Str := ["set", "tell", "skip", "if", "else", "while", "end"]
def IsLet (c : Nat) : Prop := 97 ≤ c ∧ c ≤ 122
def IsSgn (c : Nat) : Prop := (97 ≤ c ∧ c ≤ 122) ∨ (48 ≤ c ∧ c ≤ 57)
theorem az_cs : cs az = (List.range 26).map (· + 97) := by decide +kernel
theorem n09_cs : cs n09 = (List.range 10).map (· + 48) := by decide +kernel
theorem az9_eq : az9 = az ++ n09 := by decide +kernel
theorem az9_cs : cs az9 = (List.range 26).map (· + 97) ++ (List.range 10).map (· + 48) := by rw [az9_eq, cs_app, az_cs, n09_cs]
theorem az_at {i : Int} (h0 : 0 ≤ i) (h : i < 26) : atI (cs az) i = some (i.toNat + 97) := by
  obtain ⟨j, rfl⟩ := Int.eq_ofNat_of_zero_le h0
  rw [Int.toNat_natCast]
  refine atI_nat ?_
  rw [az_cs, List.getElem?_map, List.getElem?_range (by omega)]
  rfl
theorem az9_at {i : Int} (h0 : 0 ≤ i) (h : i < 36) : ∃ c, atI (cs az9) i = some c ∧ IsSgn c := by
  obtain ⟨j, rfl⟩ := Int.eq_ofNat_of_zero_le h0
  by_cases hj : j < 26
  · refine ⟨j + 97, atI_nat ?_, .inl ⟨by omega, by omega⟩⟩
    rw [az9_cs, List.getElem?_append_left (by simpa using hj), List.getElem?_map, List.getElem?_range (by omega)]
    rfl
  · refine ⟨(j - 26) + 48, atI_nat ?_, .inr ⟨by omega, by omega⟩⟩
    rw [az9_cs, List.getElem?_append_right (by simp; omega), List.length_map, List.length_range, List.getElem?_map, List.getElem?_range (by omega)]
    rfl
/-- a name -/
structure Nm (x : Str) : Prop where
  pos : 1 ≤ (cs x).length
  most : (cs x).length ≤ 8
  hd : ∀ c, (cs x)[0]? = some c → IsLet c
  all : ∀ c ∈ cs x, IsSgn c
  nw : x ∉ words
/-- a name but for the words -/
structure Nw (x : Str) (n : Nat) : Prop where
  pos : 1 ≤ (cs x).length
  most : (cs x).length ≤ n
  hd : ∀ c, (cs x)[0]? = some c → IsLet c
  all : ∀ c ∈ cs x, IsSgn c
theorem Nm.nw' {x : Str} (h : Nm x) : Nw x 8 := ⟨h.pos, h.most, h.hd, h.all⟩
theorem words_short : ∀ x ∈ words, (cs x).length ≤ 5 := by decide +kernel
theorem words_zero : ∀ x ∈ words, (cs x).getLast? ≠ some 48 := by decide +kernel
theorem Nw.zero {x : Str} {n : Nat} (h : Nw x n) (w : x ∈ words) : Nm (x ++ ("0" : Str)) := by
  have e : cs (x ++ ("0" : Str)) = cs x ++ [48] := by rw [cs_app]; exact congrArg (cs x ++ ·) (by decide +kernel)
  have l := words_short x w
  refine ⟨?_, ?_, fun c hc => ?_, fun c hc => ?_, fun hw => words_zero _ hw ?_⟩
  · rw [e, List.length_append]; have := h.pos; omega
  · rw [e, List.length_append, List.length_singleton]; omega
  · rw [e, List.getElem?_append_left (by have := h.pos; omega)] at hc
    exact h.hd c hc
  · rw [e] at hc
    rcases List.mem_append.mp hc with hc | hc
    · exact h.all c hc
    · rw [List.mem_singleton.mp hc]; exact .inr ⟨by omega, by omega⟩
  · rw [e, List.getLast?_append]; rfl
theorem Nw.nm {x : Str} (h : Nw x 8) (w : x ∉ words) : Nm x := ⟨h.pos, h.most, h.hd, h.all, w⟩
theorem Nw.snoc {x : Str} {n c : Nat} (h : Nw x n) (hc : IsSgn c) : Nw (x ++ ⟨#[c]⟩) (n + 1) := by
  have e : cs (x ++ ⟨#[c]⟩) = cs x ++ [c] := cs_app _ _
  refine ⟨?_, ?_, fun d hd => ?_, fun d hd => ?_⟩
  · rw [e, List.length_append]; have := h.pos; omega
  · rw [e, List.length_append, List.length_singleton]; have := h.most; omega
  · rw [e, List.getElem?_append_left (by have := h.pos; omega)] at hd
    exact h.hd d hd
  · rw [e] at hd
    rcases List.mem_append.mp hd with hd | hd
    · exact h.all d hd
    · rw [List.mem_singleton.mp hd]; exact hc
theorem Nw.one {c : Nat} (h : IsLet c) : Nw ⟨#[c]⟩ 1 := ⟨Nat.le_refl _, Nat.le_refl _, fun d hd => by
  have e : c = d := Option.some.inj hd
  exact e ▸ h, fun d hd => by rw [List.mem_singleton.mp hd]; exact .inl h⟩
/-- one sign put in the place of another -/
theorem Nw.swap {x : Str} {at' : Nat} {c : Nat} (h : Nw x 8) (ha : at' < (cs x).length) (hc : IsSgn c) (h0 : at' = 0 → IsLet c) :
    Nw (Txt.slice x none (some (at' : Int)) ++ ⟨#[c]⟩ ++ Txt.slice x (some ((at' : Int) + 1)) none) 8 := by
  have e : cs (Txt.slice x none (some (at' : Int)) ++ ⟨#[c]⟩ ++ Txt.slice x (some ((at' : Int) + 1)) none) = ((cs x).take at' ++ [c]) ++ (cs x).drop (at' + 1) := by
    rw [cs_app, cs_app, cs_slTo (by omega), cs_slFrom (by omega)]
    have : ((at' : Int) + 1).toNat = at' + 1 := by omega
    rw [this, Int.toNat_natCast, cs_one]
  have l := h.most
  refine ⟨?_, ?_, fun d hd => ?_, fun d hd => ?_⟩
  · rw [e]; simp only [List.length_append, List.length_singleton]; omega
  · rw [e]; simp only [List.length_append, List.length_singleton, List.length_take, List.length_drop]; omega
  · rw [e] at hd
    cases at' with
    | zero =>
      have z : c = d := Option.some.inj hd
      exact z ▸ h0 rfl
    | succ k =>
      rw [List.append_assoc, List.getElem?_append_left (by rw [List.length_take]; omega), List.getElem?_take_of_lt (by omega)] at hd
      exact h.hd d hd
  · rw [e] at hd
    rcases List.mem_append.mp hd with hd | hd
    · rcases List.mem_append.mp hd with hd | hd
      · exact h.all d (List.mem_of_mem_take hd)
      · rw [List.mem_singleton.mp hd]; exact hc
    · exact h.all d (List.mem_of_mem_drop hd)
theorem Nw.cut {x : Str} {c : Nat} (h : Nw x 8) (hc : IsLet c) : Nw (Txt.slice x none (some 7) ++ ⟨#[c]⟩) 8 := by
  have e : cs (Txt.slice x none (some 7) ++ ⟨#[c]⟩) = (cs x).take 7 ++ [c] := by
    rw [cs_app, cs_slTo (by omega), cs_one] <;> rfl
  have l := h.most
  have p := h.pos
  refine ⟨?_, ?_, fun d hd => ?_, fun d hd => ?_⟩
  · rw [e, List.length_append, List.length_singleton]; omega
  · rw [e, List.length_append, List.length_singleton, List.length_take]; omega
  · rw [e, List.getElem?_append_left (by rw [List.length_take]; omega), List.getElem?_take_of_lt (by omega)] at hd
    exact h.hd d hd
  · rw [e] at hd
    rcases List.mem_append.mp hd with hd | hd
    · exact h.all d (List.mem_of_mem_take hd)
    · rw [List.mem_singleton.mp hd]; exact .inl hc
theorem flat_txt (xs : List Str) : (xs.map V.str).all flatV = true := by
  rw [List.all_map, List.all_eq_true]
  intro _ _
  rfl
theorem inV_txt (x : Str) (xs : List Str) : inV (.str x) (xs.map V.str) = decide (x ∈ xs) := by
  unfold inV
  rw [List.any_map]
  induction xs with
  | nil => rfl
  | cons y r ih =>
    rw [List.any_cons, ih]
    show ((y == x) || decide (x ∈ r)) = _
    by_cases e : y = x
    · subst e; simp
    · have e2 : ¬ x = y := fun z => e z.symm
      simp [e, e2]
/-- the text behind i turns -/
def cand (x : Str) (o k : Int) : Nat → Str
  | 0 => x
  | i + 1 => cand (Txt.slice x none (some 7) ++ ⟨#[((o + (x.length : Int) + k) % 26).toNat + 97]⟩) (o + 5) k i
def step7 (x : Str) (o k : Int) : Str := Txt.slice x none (some 7) ++ ⟨#[((o + (x.length : Int) + k) % 26).toNat + 97]⟩
theorem step7_cs (x : Str) (o k : Int) : cs (step7 x o k) = (cs x).take 7 ++ [((o + (x.length : Int) + k) % 26).toNat + 97] := by
  unfold step7
  rw [cs_app, cs_slTo (by omega), cs_one] <;> rfl
theorem cand_succ (x : Str) (o k : Int) (i : Nat) : cand x o k (i + 1) = cand (step7 x o k) (o + 5) k i := rfl
theorem cand_add (x : Str) (o k : Int) : ∀ i j, cand x o k (i + j) = cand (cand x o k i) (o + 5 * i) k j
  | 0, j => by
    rw [Nat.zero_add]
    have : o + 5 * ((0 : Nat) : Int) = o := by omega
    rw [this] <;> rfl
  | i + 1, j => by
    rw [Nat.succ_add, cand_succ, cand_succ, cand_add (step7 x o k) (o + 5) k i j]
    have : o + 5 + 5 * (i : Int) = o + 5 * ((i + 1 : Nat) : Int) := by omega
    rw [this]
theorem cand_len (x : Str) (o k : Int) (h : (cs x).length ≤ 8) : ∀ i, (cs (cand x o k i)).length ≤ 8 ∧ min 8 ((cs x).length + i) ≤ (cs (cand x o k i)).length
  | 0 => ⟨h, by show min 8 ((cs x).length + 0) ≤ (cs x).length; omega⟩
  | i + 1 => by
    have e : (cs (step7 x o k)).length = min 7 (cs x).length + 1 := by rw [step7_cs, List.length_append, List.length_take, List.length_singleton]
    have q := cand_len (step7 x o k) (o + 5) k (by omega) i
    rw [cand_succ]
    omega
/-- once eight long -/
theorem cand_eight (x : Str) (o k : Int) (h : (cs x).length = 8) : ∀ i, cs (cand x o k (i + 1)) = (cs x).take 7 ++ [((o + 5 * (i : Int) + 8 + k) % 26).toNat + 97]
  | 0 => by
    show cs (step7 x o k) = _
    rw [step7_cs, cs_len, h]
    have : o + 5 * ((0 : Nat) : Int) + 8 + k = o + ((8 : Nat) : Int) + k := by omega
    rw [this]
  | i + 1 => by
    have l : (cs (step7 x o k)).length = 8 := by rw [step7_cs, List.length_append, List.length_take, List.length_singleton, h] <;> rfl
    have q := cand_eight (step7 x o k) (o + 5) k l i
    rw [cand_succ, q, step7_cs]
    have e1 : ((cs x).take 7 ++ [((o + (x.length : Int) + k) % 26).toNat + 97]).take 7 = (cs x).take 7 := by
      rw [List.take_append_of_le_length (by rw [List.length_take, h]; omega), List.take_take] <;> rfl
    have e2 : o + 5 + 5 * (i : Int) + 8 + k = o + 5 * ((i + 1 : Nat) : Int) + 8 + k := by omega
    rw [e1, e2]
theorem cand_inj (x : Str) (o k : Int) (h : (cs x).length = 8) {i j : Nat} (hi : i < 26) (hj : j < 26) (e : cand x o k (i + 1) = cand x o k (j + 1)) : i = j := by
  have q := congrArg cs e
  rw [cand_eight x o k h, cand_eight x o k h] at q
  have z := List.append_cancel_left q
  injection z with z _
  have a1 := Int.emod_nonneg (o + 5 * (i : Int) + 8 + k) (show (26 : Int) ≠ 0 by decide)
  have a2 := Int.emod_nonneg (o + 5 * (j : Int) + 8 + k) (show (26 : Int) ≠ 0 by decide)
  omega
theorem cand_out (x : Str) (o k : Int) (h : (cs x).length = 8) (ns : List Str) (hn : ns.length ≤ 20) : ∃ m, m ≤ 26 ∧ cand x o k m ∉ ns := by
  refine Classical.byContradiction fun no => ?_
  have all : ∀ i, i < 26 → cand x o k (i + 1) ∈ ns := fun i hi => Classical.byContradiction fun z => no ⟨i + 1, by omega, z⟩
  have nd : ((List.range 26).map fun i => cand x o k (i + 1)).Nodup := by
    unfold List.Nodup
    rw [List.pairwise_map]
    refine List.Pairwise.imp_of_mem (fun {a b} ha hb hab e => ?_) (List.nodup_range (n := 26))
    exact hab (cand_inj x o k h (List.mem_range.mp ha) (List.mem_range.mp hb) e)
  have l := HuS.nodup_le nd fun y hy => by
    obtain ⟨i, hi, rfl⟩ := List.mem_map.mp hy
    exact all i (List.mem_range.mp hi)
  rw [List.length_map, List.length_range] at l
  omega
theorem cand_ends (x : Str) (o k : Int) (h : (cs x).length ≤ 8) (ns : List Str) (hn : ns.length ≤ 20) : ∃ m, cand x o k m ∉ ns := by
  have l := cand_len x o k h 8
  have l8 : (cs (cand x o k 8)).length = 8 := by omega
  obtain ⟨m, _, hm⟩ := cand_out (cand x o k 8) (o + 5 * ((8 : Nat) : Int)) k l8 ns hn
  exact ⟨8 + m, by rw [cand_add]; exact hm⟩
def rFind : V → List V → Hp → VK → Prop := fun x xs H Q => ∃ a b, x = .str a ∧ xs = [.str b] ∧ Q (.int (Txt.find a b)) H
section
variable {K : PySem.W.Frag} {σ : L2.St} {H : Hp} {Q : VK} {x y v : V} {ta tb tc te : TE} {t u : TT} {D : Ends} {ts tu tw : TS}
theorem w_new {n : Nat} {R : Addr → Prop} (z : n ≤ sizeLine) (q : ∀ p, H p = none → R p) : n ≤ sizeLine ∧ ∀ p, H p = none → R p := ⟨z, q⟩
theorem w_for {wi : TI} {g : TG} (q : wi σ H fun J H1 => ∃ W : Nat → Nat → L2.St → Hp → Prop, (∃ m, W 0 m σ H1) ∧ ∀ i m σ H, W i m σ H →
    (J.stop i H ∧ D.nx σ H) ∨ (J.go i H ∧ ∃ N : L2.St → Hp → Prop, (∀ σ' H', N σ' H' → ∃ m', m' < m ∧ W (i + 1) m' σ' H') ∧ ∀ x H', J.yld i H x H' → g x σ H' fun σ2 H2 => ts { D with nx := N, ct := N, bk := D.nx } σ2 H2)) : tFor wi g ts D σ H := q
theorem w_rng1 {ta : TA} {R : It → Hp → Prop} (q : ta σ H fun vs H1 => ∃ j : Int, vs = [.int j] ∧ -(2 ^ 62) ≤ j ∧ j < 2 ^ 62 ∧ R (Itr 0 j.toNat) H1) : iRng1 ta σ H R := q
theorem w_iseq {R : It → Hp → Prop} (q : te σ H fun x H1 => ∃ a, x = .ref a ∧ (((∃ xs, SqL K H1 a xs) ∧ R (Itl K a) H1) ∨ ((∃ xs, SqT K H1 a xs) ∧ R (Itt K a) H1))) : iSeq K te σ H R := q
theorem w_isL {a : Addr} {xs : List V} {P1 : Addr → Prop} {P2 : Addr → Prop} (h : SqL K H a xs) (q : P1 a) : ∃ b, V.ref a = .ref b ∧ (((∃ xs, SqL K H b xs) ∧ P1 b) ∨ P2 b) := ⟨a, rfl, .inl ⟨⟨xs, h⟩, q⟩⟩
theorem w_isT {a : Addr} {xs : List V} {P1 : Addr → Prop} {P2 : Addr → Prop} (h : SqT K H a xs) (q : P2 a) : ∃ b, V.ref a = .ref b ∧ (P1 b ∨ ((∃ xs, SqT K H b xs) ∧ P2 b)) := ⟨a, rfl, .inr ⟨⟨xs, h⟩, q⟩⟩
theorem w_inTxt {p : Addr} {z : Str} {xs : List Str} (h : SqL K H p (xs.map V.str)) (q : Q (.bl (decide (z ∈ xs))) H) : rIn2 K false (.str z) (.ref p) H Q := .inl ⟨p, _, rfl, .inl h, rfl, flat_txt xs, by rw [inV_txt]; exact q⟩
theorem w_ninTxt {p : Addr} {z : Str} {xs : List Str} (h : SqL K H p (xs.map V.str)) (q : Q (.bl (!decide (z ∈ xs))) H) : rIn2 K true (.str z) (.ref p) H Q := .inl ⟨p, _, rfl, .inl h, rfl, flat_txt xs, by rw [inV_txt]; exact q⟩
theorem w_inTxtT {p : Addr} {z : Str} {xs : List Str} (h : SqT K H p (xs.map V.str)) (q : Q (.bl (decide (z ∈ xs))) H) : rIn2 K false (.str z) (.ref p) H Q := .inl ⟨p, _, rfl, .inr h, rfl, flat_txt xs, by rw [inV_txt]; exact q⟩
theorem w_tYes {Q : Bool → Hp → Prop} (q : Q true H) : tYes σ H Q := q
theorem w_gN {i : Nat} {Qs : L2.St → Hp → Prop} (q : Qs (σ.set i (some v)) H) : gName i v σ H Qs := q
theorem w_gTup {n : Nat} {t : TGs} {a : Addr} {xs : List V} {Qs : L2.St → Hp → Prop} (h : SqT K H a xs) (l : xs.length = n) (q : t xs σ H Qs) : gTup K n t (.ref a) σ H Qs := ⟨a, xs, rfl, h, l, q⟩
theorem w_gTupN {n : Nat} {t : TGs} {a : Addr} {xs : List V} {Qs : L2.St → Hp → Prop} (l : xs.length = n) (q : t xs σ (upd H a (.tup xs)) Qs) : gTup K n t (.ref a) σ (upd H a (.tup xs)) Qs := ⟨a, xs, rfl, SqT.of upd_same, l, q⟩
theorem w_gCons {t : TG} {u : TGs} {vs : List V} {Qs : L2.St → Hp → Prop} (q : t v σ H fun σ' H' => u vs σ' H' Qs) : gCons t u (v :: vs) σ H Qs := ⟨v, vs, rfl, q⟩
theorem w_gNil {Qs : L2.St → Hp → Prop} (q : Qs σ H) : gNil [] σ H Qs := ⟨rfl, q⟩
theorem w_enum {ta : TA} {R : It → Hp → Prop} (q : ta σ H fun vs H1 => ∃ a xs, vs = [.ref a] ∧ SqL K H1 a xs ∧ R (Ite K a) H1) : iEnum K ta σ H R := q
theorem w_rng2 {ta : TA} {R : It → Hp → Prop} (q : ta σ H fun vs H1 => ∃ i j : Int, vs = [.int i, .int j] ∧ (-(2 ^ 62) ≤ i ∧ i < 2 ^ 62 ∧ -(2 ^ 62) ≤ j ∧ j < 2 ^ 62) ∧ R (Itr i (j - i).toNat) H1) : iRng2 ta σ H R := q
theorem w_isNref {a : Addr} (q : Q (.bl false) H) : rIsN2 false (.ref a) .non H Q := ⟨rfl, q⟩
theorem w_notNref {a : Addr} (q : Q (.bl true) H) : rIsN2 true (.ref a) .non H Q := ⟨rfl, q⟩
theorem w_isNint {i : Int} (q : Q (.bl false) H) : rIsN2 false (.int i) .non H Q := ⟨rfl, q⟩
theorem w_notNint {i : Int} (q : Q (.bl true) H) : rIsN2 true (.int i) .non H Q := ⟨rfl, q⟩
theorem w_isNnon (q : Q (.bl true) H) : rIsN2 false .non .non H Q := ⟨rfl, q⟩
theorem w_notNnon (q : Q (.bl false) H) : rIsN2 true .non .non H Q := ⟨rfl, q⟩
theorem w_dget {td ty : TE} (q : td σ H fun x H1 => ty σ H1 fun y H2 => ∃ a v, x = .ref a ∧ DGet H2 a y (some v) ∧ Q v H2) : tDGet td ty σ H Q := q
theorem w_dput {td ty tv : TE} (q : tv σ H fun v H1 => td σ H1 fun x H2 => ty σ H2 fun y H3 => ∃ a H4, x = .ref a ∧ DPut H3 a y v H4 ∧ D.nx σ H4) : sDPut td ty tv D σ H := q
theorem w_dnew (q : ∀ p, H p = none → Q (.ref p) (upd H p (.dK []))) : tDNewK σ H Q := q
theorem w_dgetAt {a : Addr} {kvs : List (Key × V)} {x : Str} {R : V → Prop} {v : V} (h : H a = some (.dK kvs)) (e : valV kvs (.inr x) = some v) (q : R v) : ∃ b w, V.ref a = .ref b ∧ DGet H b (.str x) (some w) ∧ R w := ⟨a, v, rfl, by rw [← e]; exact DGet.k (k := .inr x) h, q⟩
theorem w_dputAt {a : Addr} {kvs : List (Key × V)} {x : Str} {y : V} {R : Hp → Prop} (h : H a = some (.dK kvs)) (l : kvs.length < sizeLine) (q : R (upd H a (.dK (putK kvs (.inr x) y)))) : ∃ b H4, V.ref a = .ref b ∧ DPut H b (.str x) y H4 ∧ R H4 := ⟨a, _, rfl, DPut.k (k := .inr x) h l, q⟩
theorem w_retN (q : D.rt .non H) : tRetN D σ H := q
theorem w_cont (q : D.ct σ H) : tCont D σ H := q
theorem w_inSg {neg : Bool} {c : Nat} {z : Str} (q : Q (.bl (if neg then !decide (c ∈ cs z) else decide (c ∈ cs z))) H) : rIn2 K neg (.str ⟨#[c]⟩) (.str z) H Q := .inr ⟨c, z, rfl, rfl, q⟩
theorem w_ninTxtT {p : Addr} {z : Str} {xs : List Str} (h : SqT K H p (xs.map V.str)) (q : Q (.bl (!decide (z ∈ xs))) H) : rIn2 K true (.str z) (.ref p) H Q := .inl ⟨p, _, rfl, .inr h, rfl, flat_txt xs, by rw [inV_txt]; exact q⟩
theorem w_isLT {a tp : Addr} {xs : List V} (h : H tp = some (.tup [.ty "list", .ty "tuple"])) (s : SqL K H a xs ∨ SqT K H a xs) (q : Q (.bl true) H) : rIsi2 K [.ref a, .ref tp] H Q := by
  rcases s with s | s
  · exact .inr ⟨_, _, _, _, [.type "list", .type "tuple"], true, rfl, h, .cons (.ty _) (.cons (.ty _) .nil), tyx_l s, rfl, q⟩
  · exact .inr ⟨_, _, _, _, [.type "list", .type "tuple"], true, rfl, h, .cons (.ty _) (.cons (.ty _) .nil), tyx_t s, rfl, q⟩
theorem w_sl {tl th : TO} {r : V → Option Int → Option Int → Hp → VK → Prop} (q : te σ H fun x H1 => tl σ H1 fun l H2 => th σ H2 fun u H3 => r x l u H3 Q) : tSl r te tl th σ H Q := q
theorem w_noP {Q : Option Int → Hp → Prop} (q : Q none H) : tNoPart σ H Q := q
theorem w_part {Q : Option Int → Hp → Prop} (q : te σ H fun x H1 => ∃ i, x = .int i ∧ Q (some i) H1) : tPart te σ H Q := q
theorem w_slS {z : Str} {lo hi : Option Int} (h : z.length ≤ sizeLine) (q : Q (.str (Txt.slice z lo hi)) H) : rSl K (.str z) lo hi H Q := .inr (.inr ⟨z, rfl, h, q⟩)
theorem w_slL {a : Addr} {xs : List V} {lo hi : Option Int} (h : SqL K H a xs) (q : ∀ p, H p = none → Q (.ref p) (upd H p (.lst (cutV xs lo hi)))) : rSl K (.ref a) lo hi H Q := .inl ⟨a, xs, rfl, h, q⟩
theorem w_exI {i : Int} {R : Int → Prop} (q : R i) : ∃ j, V.int i = .int j ∧ R j := ⟨i, rfl, q⟩
theorem w_bm {T : String} {r : V → List V → Hp → VK → Prop} {t : TA} (q : te σ H fun x H1 => tyV K T x H1 ∧ t σ H1 fun xs H2 => r x xs H2 Q) : tBM K T r te t σ H Q := q
theorem w_bmS {z : Str} {R : Prop} (q : R) : tyV K "str" (.str z) H ∧ R := ⟨rfl, q⟩
theorem w_bmL {p : Addr} {xs : List V} {R : Prop} (h : SqL K H p xs) (q : R) : tyV K "list" (.ref p) H ∧ R := ⟨.inl ⟨rfl, xs, h⟩, q⟩
theorem w_find {a b : Str} (q : Q (.int (Txt.find a b)) H) : rFind (.str a) [.str b] H Q := ⟨a, b, rfl, rfl, q⟩
theorem w_bm0 {T : String} {r : V → List V → Hp → VK → Prop} (q : te σ H fun x H1 => tyV K T x H1 ∧ r x [] H1 Q) : tBM0 K T r te σ H Q := q
theorem w_pop {l : Addr} {xs : List V} (h : H l = some (.lst xs)) (e : xs[xs.length - 1]? = some y) (q : Q y (upd H l (.lst xs.dropLast))) : rPop (.ref l) [] H Q := ⟨l, xs, y, rfl, rfl, h, e, q⟩
theorem w_tupL {p : Addr} {xs : List V} (h : SqL K H p xs) (q : ∀ l, H l = none → Q (.ref l) (upd H l (.tup xs))) : rTupO K [.ref p] H Q := ⟨p, xs, rfl, .inl ⟨h, q⟩⟩
theorem w_app {l : Addr} {xs : List V} (h : H l = some (.lst xs)) (z : xs.length < sizeLine) (q : Q .non (upd H l (.lst (xs ++ [y])))) : rAppend (.ref l) [y] H Q := ⟨l, xs, y, rfl, rfl, h, z, q⟩
theorem w_while' {c : TT} (Pv : Nat → L2.St → Hp → Prop) (m0 : Nat) (h0 : Pv m0 σ H)
    (hs : ∀ m σ' H', Pv m σ' H' → c σ' H' fun b H1 => if b = true then ∃ N : L2.St → Hp → Prop, (∀ σ2 H2, N σ2 H2 → ∃ m', m' < m ∧ Pv m' σ2 H2) ∧ ts { D with nx := N, ct := N, bk := D.nx } σ' H1 else D.nx σ' H1) : tWhile c ts D σ H :=
  ⟨Pv, ⟨m0, h0⟩, hs⟩
theorem w_body {m : Nat} {Pv : Nat → L2.St → Hp → Prop} {S : Ends} (h : ts { S with nx := fun σ2 H2 => ∃ m', m' < m ∧ Pv m' σ2 H2, ct := fun σ2 H2 => ∃ m', m' < m ∧ Pv m' σ2 H2, bk := D.nx } σ H) :
    ∃ N : L2.St → Hp → Prop, (∀ σ2 H2, N σ2 H2 → ∃ m', m' < m ∧ Pv m' σ2 H2) ∧ ts { S with nx := N, ct := N, bk := D.nx } σ H := ⟨_, fun _ _ h => h, h⟩
end
local macro_rules | `(tactic| walk_at "sm.") => `(tactic| (refine Same.trans (H1 := ?M) ?a ?b; (case b => with_reducible assumption); (case a => walk_at "sm")))
local macro_rules | `(tactic| walk_at "sm.") => `(tactic| (refine same_mut ?_ (by with_reducible assumption); walk_at "sm"))
local macro_rules | `(tactic| walk_at "sm.") => `(tactic| (refine Same.trans ?_ (same_new (by with_reducible assumption)); walk_at "sm"))
local macro_rules | `(tactic| walk_at "sm.") => `(tactic| exact Same.refl _)
local macro_rules | `(tactic| walk_at "sm.") => `(tactic| with_reducible assumption)
local macro_rules | `(tactic| walk_at "sm") => `(tactic| first | walk_at "sm." | fail)
local macro_rules | `(tactic| walk_at "sq.") => `(tactic| (refine SqT.of (Eq.trans (upd_ne ?n) ?h); (case h => with_reducible assumption); (case n => walk_at "ne")))
local macro_rules | `(tactic| walk_at "sq.") => `(tactic| (refine SqL.of (Eq.trans (upd_ne ?n) ?h); (case h => with_reducible assumption); (case n => walk_at "ne")))
local macro_rules | `(tactic| walk_at "sq.") => `(tactic| exact SqT.of (by with_reducible assumption))
local macro_rules | `(tactic| walk_at "sq.") => `(tactic| exact SqL.of (by with_reducible assumption))
local macro_rules | `(tactic| walk_at "sq.") => `(tactic| exact SqL.of upd_same)
local macro_rules | `(tactic| walk_at "sq.") => `(tactic| exact SqT.of upd_same)
local macro_rules | `(tactic| walk_at "sq.") => `(tactic| (refine same_l (H := ?M) ?e ?h; (case h => with_reducible assumption); (case e => walk_at "sm")))
local macro_rules | `(tactic| walk_at "sq.") => `(tactic| (refine same_t (H := ?M) ?e ?h; (case h => with_reducible assumption); (case e => walk_at "sm")))
local macro_rules | `(tactic| walk_at "sq.") => `(tactic| with_reducible assumption)
local macro_rules | `(tactic| walk_at "sq") => `(tactic| first | walk_at "sq." | fail)
local macro_rules | `(tactic| walk_at "ne.") => `(tactic| exact (ne_of_none (by with_reducible assumption) (by with_reducible assumption)).symm)
local macro_rules | `(tactic| walk_at "ne.") => `(tactic| exact ne_of_none (by with_reducible assumption) (by with_reducible assumption))
local macro_rules | `(tactic| walk_at "ne.") => `(tactic| with_reducible assumption)
local macro_rules | `(tactic| walk_at "ne") => `(tactic| first | walk_at "ne." | fail)
local macro_rules | `(tactic| walk_at "sz.") => `(tactic| (refine sz ?_; first | omega | (simp only [List.length_cons, List.length_nil, List.length_map]; omega) | (simp only [cs_len]; omega)))
local macro_rules | `(tactic| walk_at "sz.") => `(tactic| with_reducible assumption)
local macro_rules | `(tactic| walk_at "sz") => `(tactic| first | walk_at "sz." | fail)
set_option hygiene false in
local macro_rules | `(tactic| walk_at "new") => `(tactic| (refine w_new ?_ (fun p hp => ?_); (walk_at "sz")))
local macro_rules | `(tactic| walk_at "tr.") => `(tactic| exact decide_eq_false (by with_reducible assumption))
local macro_rules | `(tactic| walk_at "tr.") => `(tactic| exact decide_eq_true (by with_reducible assumption))
local macro_rules | `(tactic| walk_at "tr.") => `(tactic| decide +kernel)
local macro_rules | `(tactic| walk_at "tr.") => `(tactic| with_reducible rfl)
local macro_rules | `(tactic| walk_at "tr.") => `(tactic| with_reducible assumption)
local macro_rules | `(tactic| walk_at "tr") => `(tactic| first | walk_at "tr." | fail)
local macro_rules | `(tactic| walk_at "go1.") => `(tactic| with_reducible refine w_tup ?_)
local macro_rules | `(tactic| walk_at "go1.") => `(tactic| with_reducible refine w_lst ?_)
local macro_rules | `(tactic| walk_at "go1.") => `(tactic| ((with_reducible refine w_lenT (xs := ?xs) ?h ?_); (case h => walk_at "sq")))
local macro_rules | `(tactic| walk_at "go1.") => `(tactic| ((with_reducible refine w_lenL (xs := ?xs) ?h ?_); (case h => walk_at "sq")))
local macro_rules | `(tactic| walk_at "go1.") => `(tactic| ((with_reducible refine w_addT ?z ?_); (case z => walk_at "sz")))
local macro_rules | `(tactic| walk_at "go1.") => `(tactic| ((with_reducible refine w_lenS ?z ?_); (case z => walk_at "sz")))
local macro_rules | `(tactic| walk_at "go1.") => `(tactic| ((with_reducible refine w_slS ?z ?_); (case z => walk_at "sz")))
local macro_rules | `(tactic| walk_at "go1.") => `(tactic| with_reducible refine w_find ?_)
local macro_rules | `(tactic| walk_at "go1.") => `(tactic| ((with_reducible refine w_bmL (xs := ?xs) ?h ?_); (case h => walk_at "sq")))
local macro_rules | `(tactic| walk_at "go1.") => `(tactic| with_reducible refine w_bmS ?_)
local macro_rules | `(tactic| walk_at "go1.") => `(tactic| with_reducible refine w_bm0 ?_)
local macro_rules | `(tactic| walk_at "go1.") => `(tactic| with_reducible refine w_bm ?_)
local macro_rules | `(tactic| walk_at "go1.") => `(tactic| with_reducible refine w_exI ?_)
local macro_rules | `(tactic| walk_at "go1.") => `(tactic| with_reducible refine w_part ?_)
local macro_rules | `(tactic| walk_at "go1.") => `(tactic| with_reducible refine w_cont ?_)
local macro_rules | `(tactic| walk_at "go1.") => `(tactic| with_reducible refine w_retN ?_)
local macro_rules | `(tactic| walk_at "go1.") => `(tactic| with_reducible refine w_istr ?_)
local macro_rules | `(tactic| walk_at "go1.") => `(tactic| with_reducible refine w_chain ?_)
local macro_rules | `(tactic| walk_at "go1.") => `(tactic| with_reducible refine w_glt ?_)
local macro_rules | `(tactic| walk_at "go1.") => `(tactic| with_reducible refine w_mk ?_)
local macro_rules | `(tactic| walk_at "go1.") => `(tactic| with_reducible refine w_m ?_)
local macro_rules | `(tactic| walk_at "go1.") => `(tactic| with_reducible refine w_sfld ?_)
local macro_rules | `(tactic| walk_at "go1.") => `(tactic| with_reducible refine w_fld ?_)
local macro_rules | `(tactic| walk_at "go1.") => `(tactic| with_reducible refine w_dnew ?_)
local macro_rules | `(tactic| walk_at "go1.") => `(tactic| with_reducible refine w_dput ?_)
local macro_rules | `(tactic| walk_at "go1.") => `(tactic| with_reducible refine w_dget ?_)
local macro_rules | `(tactic| walk_at "go1.") => `(tactic| with_reducible refine w_notNnon ?_)
local macro_rules | `(tactic| walk_at "go1.") => `(tactic| with_reducible refine w_isNnon ?_)
local macro_rules | `(tactic| walk_at "go1.") => `(tactic| with_reducible refine w_notNint ?_)
local macro_rules | `(tactic| walk_at "go1.") => `(tactic| with_reducible refine w_isNint ?_)
local macro_rules | `(tactic| walk_at "go1.") => `(tactic| with_reducible refine w_notNref ?_)
local macro_rules | `(tactic| walk_at "go1.") => `(tactic| with_reducible refine w_isNref ?_)
local macro_rules | `(tactic| walk_at "go1.") => `(tactic| with_reducible refine w_rng2 ?_)
local macro_rules | `(tactic| walk_at "go1.") => `(tactic| with_reducible refine w_enum ?_)
local macro_rules | `(tactic| walk_at "go1.") => `(tactic| with_reducible refine w_gNil ?_)
local macro_rules | `(tactic| walk_at "go1.") => `(tactic| with_reducible refine w_gCons ?_)
local macro_rules | `(tactic| walk_at "go1.") => `(tactic| ((with_reducible refine w_gTup (xs := ?xs) ?h ?l ?_); (case h => walk_at "sq"); (case l => rfl)))
local macro_rules | `(tactic| walk_at "go1.") => `(tactic| ((with_reducible refine w_gTupN ?l ?_); (case l => rfl)))
local macro_rules | `(tactic| walk_at "go1.") => `(tactic| with_reducible refine w_gN ?_)
local macro_rules | `(tactic| walk_at "go1.") => `(tactic| with_reducible refine w_tYes ?_)
local macro_rules | `(tactic| walk_at "go1.") => `(tactic| with_reducible refine w_noP ?_)
local macro_rules | `(tactic| walk_at "go1.") => `(tactic| with_reducible refine w_sl ?_)
local macro_rules | `(tactic| walk_at "go1.") => `(tactic| with_reducible refine w_iseq ?_)
local macro_rules | `(tactic| walk_at "go1.") => `(tactic| with_reducible refine w_rng1 ?_)
local macro_rules | `(tactic| walk_at "go1.") => `(tactic| with_reducible refine w_for ?_)
local macro_rules | `(tactic| walk_at "go1.") => `(tactic| ((with_reducible refine w_no ?e ?_); (case e => walk_at "tr")))
local macro_rules | `(tactic| walk_at "go1.") => `(tactic| ((with_reducible refine w_yes ?e ?_); (case e => walk_at "tr")))
local macro_rules | `(tactic| walk_at "go1.") => `(tactic| with_reducible refine w_intI ?_)
local macro_rules | `(tactic| walk_at "go1.") => `(tactic| with_reducible refine w_intB ?_)
local macro_rules | `(tactic| walk_at "go1.") => `(tactic| with_reducible refine w_neg ?_)
local macro_rules | `(tactic| walk_at "go1.") => `(tactic| with_reducible refine w_un ?_)
local macro_rules | `(tactic| walk_at "go1.") => `(tactic| with_reducible refine w_notV ?_)
local macro_rules | `(tactic| walk_at "go1.") => `(tactic| with_reducible refine w_orV ?_)
local macro_rules | `(tactic| walk_at "go1.") => `(tactic| with_reducible refine w_andV ?_)
local macro_rules | `(tactic| walk_at "go1.") => `(tactic| with_reducible refine w_not ?_)
local macro_rules | `(tactic| walk_at "go1.") => `(tactic| with_reducible refine w_or ?_)
local macro_rules | `(tactic| walk_at "go1.") => `(tactic| with_reducible refine w_and ?_)
local macro_rules | `(tactic| walk_at "go1.") => `(tactic| with_reducible refine w_ge ?_)
local macro_rules | `(tactic| walk_at "go1.") => `(tactic| with_reducible refine w_gt ?_)
local macro_rules | `(tactic| walk_at "go1.") => `(tactic| with_reducible refine w_le ?_)
local macro_rules | `(tactic| walk_at "go1.") => `(tactic| with_reducible refine w_lt ?_)
local macro_rules | `(tactic| walk_at "go1.") => `(tactic| ((with_reducible refine w_div ?c ?_); (case c => (first | exact ⟨by decide, by decide⟩ | exact ⟨by omega, by omega⟩))))
local macro_rules | `(tactic| walk_at "go1.") => `(tactic| ((with_reducible refine w_mod ?c ?_); (case c => (first | decide | omega))))
local macro_rules | `(tactic| walk_at "go1.") => `(tactic| with_reducible refine w_sub ?_)
local macro_rules | `(tactic| walk_at "go1.") => `(tactic| with_reducible refine w_addI ?_)
local macro_rules | `(tactic| walk_at "go1.") => `(tactic| with_reducible refine w_neS ?_)
local macro_rules | `(tactic| walk_at "go1.") => `(tactic| with_reducible refine w_neI ?_)
local macro_rules | `(tactic| walk_at "go1.") => `(tactic| with_reducible refine w_eqS ?_)
local macro_rules | `(tactic| walk_at "go1.") => `(tactic| with_reducible refine w_eqI ?_)
local macro_rules | `(tactic| walk_at "go1.") => `(tactic| ((with_reducible refine w_ixL (xs := ?xs) (v := ?v) ?h ?e ?_); (case h => walk_at "sq"); (case e => rfl)))
local macro_rules | `(tactic| walk_at "go1.") => `(tactic| ((with_reducible refine w_ixT (xs := ?xs) (v := ?v) ?h ?e ?_); (case h => walk_at "sq"); (case e => rfl)))
local macro_rules | `(tactic| walk_at "go1.") => `(tactic| with_reducible refine w_bl ?_)
local macro_rules | `(tactic| walk_at "go1.") => `(tactic| with_reducible refine w_cb ?_)
local macro_rules | `(tactic| walk_at "go1.") => `(tactic| with_reducible refine w_f ?_)
local macro_rules | `(tactic| walk_at "go1.") => `(tactic| with_reducible refine w_nil ?_)
local macro_rules | `(tactic| walk_at "go1.") => `(tactic| with_reducible refine w_cons ?_)
local macro_rules | `(tactic| walk_at "go1.") => `(tactic| ((with_reducible refine w_var (v := ?v) ?h ?_); (case h => rfl)))
local macro_rules | `(tactic| walk_at "go1.") => `(tactic| with_reducible refine w_c ?_)
local macro_rules | `(tactic| walk_at "go1.") => `(tactic| with_reducible refine w_op ?_)
local macro_rules | `(tactic| walk_at "go1.") => `(tactic| with_reducible refine w_tB ?_)
local macro_rules | `(tactic| walk_at "go1.") => `(tactic| with_reducible refine w_test ?_)
local macro_rules | `(tactic| walk_at "go1.") => `(tactic| with_reducible refine w_drop ?_)
local macro_rules | `(tactic| walk_at "go1.") => `(tactic| with_reducible refine w_next ?_)
local macro_rules | `(tactic| walk_at "go1.") => `(tactic| with_reducible refine w_ret ?_)
local macro_rules | `(tactic| walk_at "go1.") => `(tactic| with_reducible refine w_asgT ?_)
local macro_rules | `(tactic| walk_at "go1.") => `(tactic| with_reducible refine w_asg ?_)
local macro_rules | `(tactic| walk_at "go1.") => `(tactic| with_reducible refine w_if ?_)
local macro_rules | `(tactic| walk_at "go1.") => `(tactic| with_reducible refine w_seq ?_)
local macro_rules | `(tactic| walk_at "go1") => `(tactic| first | walk_at "go1." | fail)
local macro_rules | `(tactic| walk_at "go") => `(tactic| repeat walk_at "go1")
local macro_rules | `(tactic| walk_at "gn") => `(tactic| repeat ((fail_if_success (with_reducible refine w_next ?_)); walk_at "go1"))
local macro_rules | `(tactic| walk_at "sz1") => `(tactic| (simp only [List.length_cons, List.length_nil, List.length_map]; omega))
inductive Sg where
  | add | sub | mul | div | lt | eq
  deriving DecidableEq
def Sg.txt : Sg → Str
  | .add => "+" | .sub => "-" | .mul => "*" | .div => "/" | .lt => "<" | .eq => "="
inductive Fm where
  | num (n : Int)
  | nam (x : Str)
  | op (s : Sg) (a b : Fm)
def Fm.depth : Fm → Nat
  | .num _ => 1
  | .nam _ => 1
  | .op _ a b => max a.depth b.depth + 1
theorem Fm.depth_pos : ∀ f : Fm, 1 ≤ f.depth
  | .num _ => Nat.le_refl _
  | .nam _ => Nat.le_refl _
  | .op _ _ _ => Nat.succ_le_succ (Nat.zero_le _)
inductive FmAt (K : PySem.W.Frag) (H : Hp) : V → Fm → Prop where
  | num {a : Addr} {n : Int} (h : SqT K H a [.str "number", .int n]) : FmAt K H (.ref a) (.num n)
  | nam {a : Addr} {x : Str} (h : SqT K H a [.str "name", .str x]) : FmAt K H (.ref a) (.nam x)
  | op {a : Addr} {s : Sg} {u v : V} {f g : Fm} (h : SqT K H a [.str s.txt, u, v]) (h1 : FmAt K H u f) (h2 : FmAt K H v g) : FmAt K H (.ref a) (.op s f g)
theorem FmAt.mono {K : PySem.W.Frag} {H H' : Hp} (e : Same H H') {v : V} {f : Fm} (h : FmAt K H v f) : FmAt K H' v f := by
  induction h with
  | num h => exact .num (same_t e h)
  | nam h => exact .nam (same_t e h)
  | op h _ _ i1 i2 => exact .op (same_t e h) i1 i2
theorem sg_num (s : Sg) : decide (s.txt = ("number" : Str)) = false := by cases s <;> decide +kernel
theorem sg_nam (s : Sg) : decide (s.txt = ("name" : Str)) = false := by cases s <;> decide +kernel
def Fm.names : Fm → List Str
  | .num _ => []
  | .nam x => [x]
  | .op _ a b => a.names ++ b.names
theorem Fm.names_len : ∀ f : Fm, f.names.length ≤ 2 ^ f.depth
  | .num _ => Nat.zero_le _
  | .nam _ => by show 1 ≤ 2 ^ 1; decide
  | .op _ a b => by
    have h1 := a.names_len
    have h2 := b.names_len
    have h3 : 2 ^ a.depth ≤ 2 ^ max a.depth b.depth := Nat.pow_le_pow_right (by decide) (Nat.le_max_left _ _)
    have h4 : 2 ^ b.depth ≤ 2 ^ max a.depth b.depth := Nat.pow_le_pow_right (by decide) (Nat.le_max_right _ _)
    show (a.names ++ b.names).length ≤ 2 ^ (max a.depth b.depth + 1)
    rw [List.length_append, Nat.pow_succ]
    omega
def Fm.ok (ns : List Str) : Fm → Prop
  | .num n => 0 ≤ n ∧ n < 1000000
  | .nam x => x ∈ ns
  | .op _ a b => a.ok ns ∧ b.ok ns
theorem Fm.ok_mono {ns ms : List Str} (h : ∀ x ∈ ns, x ∈ ms) : ∀ {f : Fm}, f.ok ns → f.ok ms
  | .num _, q => q
  | .nam _, q => h _ q
  | .op _ _ _, q => ⟨Fm.ok_mono h q.1, Fm.ok_mono h q.2⟩
def sp_law_cell_at (K : PySem.W.Frag) : Sp := fun vs H Q _ => ∃ (a : Addr) (ns : List Int) (k : Int), vs = [.ref a, .int k] ∧ SqL K H a (ns.map V.int) ∧ 0 ≤ k ∧ ∀ c : Int, Q (.int c) H
def sp_law_mixed (_ : PySem.W.Frag) : Sp := fun vs H Q _ => ∃ n : Int, vs = [.int n] ∧ ∀ r : Int, 0 ≤ r → r < 2147483647 → Q (.int r) H
def sp_law_name_by (_ : PySem.W.Frag) : Sp := fun vs H Q _ => ∃ n : Int, vs = [.int n] ∧ ∀ x H', Nm x → Same H H' → Q (.str x) H'
def sp_law_twin (_ : PySem.W.Frag) : Sp := fun vs H Q _ => ∃ (x : Str) (n : Int), vs = [.str x, .int n] ∧ Nm x ∧ ∀ y H', Nm y → Same H H' → Q (.str y) H'
structure Ten (ns : List Str) : Prop where
  len : ns.length = 10
  nd : ns.Nodup
  nm : ∀ x ∈ ns, Nm x
def sp_law_names (_ : PySem.W.Frag) : Sp := fun vs H Q _ => ∃ n m : Int, vs = [.int n, .int m] ∧ ∀ p H' ns, Ten ns → Same H H' → H p = none → H' p = some (.lst (ns.map V.str)) → Q (.ref p) H'
def sp_law_end_by (K : PySem.W.Frag) : Sp := fun vs H Q _ => ∃ (n : Int) (a : Addr) (ns : List Str), vs = [.int n, .ref a] ∧ SqL K H a (ns.map V.str) ∧ (∀ x ∈ ns, Nm x) ∧ ns.length ≤ 1000 ∧ ∀ v H' f, FmAt K H' v f → Same H H' → f.ok ns → f.depth = 1 → Q v H'
def sp_law_formula_by (K : PySem.W.Frag) (n : Nat) : Sp := fun vs H Q _ => ∃ (i : Int) (a b : Addr) (ns ms : List Str) (d : Bool) (l : Int), vs = [.int i, .ref a, .ref b, .bl d, .int l] ∧ SqL K H a (ns.map V.str) ∧ SqL K H b (ms.map V.str) ∧
  (∀ x ∈ ns, Nm x) ∧ (∀ x ∈ ms, Nm x) ∧ ns.length ≤ 1000 ∧ ms.length ≤ 1000 ∧ 1 ≤ l ∧ l ≤ n ∧ ∀ v H' f, FmAt K H' v f → Same H H' → f.ok (ns ++ ms) → (f.depth : Int) ≤ l → Q v H'
abbrev N_law_cell_at : List Str := ["_law_script", "_law_k"]
def t_law_cell_at (K : PySem.W.Frag) : TS :=
  (tSeq (tIfS (tTest (tOp rLt (tVar 1) (tCB (rLenA K) (tCons (tVar 0) tNil)))) (tRet (tOp (rIx K) (tVar 0) (tVar 1))) tNext) (tRet (tC (.int 0))))
abbrev N_law_mixed : List Str := ["_law_number"]
def t_law_mixed (K : PySem.W.Frag) : TS :=
  (tRet (tOp rMod (tOp (rAdd K) (tOp rMul (tVar 0) (tC (.int 48271))) (tC (.int 7919))) (tC (.int 2147483647))))
abbrev N_law_name_by : List Str := ["_law_cell", "_law_found", "_law_number", "_law_k"]
def t_law_name_by (K : PySem.W.Frag) : TS :=
  (tSeq (tAsg (tOp (rIx K) (tC (.str "abcdefghijklmnopqrstuvwxyz")) (tOp rMod (tOp rDiv (tVar 0) (tC (.int 8))) (tC (.int 26)))) (gName 1)) (tSeq (tAsg (tVar 0) (gName 2)) (tSeq (tFor (iRng1 (tCons (tOp rMod (tVar 0) (tC (.int 8))) tNil)) (gName 3) (tSeq (tAsg (tF (sp_law_mixed K) (tCons (tVar 2) tNil)) (gName 2)) (tAsg (tOp (rAdd K) (tVar 1) (tOp (rIx K) (tC (.str "abcdefghijklmnopqrstuvwxyz0123456789")) (tOp rMod (tVar 2) (tC (.int 36))))) (gName 1)))) (tSeq (tIfS (tTest (tOp (rIn2 K false) (tVar 1) (tLst (tCons (tC (.str "set")) (tCons (tC (.str "tell")) (tCons (tC (.str "skip")) (tCons (tC (.str "if")) (tCons (tC (.str "else")) (tCons (tC (.str "while")) (tCons (tC (.str "end")) tNil)))))))))) (tRet (tOp (rAdd K) (tVar 1) (tC (.str "0")))) tNext) (tRet (tVar 1))))))
abbrev N_law_twin : List Str := ["_law_name", "_law_cell", "_law_some", "_law_at", "_law_step", "_law_found"]
def t_law_twin (K : PySem.W.Frag) : TS :=
  (tSeq (tAsg (tC (.str "abcdefghijklmnopqrstuvwxyz")) (gName 2)) (tSeq (tAsg (tOp rMod (tVar 1) (tCB (rLenA K) (tCons (tVar 0) tNil))) (gName 3)) (tSeq (tIfS (tTest (tOp rGt (tVar 3) (tC (.int 0)))) (tAsg (tOp (rAdd K) (tVar 2) (tC (.str "0123456789"))) (gName 2)) tNext) (tSeq (tAsg (tOp (rAdd K) (tOp (rAdd K) (tBM K "str" rFind (tVar 2) (tCons (tOp (rIx K) (tVar 0) (tVar 3)) tNil)) (tC (.int 1))) (tOp rMod (tOp rDiv (tVar 1) (tC (.int 8))) (tOp rSub (tCB (rLenA K) (tCons (tVar 2) tNil)) (tC (.int 1))))) (gName 4)) (tSeq (tAsg (tOp (rAdd K) (tOp (rAdd K) (tSl (rSl K) (tVar 0) tNoPart (tPart (tVar 3))) (tOp (rIx K) (tVar 2) (tOp rMod (tVar 4) (tCB (rLenA K) (tCons (tVar 2) tNil))))) (tSl (rSl K) (tVar 0) (tPart (tOp (rAdd K) (tVar 3) (tC (.int 1)))) tNoPart)) (gName 5)) (tSeq (tIfS (tTest (tOp (rIn2 K false) (tVar 5) (tLst (tCons (tC (.str "set")) (tCons (tC (.str "tell")) (tCons (tC (.str "skip")) (tCons (tC (.str "if")) (tCons (tC (.str "else")) (tCons (tC (.str "while")) (tCons (tC (.str "end")) tNil)))))))))) (tRet (tOp (rAdd K) (tVar 5) (tC (.str "0")))) tNext) (tRet (tVar 5))))))))
abbrev N_law_names : List Str := ["_law_one", "_law_other", "_law_names_here", "_law_k", "_law_name"]
def t_law_names (K : PySem.W.Frag) : TS :=
  (tSeq (tAsg (tLst tNil) (gName 2)) (tSeq (tFor (iRng1 (tCons (tC (.int 10)) tNil)) (gName 3) (tSeq (tAsg (tF (sp_law_mixed K) (tCons (tVar 0) tNil)) (gName 0)) (tSeq (tAsg (tF (sp_law_name_by K) (tCons (tOp rDiv (tVar 0) (tC (.int 5))) tNil)) (gName 4)) (tSeq (tIfS (tAnd (tTest (tOp (rEq2 K) (tOp rMod (tVar 3) (tC (.int 2))) (tC (.int 1)))) (tTest (tOp (rEq2 K) (tOp rMod (tOp rDiv (tVar 1) (tC (.int 4))) (tC (.int 2))) (tC (.int 1))))) (tAsg (tF (sp_law_twin K) (tCons (tOp (rIx K) (tVar 2) (tOp rSub (tVar 3) (tC (.int 1)))) (tCons (tF (sp_law_mixed K) (tCons (tOp (rAdd K) (tVar 1) (tVar 3)) tNil)) tNil))) (gName 4)) tNext) (tSeq (tWhile (tOr (tTest (tOp (rIn2 K false) (tVar 4) (tVar 2))) (tTest (tOp (rIn2 K false) (tVar 4) (tLst (tCons (tC (.str "set")) (tCons (tC (.str "tell")) (tCons (tC (.str "skip")) (tCons (tC (.str "if")) (tCons (tC (.str "else")) (tCons (tC (.str "while")) (tCons (tC (.str "end")) tNil))))))))))) (tSeq (tAsg (tOp (rAdd K) (tSl (rSl K) (tVar 4) tNoPart (tPart (tC (.int 7)))) (tOp (rIx K) (tC (.str "abcdefghijklmnopqrstuvwxyz")) (tOp rMod (tOp (rAdd K) (tOp (rAdd K) (tVar 1) (tCB (rLenA K) (tCons (tVar 4) tNil))) (tVar 3)) (tC (.int 26))))) (gName 4)) (tAsg (tOp (rAdd K) (tVar 1) (tC (.int 5))) (gName 1)))) (tDrop (tBM K "list" rAppend (tVar 2) (tCons (tVar 4) tNil)))))))) (tRet (tVar 2))))
abbrev N_law_end_by : List Str := ["_law_number", "_law_names_here"]
def t_law_end_by (K : PySem.W.Frag) : TS :=
  (tSeq (tIfS (tAnd (tTest (tOp (rNe2 K) (tVar 1) (tLst tNil))) (tTest (tOp rGt (tOp rMod (tVar 0) (tC (.int 3))) (tC (.int 0))))) (tRet (tTup (tCons (tC (.str "name")) (tCons (tOp (rIx K) (tVar 1) (tOp rMod (tOp rDiv (tVar 0) (tC (.int 3))) (tCB (rLenA K) (tCons (tVar 1) tNil)))) tNil)))) tNext) (tSeq (tIfS (tTest (tOp (rEq2 K) (tOp rMod (tOp rDiv (tVar 0) (tC (.int 3))) (tC (.int 4))) (tC (.int 0)))) (tRet (tTup (tCons (tC (.str "number")) (tCons (tOp rMod (tOp rDiv (tVar 0) (tC (.int 12))) (tOp rPow (tC (.int 10)) (tC (.int 6)))) tNil)))) tNext) (tRet (tTup (tCons (tC (.str "number")) (tCons (tOp rMod (tOp rDiv (tVar 0) (tC (.int 12))) (tC (.int 5))) tNil))))))
abbrev N_law_formula_by : List Str := ["_law_number", "_law_names_here", "_law_low", "_law_divide", "_law_left", "_law_sign", "_law_one"]
def t_law_formula_by (K : PySem.W.Frag) (n : Nat) : TS :=
  (tSeq (tAsg (tF (sp_law_mixed K) (tCons (tVar 0) tNil)) (gName 0)) (tSeq (tIfS (tOr (tTest (tOp (rEq2 K) (tVar 4) (tC (.int 1)))) (tTest (tOp rLt (tOp rMod (tVar 0) (tC (.int 8))) (tC (.int 3))))) (tRet (tF (sp_law_end_by K) (tCons (tOp rDiv (tVar 0) (tC (.int 8))) (tCons (tVar 1) tNil)))) tNext) (tSeq (tAsg (tOp (rIx K) (tLst (tCons (tC (.str "+")) (tCons (tC (.str "-")) (tCons (tC (.str "*")) (tCons (tC (.str "<")) (tCons (tC (.str "=")) (tCons (tC (.str "+")) (tCons (tC (.str "-")) (tCons (tC (.str "<")) (tCons (tC (.str "/")) (tCons (tC (.str "/")) tNil))))))))))) (tOp rMod (tOp rDiv (tVar 0) (tC (.int 8))) (tOp (rIx K) (tLst (tCons (tC (.int 8)) (tCons (tC (.int 10)) tNil))) (tCB rInt (tCons (tVar 3) tNil))))) (gName 5)) (tSeq (tAsg (tF (sp_law_formula_by K n) (tCons (tOp (rAdd K) (tOp rMul (tVar 0) (tC (.int 3))) (tC (.int 1))) (tCons (tVar 1) (tCons (tVar 2) (tCons (tVar 3) (tCons (tOp rSub (tVar 4) (tC (.int 1))) tNil)))))) (gName 6)) (tSeq (tIfS (tAnd (tTest (tOp (rEq2 K) (tVar 5) (tC (.str "/")))) (tTest (tOp rLt (tOp rMod (tOp rDiv (tVar 0) (tC (.int 80))) (tC (.int 4))) (tC (.int 3))))) (tRet (tTup (tCons (tVar 5) (tCons (tVar 6) (tCons (tTup (tCons (tC (.str "number")) (tCons (tOp (rAdd K) (tC (.int 1)) (tOp rMod (tOp rDiv (tVar 0) (tC (.int 320))) (tC (.int 9)))) tNil))) tNil))))) tNext) (tSeq (tIfS (tTest (tOp (rEq2 K) (tVar 5) (tC (.str "/")))) (tRet (tTup (tCons (tVar 5) (tCons (tVar 6) (tCons (tF (sp_law_formula_by K n) (tCons (tOp (rAdd K) (tOp rMul (tVar 0) (tC (.int 5))) (tC (.int 2))) (tCons (tVar 2) (tCons (tVar 2) (tCons (tVar 3) (tCons (tOp rSub (tVar 4) (tC (.int 1))) tNil)))))) tNil))))) tNext) (tRet (tTup (tCons (tVar 5) (tCons (tVar 6) (tCons (tF (sp_law_formula_by K n) (tCons (tOp (rAdd K) (tOp rMul (tVar 0) (tC (.int 5))) (tC (.int 2))) (tCons (tVar 1) (tCons (tVar 2) (tCons (tVar 3) (tCons (tOp rSub (tVar 4) (tC (.int 1))) tNil)))))) tNil)))))))))))
theorem at_map {α : Type} {f : α → V} {xs : List α} {k : Int} (h0 : 0 ≤ k) (h : k < (xs.length : Int)) : ∃ x, x ∈ xs ∧ xs[k.toNat]? = some x ∧ atI (xs.map f) k = some (f x) := by
  obtain ⟨j, rfl⟩ := Int.eq_ofNat_of_zero_le h0
  have hj : j < xs.length := by omega
  refine ⟨xs[j], List.getElem_mem hj, by rw [Int.toNat_natCast, List.getElem?_eq_getElem hj], atI_nat ?_⟩
  rw [List.getElem?_map, List.getElem?_eq_getElem hj]
  rfl
theorem mod_in (a : Int) {m : Int} (h : 0 < m) : 0 ≤ a % m ∧ a % m < m := ⟨Int.emod_nonneg a (by omega), Int.emod_lt_of_pos a h⟩
theorem pure_law_cell_at (K : PySem.W.Frag) (vs : List V) (H : Hp) (Q : VK) (E : XK) (h : sp_law_cell_at K vs H Q E) :
    t_law_cell_at K { nx := fun _ H' => Q .non H', rt := Q } (start N_law_cell_at vs) H := by
  obtain ⟨a, ns, k, rfl, hS, h0, q⟩ := h
  unfold t_law_cell_at
  walk_at "go"
  refine w_two (fun e => ?_) (fun e => ?_)
  · have e := of_decide_eq_true e
    rw [List.length_map] at e
    obtain ⟨x, _, _, hx⟩ := at_map (f := V.int) h0 e
    walk_at "go"
    exact w_ixL hS hx (q x)
  · walk_at "go"
    exact q 0
theorem pure_law_mixed (K : PySem.W.Frag) (vs : List V) (H : Hp) (Q : VK) (E : XK) (h : sp_law_mixed K vs H Q E) :
    t_law_mixed K { nx := fun _ H' => Q .non H', rt := Q } (start N_law_mixed vs) H := by
  obtain ⟨n, rfl, q⟩ := h
  unfold t_law_mixed
  walk_at "go"
  refine w_mulI (.inr ⟨by decide, by decide⟩) ?_
  walk_at "go"
  have m := mod_in (n * 48271 + 7919) (show (0 : Int) < 2147483647 by decide)
  exact q _ m.1 m.2
theorem len_le {x : Str} {n : Nat} (h : (cs x).length ≤ n) (hn : n ≤ 16000000) : x.length ≤ sizeLine := sz (by rw [cs_len]; omega)
theorem pure_law_name_by (K : PySem.W.Frag) (vs : List V) (H : Hp) (Q : VK) (E : XK) (h : sp_law_name_by K vs H Q E) :
    t_law_name_by K { nx := fun _ H' => Q .non H', rt := Q } (start N_law_name_by vs) H := by
  obtain ⟨n, rfl, q⟩ := h
  unfold t_law_name_by
  have m26 := mod_in (n / 8) (show (0 : Int) < 26 by decide)
  have m8 := mod_in n (show (0 : Int) < 8 by decide)
  walk_at "go"
  refine w_ixS (sz (by decide +kernel)) (az_at m26.1 m26.2) ?_
  walk_at "go"
  refine ⟨_, rfl, by omega, by omega, for_range (lo := 0) (n := (n % 8).toNat) (fun i σ H' => H' = H ∧ ∃ (x : Str) (m : Int) (v : Option V), σ = [some (.int n), some (.str x), some (.int m), v] ∧ Nw x (i + 1))
    ⟨rfl, _, _, _, rfl, Nw.one ⟨by omega, by omega⟩⟩ ?_ ?_⟩
  · rintro i σ H' hi ⟨rfl, x, m, v, rfl, hx⟩
    show tSeq _ _ _ _ _
    walk_at "go"
    refine ⟨_, rfl, fun r r0 r1 => ?_⟩
    have m36 := mod_in r (show (0 : Int) < 36 by decide)
    obtain ⟨c, hc, sc⟩ := az9_at m36.1 m36.2
    walk_at "go"
    refine w_ixS (sz (by decide +kernel)) hc ?_
    refine w_addT (sz (by have := hx.most; rw [cs_len, cs_len, cs_one, List.length_singleton]; omega)) ?_
    exact ⟨rfl, _, _, _, rfl, hx.snoc sc⟩
  · rintro σ H' ⟨rfl, x, m, v, rfl, hx⟩
    have hx8 : Nw x 8 := ⟨hx.pos, by have := hx.most; omega, hx.hd, hx.all⟩
    walk_at "go"
    walk_at "new"
    refine w_inTxt (xs := words) (SqL.of upd_same) ?_
    walk_at "go"
    refine w_two (fun e => ?_) (fun e => ?_)
    · walk_at "go"
      refine w_addT (sz (by have := hx8.most; have : (cs ("0" : Str)).length = 1 := by decide +kernel
                            rw [cs_len, cs_len]; omega)) ?_
      exact q _ _ (hx.zero (of_decide_eq_true e)) (by walk_at "sm")
    · walk_at "go"
      exact q _ _ (hx8.nm (of_decide_eq_false e)) (by walk_at "sm")
theorem sgn_of_az {i : Int} (h0 : 0 ≤ i) (h : i < 26) : ∃ c, atI (cs az) i = some c ∧ IsSgn c ∧ IsLet c := ⟨_, az_at h0 h, .inl ⟨by omega, by omega⟩, ⟨by omega, by omega⟩⟩
theorem pure_law_twin (K : PySem.W.Frag) (vs : List V) (H : Hp) (Q : VK) (E : XK) (h : sp_law_twin K vs H Q E) :
    t_law_twin K { nx := fun _ H' => Q .non H', rt := Q } (start N_law_twin vs) H := by
  obtain ⟨x, n, rfl, hx, q⟩ := h
  unfold t_law_twin
  have l8 := hx.most
  have l1 := hx.pos
  have lx : x.length = (cs x).length := cs_len x
  walk_at "go"
  have ma := mod_in n (show (0 : Int) < ((x.length : Nat) : Int) by omega)
  generalize hat : n % ((x.length : Nat) : Int) = a at ma ⊢
  have key : ∀ (z : Str) (m : Int), (z = az ∧ m = 26) ∨ (z = az ++ n09 ∧ m = 36 ∧ 0 < a) → ∀ H1, H1 = H → ((z.length : Nat) : Int) = m ∧ z.length ≤ sizeLine ∧ ∀ i : Int, 0 ≤ i → i < m → ∃ c, atI (cs z) i = some c ∧ IsSgn c ∧ (a = 0 → IsLet c) := by
    rintro z m (⟨rfl, rfl⟩ | ⟨rfl, rfl, hp⟩) H1 _
    · refine ⟨by rw [cs_len, az_cs] <;> rfl, sz (by decide +kernel), fun i h0 h1 => ?_⟩
      obtain ⟨c, h2, h3, h4⟩ := sgn_of_az h0 h1
      exact ⟨c, h2, h3, fun _ => h4⟩
    · rw [← az9_eq]
      refine ⟨by rw [cs_len, az9_cs]; simp, sz (by decide +kernel), fun i h0 h1 => ?_⟩
      obtain ⟨c, h2, h3⟩ := az9_at h0 h1
      exact ⟨c, h2, h3, fun z => by omega⟩
  have obt : ∃ c, atI (cs x) a = some c := by
    obtain ⟨j, rfl⟩ := Int.eq_ofNat_of_zero_le ma.1
    have hj : j < (cs x).length := by omega
    exact ⟨_, atI_nat (List.getElem?_eq_getElem hj)⟩
  obtain ⟨c0, hc0⟩ := obt
  have rest : ∀ (z : Str) (m : Int), (z = az ∧ m = 26) ∨ (z = az ++ n09 ∧ m = 36 ∧ 0 < a) →
      (tSeq (tAsg (tOp (rAdd K) (tOp (rAdd K) (tBM K "str" rFind (tVar 2) (tCons (tOp (rIx K) (tVar 0) (tVar 3)) tNil)) (tC (.int 1))) (tOp rMod (tOp rDiv (tVar 1) (tC (.int 8))) (tOp rSub (tCB (rLenA K) (tCons (tVar 2) tNil)) (tC (.int 1))))) (gName 4)) (tSeq (tAsg (tOp (rAdd K) (tOp (rAdd K) (tSl (rSl K) (tVar 0) tNoPart (tPart (tVar 3))) (tOp (rIx K) (tVar 2) (tOp rMod (tVar 4) (tCB (rLenA K) (tCons (tVar 2) tNil))))) (tSl (rSl K) (tVar 0) (tPart (tOp (rAdd K) (tVar 3) (tC (.int 1)))) tNoPart)) (gName 5)) (tSeq (tIfS (tTest (tOp (rIn2 K false) (tVar 5) (tLst (tCons (tC (.str "set")) (tCons (tC (.str "tell")) (tCons (tC (.str "skip")) (tCons (tC (.str "if")) (tCons (tC (.str "else")) (tCons (tC (.str "while")) (tCons (tC (.str "end")) tNil)))))))))) (tRet (tOp (rAdd K) (tVar 5) (tC (.str "0")))) tNext) (tRet (tVar 5)))))
        { nx := fun _ H' => Q .non H', rt := Q } [some (.str x), some (.int n), some (.str z), some (.int a), none, none] H := by
    intro z m hz
    obtain ⟨k1, k2, k3⟩ := key z m hz H rfl
    have mp : 0 < m := by rcases hz with ⟨_, rfl⟩ | ⟨_, rfl, _⟩ <;> decide
    have m1 : 1 < m := by rcases hz with ⟨_, rfl⟩ | ⟨_, rfl, _⟩ <;> decide
    walk_at "go"
    refine w_ixS (len_le l8 (by decide)) hc0 ?_
    walk_at "go"
    rw [k1]
    walk_at "go"
    generalize hst : (Txt.find z ⟨#[c0]⟩ + 1 + n / 8 % (m - 1)) % m = st
    have ms := mod_in (Txt.find z ⟨#[c0]⟩ + 1 + n / 8 % (m - 1)) mp
    rw [hst] at ms
    obtain ⟨c, hc, sc, lc⟩ := k3 st ms.1 ms.2
    refine w_ixS k2 hc ?_
    obtain ⟨j, hj⟩ := Int.eq_ofNat_of_zero_le ma.1
    have hjl : j < (cs x).length := by omega
    have sw := Nw.swap (c := c) hx.nw' hjl sc (fun z => lc (by omega))
    have e0 : (cs (Txt.slice x none (some a))).length ≤ 8 := by rw [cs_slTo ma.1, List.length_take]; omega
    have e1 : (cs (Txt.slice x (some (a + 1)) none)).length ≤ 8 := by rw [cs_slFrom (by omega), List.length_drop]; omega
    refine w_addT (sz (by rw [cs_len, cs_len, cs_one, List.length_singleton]; omega)) ?_
    walk_at "go"
    subst hj
    refine w_addT (sz (by rw [cs_len, cs_len, cs_app, List.length_append, cs_one, List.length_singleton]; omega)) ?_
    walk_at "go"
    walk_at "new"
    refine w_inTxt (xs := words) (SqL.of upd_same) ?_
    walk_at "go"
    refine w_two (fun e => ?_) (fun e => ?_)
    · walk_at "go"
      refine w_addT (sz (by have := sw.most; have : (cs ("0" : Str)).length = 1 := by decide +kernel
                            rw [cs_len, cs_len]; omega)) ?_
      exact q _ _ (sw.zero (of_decide_eq_true e)) (by walk_at "sm")
    · walk_at "go"
      exact q _ _ (sw.nm (of_decide_eq_false e)) (by walk_at "sm")
  refine w_two (fun e => ?_) (fun e => ?_)
  · have e := of_decide_eq_true e
    walk_at "go"
    refine w_addT (sz (by decide +kernel)) ?_
    exact rest _ 36 (.inr ⟨rfl, rfl, e⟩)
  · refine w_next ?_
    exact rest az 26 (.inl ⟨rfl, rfl⟩)
abbrev tNmW (K : PySem.W.Frag) : TS := (tWhile (tOr (tTest (tOp (rIn2 K false) (tVar 4) (tVar 2))) (tTest (tOp (rIn2 K false) (tVar 4) (tLst (tCons (tC (.str "set")) (tCons (tC (.str "tell")) (tCons (tC (.str "skip")) (tCons (tC (.str "if")) (tCons (tC (.str "else")) (tCons (tC (.str "while")) (tCons (tC (.str "end")) tNil))))))))))) (tSeq (tAsg (tOp (rAdd K) (tSl (rSl K) (tVar 4) tNoPart (tPart (tC (.int 7)))) (tOp (rIx K) (tC (.str "abcdefghijklmnopqrstuvwxyz")) (tOp rMod (tOp (rAdd K) (tOp (rAdd K) (tVar 1) (tCB (rLenA K) (tCons (tVar 4) tNil))) (tVar 3)) (tC (.int 26))))) (gName 4)) (tAsg (tOp (rAdd K) (tVar 1) (tC (.int 5))) (gName 1))))
abbrev tNmB (K : PySem.W.Frag) : TS := (tSeq (tAsg (tOp (rAdd K) (tSl (rSl K) (tVar 4) tNoPart (tPart (tC (.int 7)))) (tOp (rIx K) (tC (.str "abcdefghijklmnopqrstuvwxyz")) (tOp rMod (tOp (rAdd K) (tOp (rAdd K) (tVar 1) (tCB (rLenA K) (tCons (tVar 4) tNil))) (tVar 3)) (tC (.int 26))))) (gName 4)) (tAsg (tOp (rAdd K) (tVar 1) (tC (.int 5))) (gName 1)))
abbrev tNmA (K : PySem.W.Frag) : TS := (tDrop (tBM K "list" rAppend (tVar 2) (tCons (tVar 4) tNil)))
def PN (H : Hp) (p : Addr) (i : Nat) : L2.St → Hp → Prop := fun σ H' => Same H H' ∧ ∃ (a b : Int) (ns : List Str) (v w : Option V), σ = [some (.int a), some (.int b), some (.ref p), v, w] ∧ ns.length = i ∧ ns.Nodup ∧ (∀ x ∈ ns, Nm x) ∧ H' p = some (.lst (ns.map V.str))
abbrev DN (H : Hp) (Q : VK) (p : Addr) (i : Nat) : Ends := ⟨PN H p (i + 1), Q, tRet (tVar 2) { nx := fun _ H' => Q .non H', rt := Q }, PN H p (i + 1)⟩
theorem pure_law_names (K : PySem.W.Frag) (vs : List V) (H : Hp) (Q : VK) (E : XK) (h : sp_law_names K vs H Q E) :
    t_law_names K { nx := fun _ H' => Q .non H', rt := Q } (start N_law_names vs) H := by
  obtain ⟨n, m, rfl, q⟩ := h
  unfold t_law_names
  walk_at "go"
  refine w_new (by decide) (fun p hp => ?_)
  walk_at "go"
  refine ⟨_, rfl, by decide, by decide, for_range (lo := 0) (n := 10) (PN H p)
    ⟨by walk_at "sm", _, _, [], _, _, rfl, rfl, List.nodup_nil, (fun x hx => nomatch hx), upd_same⟩ ?_ ?_⟩
  · rintro i σ H1 hi ⟨e1, a, b, ns, v, w, rfl, hl, hd, hN, hL⟩
    show tSeq _ _ _ _ _
    walk_at "go"
    refine ⟨_, rfl, fun r _ _ => ?_⟩
    walk_at "go"
    refine ⟨_, rfl, fun x H2 hx e2 => ?_⟩
    have hL2 := e2 _ _ hL
    walk_at "go"
    -- the twin or not
    have two : ∀ (x : Str) (H2 : Hp), Nm x → Same H1 H2 → tSeq (tNmW K) (tNmA K) (DN H Q p i) [some (.int r), some (.int b), some (.ref p), some (.int (0 + (i : Int))), some (.str x)] H2 := by
      intro x H2 hx e2
      obtain ⟨m0, hm0⟩ := cand_ends x b (0 + (i : Int)) hx.most (ns ++ words) (by rw [List.length_append]; have : words.length = 7 := rfl; omega)
      walk_at "go"
      refine w_while' (fun m σ' H' => Same H1 H' ∧ ∃ (o : Int) (y : Str), σ' = [some (.int r), some (.int o), some (.ref p), some (.int (0 + (i : Int))), some (.str y)] ∧ Nw y 8 ∧ cand y o (0 + (i : Int)) m ∉ ns ++ words) m0 ⟨e2, _, _, rfl, hx.nw', hm0⟩ ?_
      rintro m σ' H' ⟨e3, o, y, rfl, hy, hm⟩
      have hL3 := e3 _ _ hL
      have body : ∀ H4, Same H1 H4 → y ∈ ns ++ words → ∃ N : L2.St → Hp → Prop, (∀ σ2 H2, N σ2 H2 → ∃ m', m' < m ∧ Same H1 H2 ∧ ∃ (o : Int) (y : Str), σ2 = [some (.int r), some (.int o), some (.ref p), some (.int (0 + (i : Int))), some (.str y)] ∧ Nw y 8 ∧ cand y o (0 + (i : Int)) m' ∉ ns ++ words) ∧
          tNmB K ⟨N, Q, tNmA K (DN H Q p i), N⟩
            [some (.int r), some (.int o), some (.ref p), some (.int (0 + (i : Int))), some (.str y)] H4 := by
        intro H4 e4 hin
        cases m with
        | zero => exact absurd hin hm
        | succ m =>
          refine ⟨_, fun σ2 H2 h => h, ?_⟩
          have m26 := mod_in (o + ((y.length : Nat) : Int) + (0 + (i : Int))) (show (0 : Int) < 26 by decide)
          have hy8 := hy.most
          walk_at "go"
          refine w_ixS (sz (by decide +kernel)) (az_at m26.1 m26.2) ?_
          have e0 : (cs (Txt.slice y none (some 7))).length ≤ 8 := by rw [cs_slTo (by decide), List.length_take]; omega
          refine w_addT (sz (by rw [cs_len, cs_len, cs_one, List.length_singleton]; omega)) ?_
          walk_at "go"
          exact ⟨m, Nat.lt_succ_self _, e4, _, _, rfl, hy.cut ⟨by omega, by omega⟩, by rw [cand_succ] at hm; exact hm⟩
      walk_at "go"
      refine w_inTxt (SqL.of hL3) ?_
      walk_at "go"
      refine w_two (fun e => ?_) (fun e => ?_)
      · walk_at "go"
        exact body H' e3 (List.mem_append_left _ (of_decide_eq_true e))
      · have n1 := of_decide_eq_false e
        walk_at "go"
        refine w_new (by decide) (fun r2 hr2 => ?_)
        refine w_inTxt (xs := words) (SqL.of upd_same) ?_
        walk_at "go"
        refine w_two (fun e => ?_) (fun e => ?_)
        · exact body _ (by walk_at "sm") (List.mem_append_right _ (of_decide_eq_true e))
        · have n2 := of_decide_eq_false e
          have nm := hy.nm n2
          have ne : p ≠ r2 := ne_of_none hL3 hr2
          walk_at "go"
          refine w_app (xs := ns.map V.str) (by rw [upd_ne ne]; exact hL3) (Nat.lt_of_le_of_lt (by rw [List.length_map]; omega : _ ≤ 1000) (by decide)) ?_
          refine ⟨same_mut (e1.trans (e3.trans (same_new hr2))) hp, r, o, ns ++ [y], _, _, rfl, by rw [List.length_append, hl] <;> rfl, ?_, ?_, ?_⟩
          · rw [List.nodup_append]
            exact ⟨hd, (List.nodup_cons.mpr ⟨List.not_mem_nil, List.nodup_nil⟩), fun u hu w hw => by rw [List.mem_singleton.mp hw]; exact fun e => n1 (e ▸ hu)⟩
          · intro u hu
            rcases List.mem_append.mp hu with hu | hu
            · exact hN u hu
            · rw [List.mem_singleton.mp hu]; exact nm
          · rw [upd_same, List.map_append] <;> rfl
    refine w_two (fun e => ?_) (fun e => ?_)
    · walk_at "go"
      refine w_two (fun e' => ?_) (fun e' => ?_)
      · have e := of_decide_eq_true e
        have ip : 0 < i := by omega
        obtain ⟨y, ym, _, hy⟩ := at_map (f := V.str) (xs := ns) (k := 0 + (i : Int) - 1) (by omega) (by omega)
        walk_at "go"
        refine w_ixL (SqL.of hL2) hy ?_
        walk_at "go"
        refine ⟨_, rfl, fun r' _ _ => ?_⟩
        refine ⟨_, _, rfl, hN y ym, fun x' H3 hx' e3 => ?_⟩
        exact two x' H3 hx' (e2.trans e3)
      · walk_at "go"
        exact two x H2 hx e2
    · walk_at "go"
      exact two x H2 hx e2
  · rintro σ H1 ⟨e1, a, b, ns, v, w, rfl, hl, hd, hN, hL⟩
    walk_at "go"
    exact q p H1 ns ⟨hl, hd, hN⟩ e1 hp hL
theorem ok_txt {x : Str} (h : Nm x) : PyData.strOk x = true := by
  unfold PyData.strOk
  rw [← Array.all_toList, List.all_eq_true]
  intro c hc
  have := h.all c hc
  unfold IsSgn at this
  exact decide_eq_true (by omega)
theorem shaped_txts {xs : List Str} (h : ∀ x ∈ xs, PyData.strOk x = true) : SeqAt.shaped (.list (xs.map PyData.str)) = true := by
  have c : ∀ xs : List Str, (∀ x ∈ xs, PyData.strOk x = true) → PyData.canLayAll0 (xs.map PyData.str) = true := by
    intro xs
    induction xs with
    | nil => intro _; rfl
    | cons x r ih =>
      intro h
      show (PyData.strOk x && PyData.canLayAll0 (r.map PyData.str)) = true
      rw [h x List.mem_cons_self, ih fun y hy => h y (List.mem_cons_of_mem _ hy)] <;> rfl
  have d : ∀ xs : List Str, PyData.depthAll (xs.map PyData.str) = 0 := by
    intro xs
    induction xs with
    | nil => rfl
    | cons x r ih =>
      show max 0 (PyData.depthAll (r.map PyData.str)) = 0
      rw [ih] <;> rfl
  unfold SeqAt.shaped
  rw [Bool.and_eq_true]
  refine ⟨c xs h, decide_eq_true ?_⟩
  show PyData.depthAll (xs.map PyData.str) + 1 ≤ 64
  rw [d] <;> decide
theorem dp_txts {K : PySem.W.Frag} {H : Hp} : ∀ (xs : List Str), DpAll K H (xs.map V.str) (xs.map PyData.str)
  | [] => .nil
  | x :: r => .cons (.str x) (dp_txts r)
theorem eqv_txts : ∀ xs ys : List Str, PyData.eqvAll (xs.map .str) (ys.map .str) = decide (xs = ys)
  | [], [] => rfl
  | [], _ :: _ => rfl
  | _ :: _, [] => rfl
  | x :: r, y :: t => by
    show ((x == y) && PyData.eqvAll (r.map .str) (t.map .str)) = _
    rw [eqv_txts r t]
    by_cases e : x = y
    · subst e; by_cases e2 : r = t <;> simp [e2]
    · simp [e]
theorem w_neTxt {K : PySem.W.Frag} {H : Hp} {Q : VK} {a b : Addr} {xs ys : List Str} (ha : SqL K H a (xs.map V.str)) (hb : SqL K H b (ys.map V.str)) (ox : ∀ x ∈ xs, PyData.strOk x = true) (oy : ∀ x ∈ ys, PyData.strOk x = true) (q : Q (.bl (!decide (xs = ys))) H) : rNe2 K (.ref a) (.ref b) H Q :=
  w_neD (.lst ha (dp_txts xs)) (.lst hb (dp_txts ys)) (shaped_txts ox) (shaped_txts oy) (by rw [show PyData.eqv (.list (xs.map .str)) (.list (ys.map .str)) = _ from eqv_txts xs ys]; exact q)
theorem pure_law_end_by (K : PySem.W.Frag) (vs : List V) (H : Hp) (Q : VK) (E : XK) (h : sp_law_end_by K vs H Q E) :
    t_law_end_by K { nx := fun _ H' => Q .non H', rt := Q } (start N_law_end_by vs) H := by
  obtain ⟨n, a, ns, rfl, hS, hN, hl, q⟩ := h
  unfold t_law_end_by
  have m3 := mod_in n (show (0 : Int) < 3 by decide)
  have num : ∀ (H1 : Hp) (i : Int), Same H H1 → 0 ≤ i → i < 1000000 → [V.str "number", V.int i].length ≤ sizeLine ∧ ∀ p, H1 p = none → Q (.ref p) (upd H1 p (.tup [.str "number", .int i])) := fun H1 i e h0 h1 =>
    ⟨by walk_at "sz", fun p hp => q _ _ (.num i) (.num (SqT.of upd_same)) (e.trans (same_new hp)) ⟨h0, h1⟩ rfl⟩
  have rest : ∀ H1, Same H H1 → (tSeq (tIfS (tTest (tOp (rEq2 K) (tOp rMod (tOp rDiv (tVar 0) (tC (.int 3))) (tC (.int 4))) (tC (.int 0)))) (tRet (tTup (tCons (tC (.str "number")) (tCons (tOp rMod (tOp rDiv (tVar 0) (tC (.int 12))) (tOp rPow (tC (.int 10)) (tC (.int 6)))) tNil)))) tNext) (tRet (tTup (tCons (tC (.str "number")) (tCons (tOp rMod (tOp rDiv (tVar 0) (tC (.int 12))) (tC (.int 5))) tNil)))))
      { nx := fun _ H' => Q .non H', rt := Q } (start N_law_end_by [.int n, .ref a]) H1 := by
    intro H1 e
    walk_at "go"
    refine w_two (fun _ => ?_) (fun _ => ?_)
    · walk_at "go"
      refine w_pow ⟨by decide, by decide, by decide⟩ ?_
      refine w_mod (by decide) ?_
      walk_at "go"
      have m := mod_in (n / 12) (show (0 : Int) < 10 ^ (6 : Int).toNat by decide)
      exact num H1 _ e m.1 (Int.lt_of_lt_of_le m.2 (by decide))
    · walk_at "go"
      have m := mod_in (n / 12) (show (0 : Int) < 5 by decide)
      exact num H1 _ e m.1 (by omega)
  walk_at "go"
  refine w_new (by walk_at "sz") (fun p hp => ?_)
  refine w_neTxt (xs := ns) (ys := []) (same_l (same_new hp) hS) (SqL.of upd_same) (fun x hx => ok_txt (hN x hx)) (fun x hx => nomatch hx) ?_
  walk_at "go"
  refine w_two (fun e1 => ?_) (fun e1 => ?_)
  · walk_at "go"
    refine w_two (fun e2 => ?_) (fun e2 => ?_)
    · have ne : ns ≠ [] := by simpa using e1
      have pos : 0 < ns.length := List.length_pos_iff.mpr ne
      walk_at "go"
      rw [List.length_map]
      refine w_mod (by omega) ?_
      have m := mod_in (n / 3) (show (0 : Int) < ((ns.length : Nat) : Int) by omega)
      obtain ⟨x, xm, _, hx⟩ := at_map (f := V.str) (xs := ns) m.1 m.2
      refine w_ixL (same_l (same_new hp) hS) hx ?_
      walk_at "go"
      exact ⟨by walk_at "sz", fun r hr => q _ _ (.nam x) (.nam (SqT.of upd_same)) ((same_new hp).trans (same_new hr)) xm rfl⟩
    · walk_at "gn"
      exact rest _ (same_new hp)
  · walk_at "gn"
    exact rest _ (same_new hp)
theorem sg_div (s : Sg) : decide (s.txt = ("/" : Str)) = decide (s = .div) := by cases s <;> decide +kernel
theorem no_law_formula_by {K : PySem.W.Frag} : ∀ vs H Q E, ¬ sp_law_formula_by K 0 vs H Q E := by
  rintro vs H Q E ⟨i, a, b, ns, ms, d, l, _, _, _, _, _, _, _, h1, h2, _⟩
  omega
theorem pure_law_formula_by (K : PySem.W.Frag) (n : Nat) (vs : List V) (H : Hp) (Q : VK) (E : XK) (h : sp_law_formula_by K (n + 1) vs H Q E) :
    t_law_formula_by K n { nx := fun _ H' => Q .non H', rt := Q } (start N_law_formula_by vs) H := by
  obtain ⟨i, a, b, ns, ms, d, l, rfl, hS, hT, hN, hM, hl, hm, h1, h2, q⟩ := h
  unfold t_law_formula_by
  walk_at "go"
  refine ⟨_, rfl, fun r r0 r1 => ?_⟩
  have endby : ∀ H1, Same H H1 → sp_law_end_by K [.int (r / 8), .ref a] H1 Q E0 := by
    intro H1 e
    exact ⟨_, _, ns, rfl, same_l e hS, hN, hl, fun v H' f hf e' ho hd => q v H' f hf (e.trans e') (Fm.ok_mono (fun x hx => List.mem_append_left _ hx) ho) (by omega)⟩
  walk_at "go"
  refine w_two (fun e1 => ?_) (fun e1 => ?_)
  · walk_at "go"
    exact endby H (Same.refl H)
  · walk_at "go"
    refine w_two (fun e2 => ?_) (fun e2 => ?_)
    · walk_at "go"
      exact endby H (Same.refl H)
    · have e1 := of_decide_eq_false e1
      walk_at "go"
      refine w_new (by walk_at "sz") (fun p hp => ?_)
      walk_at "go"
      refine w_new (by walk_at "sz") (fun p2 hp2 => ?_)
      walk_at "go"
      have hd2 : atI [V.int 8, V.int 10] (if d then 1 else 0) = some (.int (if d then 10 else 8)) := by cases d <;> rfl
      refine w_ixL (SqL.of upd_same) hd2 ?_
      have m := mod_in (r / 8) (show (0 : Int) < (if d then 10 else 8) by cases d <;> decide)
      refine w_mod (by cases d <;> decide) ?_
      have m10 : r / 8 % (if d then 10 else 8) < 10 := by
        cases d
        · exact Int.lt_trans m.2 (by decide)
        · exact m.2
      generalize hx : r / 8 % (if d then 10 else 8) = x at m m10 ⊢
      have np : p ≠ p2 := ne_of_none upd_same hp2
      obtain ⟨z, zm, _, hz⟩ := at_map (f := fun s : Sg => V.str s.txt) (xs := [.add, .sub, .mul, .lt, .eq, .add, .sub, .lt, .div, .div]) (k := x) m.1 m10
      refine w_ixL (SqL.of ((upd_ne np).trans upd_same)) hz ?_
      have e0 : Same H (upd (upd H p (.lst [.str "+", .str "-", .str "*", .str "<", .str "=", .str "+", .str "-", .str "<", .str "/", .str "/"])) p2 (.lst [.int 8, .int 10])) := (same_new hp).trans (same_new hp2)
      generalize (upd (upd H p (.lst [.str "+", .str "-", .str "*", .str "<", .str "=", .str "+", .str "-", .str "<", .str "/", .str "/"])) p2 (.lst [.int 8, .int 10])) = H0 at e0 ⊢
      walk_at "go"
      refine w_mulI (.inr ⟨by decide, by decide⟩) ?_
      walk_at "go"
      refine ⟨_, a, b, ns, ms, d, _, rfl, same_l e0 hS, same_l e0 hT, hN, hM, hl, hm, by omega, by omega, fun u H1 f hf e3 of df => ?_⟩
      walk_at "go"
      rw [sg_div]
      have last : ∀ (H2 : Hp) (w : V) (g : Fm), Same H1 H2 → FmAt K H2 w g → g.ok (ns ++ ms) → (g.depth : Int) ≤ l - 1 → [V.str z.txt, u, w].length ≤ sizeLine ∧ ∀ p, H2 p = none → Q (.ref p) (upd H2 p (.tup [.str z.txt, u, w])) := fun H2 w g e4 hg og dg =>
        ⟨by walk_at "sz", fun p hp => q _ _ (.op z f g) (.op (SqT.of upd_same) (hf.mono (e4.trans (same_new hp))) (hg.mono (same_new hp))) (((e0.trans e3).trans e4).trans (same_new hp)) ⟨of, og⟩ (by simp only [Fm.depth]; omega)⟩
      have again : ∀ c : Addr, (c = a ∨ c = b) → ∀ i' : Int, sp_law_formula_by K n [.int i', .ref c, .ref b, .bl d, .int (l - 1)] H1 (fun w H2 => [V.str z.txt, u, w].length ≤ sizeLine ∧ ∀ p, H2 p = none → Q (.ref p) (upd H2 p (.tup [.str z.txt, u, w]))) E0 := by
        rintro c (rfl | rfl) i'
        · exact ⟨_, c, b, ns, ms, d, _, rfl, same_l (e0.trans e3) hS, same_l (e0.trans e3) hT, hN, hM, hl, hm, by omega, by omega, fun w H2 g hg e4 og dg => last H2 w g e4 hg og dg⟩
        · exact ⟨_, c, c, ms, ms, d, _, rfl, same_l (e0.trans e3) hT, same_l (e0.trans e3) hT, hM, hM, hm, hm, by omega, by omega, fun w H2 g hg e4 og dg => last H2 w g e4 hg (Fm.ok_mono (fun x hx => List.mem_append_right _ (by simpa using hx)) og) dg⟩
      have tail : (tSeq (tIfS (tTest (tOp (rEq2 K) (tVar 5) (tC (.str "/")))) (tRet (tTup (tCons (tVar 5) (tCons (tVar 6) (tCons (tF (sp_law_formula_by K n) (tCons (tOp (rAdd K) (tOp rMul (tVar 0) (tC (.int 5))) (tC (.int 2))) (tCons (tVar 2) (tCons (tVar 2) (tCons (tVar 3) (tCons (tOp rSub (tVar 4) (tC (.int 1))) tNil)))))) tNil))))) tNext) (tRet (tTup (tCons (tVar 5) (tCons (tVar 6) (tCons (tF (sp_law_formula_by K n) (tCons (tOp (rAdd K) (tOp rMul (tVar 0) (tC (.int 5))) (tC (.int 2))) (tCons (tVar 1) (tCons (tVar 2) (tCons (tVar 3) (tCons (tOp rSub (tVar 4) (tC (.int 1))) tNil)))))) tNil))))))
          { nx := fun _ H' => Q .non H', rt := Q } [some (.int r), some (.ref a), some (.ref b), some (.bl d), some (.int l), some (.str z.txt), some u] H1 := by
        walk_at "go"
        rw [sg_div]
        refine w_two (fun _ => ?_) (fun _ => ?_)
        · walk_at "go"
          refine w_mulI (.inr ⟨by decide, by decide⟩) ?_
          walk_at "go"
          exact again b (.inr rfl) _
        · walk_at "go"
          refine w_mulI (.inr ⟨by decide, by decide⟩) ?_
          walk_at "go"
          exact again a (.inl rfl) _
      refine w_two (fun e4 => ?_) (fun e4 => ?_)
      · walk_at "go"
        refine w_two (fun e5 => ?_) (fun e5 => ?_)
        · walk_at "go"
          refine w_new (by walk_at "sz") (fun p3 hp3 => ?_)
          walk_at "go"
          have m9 := mod_in (r / 320) (show (0 : Int) < 9 by decide)
          exact last _ _ (.num _) (same_new hp3) (.num (SqT.of upd_same)) ⟨by omega, by omega⟩ (by simp only [Fm.depth]; omega)
        · walk_at "gn"
          exact tail
      · walk_at "gn"
        exact tail
mutual
theorem eqv_self : ∀ d : PyData, d.canLay0 = true → PyData.eqv d d = true
  | .none, _ => rfl
  | .bool b, _ => by show (b == b) = true; simp
  | .int i, _ => by show (i == i) = true; simp
  | .str x, _ => by show (x == x) = true; simp
  | .list xs, h => eqvAll_self xs h
  | .tuple xs, h => eqvAll_self xs h
  | .dict _, h => nomatch h
theorem eqvAll_self : ∀ xs : List PyData, PyData.canLayAll0 xs = true → PyData.eqvAll xs xs = true
  | [], _ => rfl
  | x :: r, h => by
    have h' := Bool.and_eq_true_iff.mp (show (x.canLay0 && PyData.canLayAll0 r) = true from h)
    show (PyData.eqv x x && PyData.eqvAll r r) = true
    rw [eqv_self x h'.1, eqvAll_self r h'.2] <;> rfl
end
structure Dk (d : PyData) (k : Nat) : Prop where
  lay : d.canLay0 = true
  dep : d.depth ≤ k
theorem Dk.shaped {d : PyData} {k : Nat} (h : Dk d k) (hk : k ≤ 64) : SeqAt.shaped d = true := by
  unfold SeqAt.shaped
  rw [h.lay, decide_eq_true (Nat.le_trans h.dep hk)] <;> rfl
theorem Dk.mono {d : PyData} {k j : Nat} (h : Dk d k) (hk : k ≤ j) : Dk d j := ⟨h.lay, Nat.le_trans h.dep hk⟩
theorem Dk.int {i : Int} {k : Nat} : Dk (.int i) k := ⟨rfl, Nat.zero_le _⟩
theorem Dk.bl {i : Bool} {k : Nat} : Dk (.bool i) k := ⟨rfl, Nat.zero_le _⟩
theorem Dk.non {k : Nat} : Dk .none k := ⟨rfl, Nat.zero_le _⟩
theorem Dk.str {x : Str} {k : Nat} (h : PyData.strOk x = true) : Dk (.str x) k := ⟨h, Nat.zero_le _⟩
theorem dk_all {k : Nat} : ∀ {ds : List PyData}, (∀ d ∈ ds, Dk d k) → PyData.canLayAll0 ds = true ∧ PyData.depthAll ds ≤ k
  | [], _ => ⟨rfl, Nat.zero_le _⟩
  | d :: r, h => by
    have h1 := h d List.mem_cons_self
    have h2 := dk_all fun y hy => h y (List.mem_cons_of_mem d hy)
    constructor
    · show (d.canLay0 && PyData.canLayAll0 r) = true
      rw [h1.lay, h2.1] <;> rfl
    · show max d.depth (PyData.depthAll r) ≤ k
      exact Nat.max_le.mpr ⟨h1.dep, h2.2⟩
theorem Dk.list {ds : List PyData} {k : Nat} (h : ∀ d ∈ ds, Dk d k) : Dk (.list ds) (k + 1) := ⟨(dk_all h).1, Nat.succ_le_succ (dk_all h).2⟩
theorem Dk.tup {ds : List PyData} {k : Nat} (h : ∀ d ∈ ds, Dk d k) : Dk (.tuple ds) (k + 1) := ⟨(dk_all h).1, Nat.succ_le_succ (dk_all h).2⟩
theorem dk_nil {k : Nat} : ∀ d ∈ ([] : List PyData), Dk d k := fun _ h => nomatch h
theorem dk_cons {k : Nat} {x : PyData} {ds : List PyData} (a : Dk x k) (b : ∀ d ∈ ds, Dk d k) : ∀ d ∈ x :: ds, Dk d k := fun d h => (List.mem_cons.mp h).elim (fun e => e ▸ a) (b d)
theorem dk_map {α : Type} {k : Nat} {f : α → PyData} {xs : List α} (h : ∀ x ∈ xs, Dk (f x) k) : ∀ d ∈ xs.map f, Dk d k := fun d hd => by
  obtain ⟨x, hx, e⟩ := List.mem_map.mp hd
  exact e ▸ h x hx
theorem dk_txts {xs : List Str} (h : ∀ x ∈ xs, PyData.strOk x = true) {k : Nat} : Dk (.list (xs.map PyData.str)) (k + 1) := Dk.list (dk_map fun x hx => Dk.str (h x hx))
section
variable {K : PySem.W.Frag} {H : Hp} {Q : VK} {x y : V} {d : PyData}
theorem w_neSelf {k : Nat} (hx : Dp K H x d) (hy : Dp K H y d) (hd : Dk d k) (hk : k ≤ 64) (q : Q (.bl false) H) : rNe2 K x y H Q := w_neD hx hy (hd.shaped hk) (hd.shaped hk) (by rw [eqv_self d hd.lay]; exact q)
theorem tyx_list {a : Addr} {xs : List V} (h : H a = some (.lst xs)) : TyX K H (.ref a) (.type "list") := .base (.lst h)
theorem w_isi {t c : String} (h : TyX K H x (.type t)) (e : PySem.W.kitOne K (.type t) (.type c) = some true) (q : Q (.bl true) H) : rIsi2 K [x, .ty c] H Q := .inl ⟨_, _, _, _, _, rfl, .ty _, h, e, q⟩
theorem w_isiNo {t c : String} (h : TyX K H x (.type t)) (e : PySem.W.kitOne K (.type t) (.type c) = some false) (q : Q (.bl false) H) : rIsi2 K [x, .ty c] H Q := .inl ⟨_, _, _, _, _, rfl, .ty _, h, e, q⟩
theorem w_listL {p : Addr} {xs : List V} (h : SqL K H p xs) (q : ∀ l, H l = none → Q (.ref l) (upd H l (.lst xs))) : rList K [.ref p] H Q := .inl ⟨p, xs, rfl, .inl h, q⟩
theorem w_listT {p : Addr} {xs : List V} (h : SqT K H p xs) (q : ∀ l, H l = none → Q (.ref l) (upd H l (.lst xs))) : rList K [.ref p] H Q := .inl ⟨p, xs, rfl, .inr h, q⟩
end
theorem rising_all : ∀ {xs : List Str} {p : Str}, risingS p xs = true → (∀ y ∈ xs, ¬ (y.cps.toList < p.cps.toList)) ∧ sortedS xs = true
  | [], _, _ => ⟨(fun _ h => nomatch h), rfl⟩
  | x :: r, p, h => by
    have h' : (!ltCps x.cps.toList p.cps.toList && risingS x r) = true := h
    have h2 := Bool.and_eq_true_iff.mp h'
    have h3 : ¬ (x.cps.toList < p.cps.toList) := by
      have := h2.1
      rw [ltCps_eq] at this
      simpa using this
    have ih := rising_all h2.2
    refine ⟨fun y hy => ?_, h2.2⟩
    rcases List.mem_cons.mp hy with rfl | hy
    · exact h3
    · intro c
      exact ih.1 y hy (Decidable.byContradiction fun n => h3 (List.lt_of_le_of_lt (List.not_lt.mp n) c))
theorem str_ext {x y : Str} (h : x.cps.toList = y.cps.toList) : x = y := by
  cases x with
  | mk a =>
    cases y with
    | mk b => exact congrArg Str.mk (Array.toList_inj.mp h)
theorem sort_one : ∀ {xs ys : List Str}, sortedS xs = true → xs.Nodup → sortedS ys = true → ys.Nodup → (∀ z, z ∈ xs ↔ z ∈ ys) → xs = ys
  | [], [], _, _, _, _, _ => rfl
  | [], y :: t, _, _, _, _, h => absurd ((h y).mpr List.mem_cons_self) List.not_mem_nil
  | x :: r, [], _, _, _, _, h => absurd ((h x).mp List.mem_cons_self) List.not_mem_nil
  | x :: r, y :: t, sx, nx, sy, ny, h => by
    have rx := rising_all (p := x) (xs := r) sx
    have ry := rising_all (p := y) (xs := t) sy
    have hx : ¬ (x.cps.toList < y.cps.toList) := by
      rcases List.mem_cons.mp ((h x).mp List.mem_cons_self) with e | e
      · rw [e]; exact List.lt_irrefl _
      · exact ry.1 x e
    have hy : ¬ (y.cps.toList < x.cps.toList) := by
      rcases List.mem_cons.mp ((h y).mpr List.mem_cons_self) with e | e
      · rw [e]; exact List.lt_irrefl _
      · exact rx.1 y e
    have e : x = y := str_ext (List.le_antisymm (List.not_lt.mp hy) (List.not_lt.mp hx))
    subst e
    obtain ⟨nx1, nx2⟩ := List.nodup_cons.mp nx
    obtain ⟨ny1, ny2⟩ := List.nodup_cons.mp ny
    have : r = t := sort_one rx.2 nx2 ry.2 ny2 fun z => by
      constructor
      · intro hz
        rcases List.mem_cons.mp ((h z).mp (List.mem_cons_of_mem _ hz)) with e | e
        · exact absurd (e ▸ hz) nx1
        · exact e
      · intro hz
        rcases List.mem_cons.mp ((h z).mpr (List.mem_cons_of_mem _ hz)) with e | e
        · exact absurd (e ▸ hz) ny1
        · exact e
    rw [this]
theorem none_of {H H' : Hp} {a : Addr} (e : Same H H') (h : H' a = none) : H a = none := by
  cases c : H a with
  | none => rfl
  | some u => rw [e a u c] at h; exact nomatch h
theorem w_sortSet {K : PySem.W.Frag} {σ : L2.St} {H : Hp} {Q : VK} {ta : TE} (h : ta σ H fun x H1 => ∃ (l : Addr) (xs ns : List Str), x = .ref l ∧ SqL K H1 l (xs.map V.str) ∧ (∀ y ∈ xs, y ∈ ns) ∧ ns.length ≤ 4000 ∧
  ∀ (ys : List Str) (p : Addr) (H2 : Hp), sortedS ys = true → ys.Nodup → (∀ y, y ∈ ys ↔ y ∈ xs) → Same H1 H2 → H1 p = none → H2 p = some (.lst (ys.map V.str)) → Q (.ref p) H2) : tSortSet K ta σ H Q := h
theorem w_lc {wi : TI} {g : TG} {tt : TT} {te : TE} {vs : List Nat} {σ : L2.St} {H : Hp} {Q : VK} (h : wi σ H fun J H1 => ∀ D, H1 D = none → ∃ W : Nat → Nat → Hp → Prop, (∃ m, W 0 m (upd H1 D (.lst []))) ∧ ∀ i m H, W i m H →
  (J.stop i H ∧ Q (.ref D) H) ∨ (J.go i H ∧ ∃ Nx : Hp → Prop, (∀ H', Nx H' → ∃ m', m' < m ∧ W (i + 1) m' H') ∧ ∀ x H', J.yld i H x H' → g x (wipe σ vs) H' fun σ2 H2 => wipe σ2 vs = wipe σ vs ∧ tt σ2 H2 fun b H3 =>
    if b = true then te σ2 H3 fun y H4 => ∃ acc, H4 D = some (.lst acc) ∧ acc.length < sizeLine ∧ Nx (upd H4 D (.lst (acc ++ [y]))) else Nx H3)) : tLc wi g tt te vs σ H Q := h
def SameX (D : Addr) (H H' : Hp) : Prop := ∀ a u, a ≠ D → H a = some u → H' a = some u
theorem lc_each {K : PySem.W.Frag} {a : Addr} {xs : List V} {g : TG} {tt : TT} {te : TE} {vs : List Nat} {σ : L2.St} {H0 : Hp} {D : Addr} {Qd : Hp → Prop} (R : Nat → V → Hp → Prop) (hq : SqL K H0 a xs) (hl : xs.length ≤ 16000000) (hD : H0 D = none)
    (mono : ∀ i y H H', R i y H → SameX D H H' → R i y H')
    (hs : ∀ i x H (Nx : Hp → Prop), xs[i]? = some x → Same H0 H → (∃ ys, H D = some (.lst ys)) → (∀ y H4, Same H H4 → R i y H4 → ∃ acc, H4 D = some (.lst acc) ∧ acc.length < sizeLine ∧ Nx (upd H4 D (.lst (acc ++ [y])))) →
      g x (wipe σ vs) H fun σ2 H2 => wipe σ2 vs = wipe σ vs ∧ tt σ2 H2 fun b H3 => if b = true then te σ2 H3 fun y H4 => ∃ acc, H4 D = some (.lst acc) ∧ acc.length < sizeLine ∧ Nx (upd H4 D (.lst (acc ++ [y]))) else Nx H3)
    (hd : ∀ H ys, Same H0 H → H D = some (.lst ys) → ys.length = xs.length → (∀ (i : Nat) y, ys[i]? = some y → R i y H) → Qd H) :
    ∃ W : Nat → Nat → Hp → Prop, (∃ m, W 0 m (upd H0 D (.lst []))) ∧ ∀ i m H, W i m H →
      ((Itl K a).stop i H ∧ Qd H) ∨ ((Itl K a).go i H ∧ ∃ Nx : Hp → Prop, (∀ H', Nx H' → ∃ m', m' < m ∧ W (i + 1) m' H') ∧ ∀ x H', (Itl K a).yld i H x H' → g x (wipe σ vs) H' fun σ2 H2 => wipe σ2 vs = wipe σ vs ∧ tt σ2 H2 fun b H3 =>
        if b = true then te σ2 H3 fun y H4 => ∃ acc, H4 D = some (.lst acc) ∧ acc.length < sizeLine ∧ Nx (upd H4 D (.lst (acc ++ [y]))) else Nx H3) := by
  refine lc_list (xs := xs) (fun i H => Same H0 H ∧ ∃ ys, H D = some (.lst ys) ∧ ys.length = i ∧ ∀ (j : Nat) y, ys[j]? = some y → R j y H) ⟨same_new hD, [], upd_same, rfl, fun j y h => by simp at h⟩ (fun i H _ h => same_l h.1 hq) ?_ ?_
  · rintro i x H hx ⟨e, ys, hy, hl2, hR⟩
    refine hs i x H _ hx e ⟨ys, hy⟩ fun y H4 e4 hr => ?_
    have hi : i < xs.length := (List.getElem?_eq_some_iff.mp hx).1
    have sx : SameX D H4 (upd H4 D (.lst (ys ++ [y]))) := fun b u nb hb => by rw [upd_ne nb]; exact hb
    have sx0 : SameX D H (upd H4 D (.lst (ys ++ [y]))) := fun b u nb hb => by rw [upd_ne nb]; exact e4 b u hb
    refine ⟨ys, e4 D _ hy, Nat.lt_of_le_of_lt (by omega : ys.length ≤ 16000000) (by decide), same_mut (e.trans e4) hD, ys ++ [y], upd_same, by rw [List.length_append, hl2] <;> rfl, fun j z hz => ?_⟩
    rcases Nat.lt_or_ge j ys.length with lt | ge
    · rw [List.getElem?_append_left lt] at hz
      exact mono j z _ _ (hR j z hz) sx0
    · rw [List.getElem?_append_right ge] at hz
      have hj : j - ys.length = 0 := by
        have := (List.getElem?_eq_some_iff.mp hz).1
        simp only [List.length_singleton] at this
        omega
      rw [hj] at hz
      have hz' : y = z := Option.some.inj hz
      have ji : j = i := by omega
      rw [← hz', ji]
      exact mono i y _ _ hr sx
  · rintro H ⟨e, ys, hy, hl2, hR⟩
    exact hd H ys e hy hl2 hR
theorem list_one {α : Type} : ∀ {l : List α}, l.length = 1 → ∃ a, l = [a]
  | [a], _ => ⟨a, rfl⟩
theorem list_two {α : Type} : ∀ {l : List α}, l.length = 2 → ∃ a b, l = [a, b]
  | [a, b], _ => ⟨a, b, rfl⟩
theorem for_enum {K : PySem.W.Frag} {a : Addr} {xs : List V} {g : TG} {tb : TS} {D : Ends} {σ : L2.St} {H : Hp} (Pv : Nat → L2.St → Hp → Prop) (h0 : Pv 0 σ H) (hl : ∀ i σ H, i ≤ xs.length → Pv i σ H → SqL K H a xs)
    (hs : ∀ i x σ H T, xs[i]? = some x → H T = none → Pv i σ H → g (.ref T) σ (upd H T (.tup [.int (i : Nat), x])) fun σ2 H2 => tb { D with nx := Pv (i + 1), ct := Pv (i + 1), bk := D.nx } σ2 H2) (hd : ∀ σ H, Pv xs.length σ H → D.nx σ H) :
    ∃ W : Nat → Nat → L2.St → Hp → Prop, (∃ m, W 0 m σ H) ∧ ∀ i m σ H, W i m σ H →
      ((Ite K a).stop i H ∧ D.nx σ H) ∨ ((Ite K a).go i H ∧ ∃ N : L2.St → Hp → Prop, (∀ σ' H', N σ' H' → ∃ m', m' < m ∧ W (i + 1) m' σ' H') ∧ ∀ x H', (Ite K a).yld i H x H' → g x σ H' fun σ2 H2 => tb { D with nx := N, ct := N, bk := D.nx } σ2 H2) := by
  refine ⟨fun i m σ H => m = xs.length - i ∧ i ≤ xs.length ∧ Pv i σ H, ⟨xs.length, by simp, Nat.zero_le _, h0⟩, ?_⟩
  rintro i m σ H ⟨rfl, hi, p⟩
  have q := hl i σ H hi p
  by_cases hlt : i < xs.length
  · refine .inr ⟨⟨xs, xs[i], q, by simp [hlt]⟩, Pv (i + 1), fun σ' H' p' => ⟨xs.length - (i + 1), by omega, rfl, hlt, p'⟩, fun x H' y => ?_⟩
    obtain ⟨T, z, rfl, hT, rfl, hz⟩ := y
    exact hs i z σ _ T (hz xs q) hT p
  · have e : i = xs.length := by omega
    subst e
    exact .inl ⟨⟨xs, q, Nat.le_refl _⟩, hd σ H p⟩
theorem Fm.ok_names {ns : List Str} : ∀ {f : Fm}, f.ok ns → ∀ x ∈ f.names, x ∈ ns
  | .num _, _, x, hx => nomatch hx
  | .nam y, q, x, hx => by rw [List.mem_singleton.mp hx]; exact q
  | .op _ a b, q, x, hx => (List.mem_append.mp hx).elim (Fm.ok_names q.1 x) (Fm.ok_names q.2 x)
def Fm.rights : Fm → List Str
  | .num _ => []
  | .nam _ => []
  | .op s a b => a.rights ++ b.rights ++ (if s = .div then b.names else [])
def Fm.divs : Fm → Bool
  | .num _ => false
  | .nam _ => false
  | .op s a b => decide (s = .div) || (a.divs || b.divs)
def Fm.namesOf : Fm → Bool → List Str
  | .num _, _ => []
  | .nam x, r => if r then [x] else []
  | .op s a b, r => a.namesOf r ++ b.namesOf (r || decide (s = .div))
theorem Fm.namesOf_true : ∀ f : Fm, f.namesOf true = f.names
  | .num _ => rfl
  | .nam _ => rfl
  | .op s a b => by
    show a.namesOf true ++ b.namesOf (true || decide (s = .div)) = a.names ++ b.names
    rw [Bool.true_or, a.namesOf_true, b.namesOf_true]
theorem Fm.namesOf_false (y : Str) : ∀ f : Fm, y ∈ f.namesOf false ↔ y ∈ f.rights
  | .num _ => Iff.rfl
  | .nam _ => Iff.rfl
  | .op s a b => by
    show y ∈ a.namesOf false ++ b.namesOf (false || decide (s = .div)) ↔ y ∈ a.rights ++ b.rights ++ (if s = .div then b.names else [])
    have h1 := Fm.namesOf_false y a
    have h2 := Fm.namesOf_false y b
    have h3 : y ∈ b.rights → y ∈ b.names := Fm.rights_names y b
    rw [Bool.false_or, List.mem_append, List.mem_append, List.mem_append, h1]
    by_cases e : s = .div
    · rw [decide_eq_true e, if_pos e, b.namesOf_true]
      constructor
      · rintro (h | h)
        · exact .inl (.inl h)
        · exact .inr h
      · rintro ((h | h) | h)
        · exact .inl h
        · exact .inr (h3 h)
        · exact .inr h
    · rw [decide_eq_false e, if_neg e, h2]
      constructor
      · rintro (h | h)
        · exact .inl (.inl h)
        · exact .inl (.inr h)
      · rintro ((h | h) | h)
        · exact .inl h
        · exact .inr h
        · exact absurd h List.not_mem_nil
where
  Fm.rights_names (y : Str) : ∀ f : Fm, y ∈ f.rights → y ∈ f.names
  | .num _, h => h
  | .nam _, h => nomatch h
  | .op s a b, h => by
    show y ∈ a.names ++ b.names
    rcases List.mem_append.mp (show y ∈ a.rights ++ b.rights ++ (if s = .div then b.names else []) from h) with h | h
    · rcases List.mem_append.mp h with h | h
      · exact List.mem_append_left _ (Fm.rights_names y a h)
      · exact List.mem_append_right _ (Fm.rights_names y b h)
    · by_cases e : s = .div
      · rw [if_pos e] at h
        exact List.mem_append_right _ h
      · rw [if_neg e] at h
        exact nomatch h
theorem Fm.rights_names (y : Str) (f : Fm) : y ∈ f.rights → y ∈ f.names := Fm.namesOf_false.Fm.rights_names y f
theorem Fm.rights_len : ∀ f : Fm, f.rights.length ≤ f.depth * 2 ^ f.depth
  | .num _ => Nat.zero_le _
  | .nam _ => Nat.zero_le _
  | .op s a b => by
    have h1 := a.rights_len
    have h2 := b.rights_len
    have h3 := b.names_len
    have m1 : a.depth ≤ max a.depth b.depth := Nat.le_max_left _ _
    have m2 : b.depth ≤ max a.depth b.depth := Nat.le_max_right _ _
    have p1 : 2 ^ a.depth ≤ 2 ^ max a.depth b.depth := Nat.pow_le_pow_right (by decide) m1
    have p2 : 2 ^ b.depth ≤ 2 ^ max a.depth b.depth := Nat.pow_le_pow_right (by decide) m2
    have q1 := Nat.mul_le_mul m1 p1
    have q2 := Nat.mul_le_mul m2 p2
    have l : (if s = .div then b.names else []).length ≤ b.names.length := by
      by_cases e : s = .div
      · rw [if_pos e]; exact Nat.le_refl _
      · rw [if_neg e]; exact Nat.zero_le _
    show (a.rights ++ b.rights ++ (if s = .div then b.names else [])).length ≤ (max a.depth b.depth + 1) * 2 ^ (max a.depth b.depth + 1)
    rw [List.length_append, List.length_append, Nat.pow_succ, Nat.add_mul, Nat.one_mul, ← Nat.mul_assoc]
    generalize max a.depth b.depth * 2 ^ max a.depth b.depth = X at *
    generalize 2 ^ max a.depth b.depth = Y at *
    omega
theorem Fm.rights_small {f : Fm} (h : f.depth ≤ 18) : f.rights.length ≤ 4718592 :=
  Nat.le_trans f.rights_len (Nat.mul_le_mul h (Nat.pow_le_pow_right (by decide) h))
theorem Fm.names_small18 {f : Fm} (h : f.depth ≤ 18) : f.names.length ≤ 262144 := Nat.le_trans f.names_len (Nat.pow_le_pow_right (by decide) h)
def sp_all_names (K : PySem.W.Frag) (n : Nat) : Sp := fun vs H Q _ => ∃ (v : V) (f : Fm), vs = [v] ∧ FmAt K H v f ∧ f.depth ≤ n ∧ f.depth ≤ 18 ∧ ∀ p H', Same H H' → H p = none → H' p = some (.lst (f.names.map V.str)) → Q (.ref p) H'
def sp_names_in (K : PySem.W.Frag) : Sp := fun vs H Q _ => ∃ (v : V) (f : Fm) (ns : List Str), vs = [v] ∧ FmAt K H v f ∧ f.ok ns ∧ ns.length ≤ 1000 ∧ f.depth ≤ 18 ∧
  ∀ p H' ys, sortedS ys = true → ys.Nodup → (∀ y, y ∈ ys ↔ y ∈ f.names) → Same H H' → H p = none → H' p = some (.lst (ys.map V.str)) → Q (.ref p) H'
def sp_all_right (K : PySem.W.Frag) (n : Nat) : Sp := fun vs H Q _ => ∃ (v : V) (f : Fm), vs = [v] ∧ FmAt K H v f ∧ f.depth ≤ n ∧ f.depth ≤ 18 ∧ ∀ p H', Same H H' → H p = none → H' p = some (.lst (f.rights.map V.str)) → Q (.ref p) H'
def sp_right_names (K : PySem.W.Frag) : Sp := fun vs H Q _ => ∃ (v : V) (f : Fm) (ns : List Str), vs = [v] ∧ FmAt K H v f ∧ f.ok ns ∧ ns.length ≤ 1000 ∧ f.depth ≤ 18 ∧
  ∀ p H' ys, sortedS ys = true → ys.Nodup → (∀ y, y ∈ ys ↔ y ∈ f.rights) → Same H H' → H p = none → H' p = some (.lst (ys.map V.str)) → Q (.ref p) H'
def sp_divides (K : PySem.W.Frag) (n : Nat) : Sp := fun vs H Q _ => ∃ (v : V) (f : Fm), vs = [v] ∧ FmAt K H v f ∧ f.depth ≤ n ∧ Q (.bl f.divs) H
abbrev N_all_names : List Str := ["formula"]
def t_all_names (K : PySem.W.Frag) (n : Nat) : TS :=
  (tSeq (tIfS (tTest (tOp (rEq2 K) (tOp (rIx K) (tVar 0) (tC (.int 0))) (tC (.str "number")))) (tRet (tLst tNil)) tNext) (tSeq (tIfS (tTest (tOp (rEq2 K) (tOp (rIx K) (tVar 0) (tC (.int 0))) (tC (.str "name")))) (tRet (tLst (tCons (tOp (rIx K) (tVar 0) (tC (.int 1))) tNil))) tNext) (tRet (tOp (rAdd K) (tF (sp_all_names K n) (tCons (tOp (rIx K) (tVar 0) (tC (.int 1))) tNil)) (tF (sp_all_names K n) (tCons (tOp (rIx K) (tVar 0) (tC (.int 2))) tNil))))))
abbrev N_names_in : List Str := ["formula"]
def t_names_in (K : PySem.W.Frag) : TS :=
  (tRet (tSortSet K (tF (sp_all_names K 18) (tCons (tVar 0) tNil))))
abbrev N_all_right : List Str := ["formula", "found"]
def t_all_right (K : PySem.W.Frag) (n : Nat) : TS :=
  (tSeq (tIfS (tOr (tTest (tOp (rEq2 K) (tOp (rIx K) (tVar 0) (tC (.int 0))) (tC (.str "number")))) (tTest (tOp (rEq2 K) (tOp (rIx K) (tVar 0) (tC (.int 0))) (tC (.str "name"))))) (tRet (tLst tNil)) tNext) (tSeq (tAsg (tOp (rAdd K) (tF (sp_all_right K n) (tCons (tOp (rIx K) (tVar 0) (tC (.int 1))) tNil)) (tF (sp_all_right K n) (tCons (tOp (rIx K) (tVar 0) (tC (.int 2))) tNil))) (gName 1)) (tSeq (tIfS (tTest (tOp (rEq2 K) (tOp (rIx K) (tVar 0) (tC (.int 0))) (tC (.str "/")))) (tAsg (tOp (rAdd K) (tVar 1) (tF (sp_all_names K 18) (tCons (tOp (rIx K) (tVar 0) (tC (.int 2))) tNil))) (gName 1)) tNext) (tRet (tVar 1)))))
abbrev N_right_names : List Str := ["formula"]
def t_right_names (K : PySem.W.Frag) : TS :=
  (tRet (tSortSet K (tF (sp_all_right K 18) (tCons (tVar 0) tNil))))
abbrev N_divides : List Str := ["formula"]
def t_divides (K : PySem.W.Frag) (n : Nat) : TS :=
  (tSeq (tIfS (tOr (tTest (tOp (rEq2 K) (tOp (rIx K) (tVar 0) (tC (.int 0))) (tC (.str "number")))) (tTest (tOp (rEq2 K) (tOp (rIx K) (tVar 0) (tC (.int 0))) (tC (.str "name"))))) (tRet (tC (.bl false))) tNext) (tRet (tOrV (tOp (rEq2 K) (tOp (rIx K) (tVar 0) (tC (.int 0))) (tC (.str "/"))) (tOrV (tF (sp_divides K n) (tCons (tOp (rIx K) (tVar 0) (tC (.int 1))) tNil)) (tF (sp_divides K n) (tCons (tOp (rIx K) (tVar 0) (tC (.int 2))) tNil))))))
theorem pure_all_names (K : PySem.W.Frag) (n : Nat) (vs : List V) (H : Hp) (Q : VK) (E : XK) (h : sp_all_names K (n + 1) vs H Q E) :
    t_all_names K n { nx := fun _ H' => Q .non H', rt := Q } (start N_all_names vs) H := by
  obtain ⟨v, f, rfl, hf, hd, hn, q⟩ := h
  unfold t_all_names
  cases hf with
  | num h =>
    walk_at "go"
    exact w_new (by walk_at "sz") (fun p hp => q _ _ (same_new hp) hp upd_same)
  | nam h =>
    walk_at "go"
    exact w_new (by walk_at "sz") (fun p hp => q _ _ (same_new hp) hp upd_same)
  | @op a s u v f g h h1 h2 =>
    have e1 := sg_num s
    have e2 := sg_nam s
    have l1 : f.depth ≤ n := by simp only [Fm.depth] at hd; omega
    have l2 : g.depth ≤ n := by simp only [Fm.depth] at hd; omega
    have k1 : f.depth ≤ 18 := by simp only [Fm.depth] at hn; omega
    have k2 : g.depth ≤ 18 := by simp only [Fm.depth] at hn; omega
    walk_at "go"
    refine ⟨_, f, rfl, h1, l1, k1, fun p H1 e hp hp1 => ?_⟩
    walk_at "go"
    refine ⟨_, g, rfl, h2.mono e, l2, k2, fun p2 H2 e' hp2 hp3 => ?_⟩
    have y1 := Fm.names_small18 k1
    have y2 := Fm.names_small18 k2
    refine w_addL (e' p _ hp1) hp3 (sz (by rw [List.length_map, List.length_map]; omega)) fun p4 hp4 => ?_
    exact q _ _ ((e.trans e').trans (same_new hp4)) (none_of (e.trans e') hp4) (by rw [upd_same, ← List.map_append] <;> rfl)
theorem no_all_names {K : PySem.W.Frag} : ∀ vs H Q E, ¬ sp_all_names K 0 vs H Q E := by
  rintro vs H Q E ⟨v, f, _, _, h, _⟩
  have := f.depth_pos
  omega
theorem pure_names_in (K : PySem.W.Frag) (vs : List V) (H : Hp) (Q : VK) (E : XK) (h : sp_names_in K vs H Q E) :
    t_names_in K { nx := fun _ H' => Q .non H', rt := Q } (start N_names_in vs) H := by
  obtain ⟨v, f, ns, rfl, hf, ho, hl, hn, q⟩ := h
  unfold t_names_in
  walk_at "go"
  refine w_sortSet ?_
  walk_at "go"
  refine ⟨_, f, rfl, hf, hn, hn, fun p H1 e hp hp1 => ?_⟩
  refine ⟨p, f.names, ns, rfl, SqL.of hp1, Fm.ok_names ho, by omega, fun ys r H2 s1 s2 s3 e2 hr hr2 => ?_⟩
  exact q r H2 ys s1 s2 s3 (e.trans e2) (none_of e hr) hr2
theorem pure_all_right (K : PySem.W.Frag) (n : Nat) (vs : List V) (H : Hp) (Q : VK) (E : XK) (h : sp_all_right K (n + 1) vs H Q E) :
    t_all_right K n { nx := fun _ H' => Q .non H', rt := Q } (start N_all_right vs) H := by
  obtain ⟨v, f, rfl, hf, hd, hn, q⟩ := h
  unfold t_all_right
  cases hf with
  | num h =>
    walk_at "go"
    exact w_new (by walk_at "sz") (fun p hp => q _ _ (same_new hp) hp upd_same)
  | nam h =>
    walk_at "go"
    exact w_new (by walk_at "sz") (fun p hp => q _ _ (same_new hp) hp upd_same)
  | @op a s u v f g h h1 h2 =>
    have e1 := sg_num s
    have e2 := sg_nam s
    have l1 : f.depth ≤ n := by simp only [Fm.depth] at hd; omega
    have l2 : g.depth ≤ n := by simp only [Fm.depth] at hd; omega
    have k1 : f.depth ≤ 18 := by simp only [Fm.depth] at hn; omega
    have k2 : g.depth ≤ 18 := by simp only [Fm.depth] at hn; omega
    walk_at "go"
    refine ⟨_, f, rfl, h1, l1, k1, fun p H1 e hp hp1 => ?_⟩
    walk_at "go"
    refine ⟨_, g, rfl, h2.mono e, l2, k2, fun p2 H2 e' hp2 hp3 => ?_⟩
    have y1 := Fm.rights_small k1
    have y2 := Fm.rights_small k2
    have y3 := Fm.names_small18 k2
    refine w_addL (e' p _ hp1) hp3 (sz (by rw [List.length_map, List.length_map]; omega)) fun p4 hp4 => ?_
    have e4 := (e.trans e').trans (same_new (o := .lst (f.rights.map V.str ++ g.rights.map V.str)) hp4)
    have c4 := none_of (e.trans e') hp4
    walk_at "go"
    rw [sg_div]
    refine w_two (fun c => ?_) (fun c => ?_)
    · have c := of_decide_eq_true c
      walk_at "go"
      refine ⟨_, g, rfl, h2.mono e4, k2, k2, fun p5 H5 e5 hp5 hp6 => ?_⟩
      refine w_addL (e5 p4 _ upd_same) hp6 (sz (by rw [List.length_append, List.length_map, List.length_map, List.length_map]; omega)) fun p7 hp7 => ?_
      walk_at "go"
      exact q _ _ ((e4.trans e5).trans (same_new hp7)) (none_of (e4.trans e5) hp7) (by rw [upd_same, Fm.rights, if_pos c, List.map_append, List.map_append] <;> rfl)
    · have c := of_decide_eq_false c
      walk_at "go"
      exact q _ _ e4 c4 (by rw [upd_same, Fm.rights, if_neg c, List.append_nil, List.map_append] <;> rfl)
theorem no_all_right {K : PySem.W.Frag} : ∀ vs H Q E, ¬ sp_all_right K 0 vs H Q E := by
  rintro vs H Q E ⟨v, f, _, _, h, _⟩
  have := f.depth_pos
  omega
theorem pure_right_names (K : PySem.W.Frag) (vs : List V) (H : Hp) (Q : VK) (E : XK) (h : sp_right_names K vs H Q E) :
    t_right_names K { nx := fun _ H' => Q .non H', rt := Q } (start N_right_names vs) H := by
  obtain ⟨v, f, ns, rfl, hf, ho, hl, hn, q⟩ := h
  unfold t_right_names
  walk_at "go"
  refine w_sortSet ?_
  walk_at "go"
  refine ⟨_, f, rfl, hf, hn, hn, fun p H1 e hp hp1 => ?_⟩
  refine ⟨p, f.rights, ns, rfl, SqL.of hp1, (fun y hy => Fm.ok_names ho y (f.rights_names y hy)), by omega, fun ys r H2 s1 s2 s3 e2 hr hr2 => ?_⟩
  exact q r H2 ys s1 s2 s3 (e.trans e2) (none_of e hr) hr2
theorem pure_divides (K : PySem.W.Frag) (n : Nat) (vs : List V) (H : Hp) (Q : VK) (E : XK) (h : sp_divides K (n + 1) vs H Q E) :
    t_divides K n { nx := fun _ H' => Q .non H', rt := Q } (start N_divides vs) H := by
  obtain ⟨v, f, rfl, hf, hd, q⟩ := h
  unfold t_divides
  cases hf with
  | num h =>
    walk_at "go"
    exact q
  | nam h =>
    walk_at "go"
    exact q
  | @op a s u v f g h h1 h2 =>
    have e1 := sg_num s
    have e2 := sg_nam s
    have l1 : f.depth ≤ n := by simp only [Fm.depth] at hd; omega
    have l2 : g.depth ≤ n := by simp only [Fm.depth] at hd; omega
    walk_at "go"
    rw [sg_div]
    refine w_two (fun c => ?_) (fun c => ?_)
    · rw [Fm.divs, c, Bool.true_or] at q
      exact q
    · rw [Fm.divs, c, Bool.false_or] at q
      walk_at "go"
      refine ⟨_, f, rfl, h1, l1, ?_⟩
      walk_at "go"
      refine w_two (fun c2 => ?_) (fun c2 => ?_)
      · rw [c2, Bool.true_or] at q
        exact q
      · rw [c2, Bool.false_or] at q
        walk_at "go"
        exact ⟨_, g, rfl, h2, l2, q⟩
theorem no_divides {K : PySem.W.Frag} : ∀ vs H Q E, ¬ sp_divides K 0 vs H Q E := by
  rintro vs H Q E ⟨v, f, _, _, h, _⟩
  have := f.depth_pos
  omega
def DAt (H : Hp) (a : Addr) (ns : List Str) (g : Str → Int) : Prop := ∃ kvs : List (Key × V), H a = some (.dK kvs) ∧ ∀ x ∈ ns, valV kvs (.inr x) = some (.int (g x))
theorem DAt.mono {H H' : Hp} {a : Addr} {ns : List Str} {g : Str → Int} (e : Same H H') (h : DAt H a ns g) : DAt H' a ns g := by
  obtain ⟨kvs, h1, h2⟩ := h
  exact ⟨kvs, e a _ h1, h2⟩
inductive Rw where
  | set (x : Str) (f : Fm)
  | tell (f : Fm)
  | skip
  | ite (f : Fm) (a b : List Rw)
  | whl (f : Fm) (a : List Rw)
mutual
def Rw.size : Rw → Nat
  | .set _ _ => 1
  | .tell _ => 1
  | .skip => 1
  | .ite _ a b => 1 + (szs a + szs b)
  | .whl _ a => 1 + szs a
def szs : List Rw → Nat
  | [] => 0
  | r :: l => r.size + szs l
end
mutual
def Rw.nest : Rw → Nat
  | .set _ _ => 1
  | .tell _ => 1
  | .skip => 1
  | .ite _ a b => 1 + max (nests a) (nests b)
  | .whl _ a => 1 + nests a
def nests : List Rw → Nat
  | [] => 0
  | r :: l => max r.nest (nests l)
end
def Fm.fine (ns : List Str) (f : Fm) : Prop := f.ok ns ∧ f.depth ≤ 12
mutual
def Rw.ok (ns : List Str) : Rw → Prop
  | .set x f => x ∈ ns ∧ f.fine ns
  | .tell f => f.fine ns
  | .skip => True
  | .ite f a b => f.fine ns ∧ oks ns a ∧ oks ns b
  | .whl f a => f.fine ns ∧ oks ns a
def oks (ns : List Str) : List Rw → Prop
  | [] => True
  | r :: l => r.ok ns ∧ oks ns l
end
theorem szs_app : ∀ a b : List Rw, szs (a ++ b) = szs a + szs b
  | [], b => by show szs b = 0 + szs b; omega
  | r :: l, b => by
    show r.size + szs (l ++ b) = r.size + szs l + szs b
    rw [szs_app l b]
    omega
theorem nests_app : ∀ a b : List Rw, nests (a ++ b) = max (nests a) (nests b)
  | [], b => by show nests b = max 0 (nests b); omega
  | r :: l, b => by
    show max r.nest (nests (l ++ b)) = max (max r.nest (nests l)) (nests b)
    rw [nests_app l b]
    omega
theorem oks_app {ns : List Str} : ∀ {a b : List Rw}, oks ns a → oks ns b → oks ns (a ++ b)
  | [], _, _, hb => hb
  | _ :: _, _, ha, hb => ⟨ha.1, oks_app ha.2 hb⟩
theorem oks_mem {ns : List Str} : ∀ {a : List Rw}, oks ns a → ∀ r ∈ a, r.ok ns
  | _ :: _, h, r, hr => (List.mem_cons.mp hr).elim (fun e => e ▸ h.1) fun hr => oks_mem h.2 r hr
theorem nest_mem : ∀ {a : List Rw} {r : Rw}, r ∈ a → r.nest ≤ nests a
  | s :: l, r, hr => by
    show r.nest ≤ max s.nest (nests l)
    rcases List.mem_cons.mp hr with e | hr
    · rw [e]; omega
    · have := nest_mem hr; omega
theorem size_pos (r : Rw) : 1 ≤ r.size := by
  cases r <;> simp only [Rw.size] <;> omega
theorem nest_pos (r : Rw) : 1 ≤ r.nest := by
  cases r <;> simp only [Rw.nest] <;> omega
theorem szs_len : ∀ a : List Rw, a.length ≤ szs a
  | [] => Nat.zero_le _
  | r :: l => by
    show l.length + 1 ≤ r.size + szs l
    have := size_pos r
    have := szs_len l
    omega
theorem sz_mem : ∀ {a : List Rw} {r : Rw}, r ∈ a → r.size ≤ szs a
  | s :: l, r, hr => by
    show r.size ≤ s.size + szs l
    rcases List.mem_cons.mp hr with e | hr
    · rw [e]; omega
    · have := sz_mem hr; omega
theorem Fm.fine_mono {ns ms : List Str} (h : ∀ x ∈ ns, x ∈ ms) {f : Fm} (q : f.fine ns) : f.fine ms := ⟨Fm.ok_mono h q.1, q.2⟩
mutual
theorem Rw.ok_mono {ns ms : List Str} (h : ∀ x ∈ ns, x ∈ ms) : ∀ {r : Rw}, r.ok ns → r.ok ms
  | .set _ _, q => ⟨h _ q.1, Fm.fine_mono h q.2⟩
  | .tell _, q => Fm.fine_mono h q
  | .skip, _ => trivial
  | .ite _ _ _, q => ⟨Fm.fine_mono h q.1, oks_mono h q.2.1, oks_mono h q.2.2⟩
  | .whl _ _, q => ⟨Fm.fine_mono h q.1, oks_mono h q.2⟩
theorem oks_mono {ns ms : List Str} (h : ∀ x ∈ ns, x ∈ ms) : ∀ {a : List Rw}, oks ns a → oks ms a
  | [], _ => trivial
  | _ :: _, q => ⟨Rw.ok_mono h q.1, oks_mono h q.2⟩
end
/-- rows as they stand in a heap; S tells how a row's blocks stand: as tuples, as lists, either -/
abbrev SQ := Hp → Addr → List V → Prop
mutual
inductive RwAt (K : PySem.W.Frag) (S : SQ) (H : Hp) : V → Rw → Prop where
  | set {a : Addr} {x : Str} {u : V} {f : Fm} (h : SqT K H a [.str "set", .str x, u]) (hf : FmAt K H u f) : RwAt K S H (.ref a) (.set x f)
  | tell {a : Addr} {u : V} {f : Fm} (h : SqT K H a [.str "tell", u]) (hf : FmAt K H u f) : RwAt K S H (.ref a) (.tell f)
  | skip {a : Addr} (h : SqT K H a [.str "skip"]) : RwAt K S H (.ref a) .skip
  | ite {a p q : Addr} {u : V} {f : Fm} {xs ys : List V} {b c : List Rw} (h : SqT K H a [.str "if", u, .ref p, .ref q]) (hf : FmAt K H u f) (hp : S H p xs) (hb : BkAt K S H xs b) (hq : S H q ys) (hc : BkAt K S H ys c) : RwAt K S H (.ref a) (.ite f b c)
  | whl {a p : Addr} {u : V} {f : Fm} {xs : List V} {b : List Rw} (h : SqT K H a [.str "while", u, .ref p]) (hf : FmAt K H u f) (hp : S H p xs) (hb : BkAt K S H xs b) : RwAt K S H (.ref a) (.whl f b)
inductive BkAt (K : PySem.W.Frag) (S : SQ) (H : Hp) : List V → List Rw → Prop where
  | nil : BkAt K S H [] []
  | cons {v : V} {vs : List V} {r : Rw} {l : List Rw} (h : RwAt K S H v r) (t : BkAt K S H vs l) : BkAt K S H (v :: vs) (r :: l)
end
/-- what never changes is as it was -/
def Fix : HO → Bool
  | .tup _ => true
  | .frz _ _ => true
  | _ => false
def SameT (H H' : Hp) : Prop := ∀ a o, H a = some o → Fix o = true → H' a = some o
theorem SameT.refl (H : Hp) : SameT H H := fun _ _ h _ => h
theorem SameT.of {H H' : Hp} (e : Same H H') : SameT H H' := fun a o h _ => e a o h
theorem SameT.trans {H H1 H2 : Hp} (a : SameT H H1) (b : SameT H1 H2) : SameT H H2 := fun x o h f => b x o (a x o h f) f
theorem SameT.upd {H : Hp} {p : Addr} {o o' : HO} (h : H p = some o) (f : Fix o = false) : SameT H (upd H p o') := fun a u ha hu => by
  rw [upd_ne (fun e => by rw [e, h] at ha; rw [← Option.some.inj ha, f] at hu; exact nomatch hu)]
  exact ha
theorem sameT_t {K : PySem.W.Frag} {H H' : Hp} {a : Addr} {xs : List V} (e : SameT H H') (h : SqT K H a xs) : SqT K H' a xs := by
  rcases h with (h | ⟨o, h⟩) | h
  · exact .inl (.inl (e a _ h rfl))
  · exact .inl (.inr ⟨o, e a _ h rfl⟩)
  · exact .inr h
theorem FmAt.monoT {K : PySem.W.Frag} {H H' : Hp} (e : SameT H H') {v : V} {f : Fm} (h : FmAt K H v f) : FmAt K H' v f := by
  induction h with
  | num h => exact .num (sameT_t e h)
  | nam h => exact .nam (sameT_t e h)
  | op h _ _ i1 i2 => exact .op (sameT_t e h) i1 i2
mutual
theorem RwAt.go {K : PySem.W.Frag} {S S' : SQ} {H H' : Hp} (e : SameT H H') (s : ∀ a xs, S H a xs → S' H' a xs) : ∀ {v : V} {r : Rw}, RwAt K S H v r → RwAt K S' H' v r
  | _, _, .set h hf => .set (sameT_t e h) (hf.monoT e)
  | _, _, .tell h hf => .tell (sameT_t e h) (hf.monoT e)
  | _, _, .skip h => .skip (sameT_t e h)
  | _, _, .ite h hf hp hb hq hc => .ite (sameT_t e h) (hf.monoT e) (s _ _ hp) (BkAt.go e s hb) (s _ _ hq) (BkAt.go e s hc)
  | _, _, .whl h hf hp hb => .whl (sameT_t e h) (hf.monoT e) (s _ _ hp) (BkAt.go e s hb)
theorem BkAt.go {K : PySem.W.Frag} {S S' : SQ} {H H' : Hp} (e : SameT H H') (s : ∀ a xs, S H a xs → S' H' a xs) : ∀ {vs : List V} {l : List Rw}, BkAt K S H vs l → BkAt K S' H' vs l
  | _, _, .nil => .nil
  | _, _, .cons h t => .cons (RwAt.go e s h) (BkAt.go e s t)
end
theorem BkAt.monoT {K : PySem.W.Frag} {H H' : Hp} (e : SameT H H') {vs : List V} {l : List Rw} (h : BkAt K (SqT K) H vs l) : BkAt K (SqT K) H' vs l := h.go e fun _ _ => sameT_t e
theorem RwAt.monoT {K : PySem.W.Frag} {H H' : Hp} (e : SameT H H') {v : V} {r : Rw} (h : RwAt K (SqT K) H v r) : RwAt K (SqT K) H' v r := h.go e fun _ _ => sameT_t e
theorem BkAt.len {K : PySem.W.Frag} {S : SQ} {H : Hp} : ∀ {vs : List V} {l : List Rw}, BkAt K S H vs l → vs.length = l.length
  | _, _, .nil => rfl
  | _, _, .cons _ t => congrArg (· + 1) t.len
theorem BkAt.app {K : PySem.W.Frag} {S : SQ} {H : Hp} : ∀ {vs : List V} {l : List Rw} {us : List V} {m : List Rw}, BkAt K S H vs l → BkAt K S H us m → BkAt K S H (vs ++ us) (l ++ m)
  | _, _, _, _, .nil, h => h
  | _, _, _, _, .cons a t, h => .cons a (t.app h)
theorem BkAt.one {K : PySem.W.Frag} {S : SQ} {H : Hp} {v : V} {r : Rw} (h : RwAt K S H v r) : BkAt K S H [v] [r] := .cons h .nil
theorem BkAt.get {K : PySem.W.Frag} {S : SQ} {H : Hp} : ∀ {vs : List V} {l : List Rw} {i : Nat} {v : V}, BkAt K S H vs l → vs[i]? = some v → ∃ r, l[i]? = some r ∧ RwAt K S H v r
  | _, _, 0, _, .cons h _, e => ⟨_, rfl, by rw [← Option.some.inj e]; exact h⟩
  | _, _, i + 1, _, .cons _ t, e => t.get (i := i) e
  | _, _, _, _, .nil, e => by simp at e
theorem BkAt.ref {K : PySem.W.Frag} {S : SQ} {H : Hp} {v : V} {r : Rw} (h : RwAt K S H v r) : ∃ a, v = .ref a := by
  cases h <;> exact ⟨_, rfl⟩
def Fm.pd : Fm → PyData
  | .num n => .tuple [.str "number", .int n]
  | .nam x => .tuple [.str "name", .str x]
  | .op s a b => .tuple [.str s.txt, a.pd, b.pd]
theorem FmAt.dp {K : PySem.W.Frag} {H : Hp} {v : V} {f : Fm} (h : FmAt K H v f) : Dp K H v f.pd := by
  induction h with
  | num h => exact .tup h (.cons (.str _) (.cons (.int _) .nil))
  | nam h => exact .tup h (.cons (.str _) (.cons (.str _) .nil))
  | op h _ _ i1 i2 => exact .tup h (.cons (.str _) (.cons i1 (.cons i2 .nil)))
theorem sg_ok (s : Sg) : PyData.strOk s.txt = true := by cases s <;> decide +kernel
theorem num_ok : PyData.strOk ("number" : Str) = true := by decide +kernel
theorem nam_ok : PyData.strOk ("name" : Str) = true := by decide +kernel
theorem Fm.dk {ns : List Str} (hn : ∀ x ∈ ns, Nm x) : ∀ {f : Fm}, f.ok ns → Dk f.pd f.depth
  | .num _, _ => Dk.tup (dk_cons (Dk.str num_ok) (dk_cons Dk.int dk_nil))
  | .nam x, h => Dk.tup (dk_cons (Dk.str nam_ok) (dk_cons (Dk.str (ok_txt (hn x h))) dk_nil))
  | .op s a b, h => Dk.tup (dk_cons (Dk.str (sg_ok s)) (dk_cons ((Fm.dk hn h.1).mono (Nat.le_max_left _ _)) (dk_cons ((Fm.dk hn h.2).mono (Nat.le_max_right _ _)) dk_nil)))
mutual
def Rw.pd (B : List PyData → PyData) : Rw → PyData
  | .set x f => .tuple [.str "set", .str x, f.pd]
  | .tell f => .tuple [.str "tell", f.pd]
  | .skip => .tuple [.str "skip"]
  | .ite f a b => .tuple [.str "if", f.pd, B (pds B a), B (pds B b)]
  | .whl f a => .tuple [.str "while", f.pd, B (pds B a)]
def pds (B : List PyData → PyData) : List Rw → List PyData
  | [] => []
  | r :: l => r.pd B :: pds B l
end
mutual
theorem RwAt.dp {K : PySem.W.Frag} {S : SQ} {H : Hp} {B : List PyData → PyData} (s : ∀ a xs ds, S H a xs → DpAll K H xs ds → Dp K H (.ref a) (B ds)) : ∀ {v : V} {r : Rw}, RwAt K S H v r → Dp K H v (r.pd B)
  | _, _, .set h hf => .tup h (.cons (.str _) (.cons (.str _) (.cons hf.dp .nil)))
  | _, _, .tell h hf => .tup h (.cons (.str _) (.cons hf.dp .nil))
  | _, _, .skip h => .tup h (.cons (.str _) .nil)
  | _, _, .ite h hf hp hb hq hc => .tup h (.cons (.str _) (.cons hf.dp (.cons (s _ _ _ hp (BkAt.dp s hb)) (.cons (s _ _ _ hq (BkAt.dp s hc)) .nil))))
  | _, _, .whl h hf hp hb => .tup h (.cons (.str _) (.cons hf.dp (.cons (s _ _ _ hp (BkAt.dp s hb)) .nil)))
theorem BkAt.dp {K : PySem.W.Frag} {S : SQ} {H : Hp} {B : List PyData → PyData} (s : ∀ a xs ds, S H a xs → DpAll K H xs ds → Dp K H (.ref a) (B ds)) : ∀ {vs : List V} {l : List Rw}, BkAt K S H vs l → DpAll K H vs (pds B l)
  | _, _, .nil => .nil
  | _, _, .cons h t => .cons (RwAt.dp s h) (BkAt.dp s t)
end
theorem set_ok : PyData.strOk ("set" : Str) = true := by decide +kernel
theorem tell_ok : PyData.strOk ("tell" : Str) = true := by decide +kernel
theorem skip_ok : PyData.strOk ("skip" : Str) = true := by decide +kernel
theorem if_ok : PyData.strOk ("if" : Str) = true := by decide +kernel
theorem while_ok : PyData.strOk ("while" : Str) = true := by decide +kernel
mutual
theorem Rw.dk {ns : List Str} (hn : ∀ x ∈ ns, Nm x) {B : List PyData → PyData} (s : ∀ ds k, (∀ d ∈ ds, Dk d k) → Dk (B ds) (k + 1)) : ∀ {r : Rw}, r.ok ns → Dk (r.pd B) (2 * r.nest + 11)
  | .set x f, h => (Dk.tup (k := 12) (dk_cons (Dk.str set_ok) (dk_cons (Dk.str (ok_txt (hn x h.1))) (dk_cons ((Fm.dk hn h.2.1).mono h.2.2) dk_nil)))).mono (Nat.le_refl 13)
  | .tell f, h => (Dk.tup (k := 12) (dk_cons (Dk.str tell_ok) (dk_cons ((Fm.dk hn h.1).mono h.2) dk_nil))).mono (Nat.le_refl 13)
  | .skip, _ => (Dk.tup (k := 12) (dk_cons (Dk.str skip_ok) dk_nil)).mono (Nat.le_refl 13)
  | .ite f a b, h => by
    have e : (Rw.ite f a b).nest = 1 + max (nests a) (nests b) := rfl
    have q1 := s _ _ (pds_dk hn s h.2.1)
    have q2 := s _ _ (pds_dk hn s h.2.2)
    exact (Dk.tup (k := 2 * max (nests a) (nests b) + 12) (dk_cons (Dk.str if_ok) (dk_cons ((Fm.dk hn h.1.1).mono (Nat.le_trans h.1.2 (by omega))) (dk_cons (q1.mono (by omega)) (dk_cons (q2.mono (by omega)) dk_nil))))).mono (by omega)
  | .whl f a, h => by
    have e : (Rw.whl f a).nest = 1 + nests a := rfl
    have q1 := s _ _ (pds_dk hn s h.2)
    exact (Dk.tup (k := 2 * nests a + 12) (dk_cons (Dk.str while_ok) (dk_cons ((Fm.dk hn h.1.1).mono (Nat.le_trans h.1.2 (by omega))) (dk_cons (q1.mono (by omega)) dk_nil)))).mono (by omega)
theorem pds_dk {ns : List Str} (hn : ∀ x ∈ ns, Nm x) {B : List PyData → PyData} (s : ∀ ds k, (∀ d ∈ ds, Dk d k) → Dk (B ds) (k + 1)) : ∀ {l : List Rw}, oks ns l → ∀ d ∈ pds B l, Dk d (2 * nests l + 11)
  | [], _ => dk_nil
  | r :: l, h => by
    have e : nests (r :: l) = max r.nest (nests l) := rfl
    exact dk_cons ((Rw.dk hn s h.1).mono (by omega)) fun d hd => (pds_dk hn s h.2 d hd).mono (by omega)
end
theorem tupB {K : PySem.W.Frag} {H : Hp} : ∀ a xs ds, SqT K H a xs → DpAll K H xs ds → Dp K H (.ref a) (PyData.tuple ds) := fun _ _ _ h t => .tup h t
theorem tupD : ∀ (ds : List PyData) k, (∀ d ∈ ds, Dk d k) → Dk (.tuple ds) (k + 1) := fun _ _ h => Dk.tup h
section
variable {K : PySem.W.Frag} {σ : L2.St} {H : Hp} {ta tb : TE} {t u : TT} {Q : VK}
theorem w_andP {c d : Bool} {Q : Bool → Hp → Prop} (h1 : ∀ Q : Bool → Hp → Prop, Q c H → t σ H Q) (h2 : ∀ Q : Bool → Hp → Prop, Q d H → u σ H Q) (q : Q (c && d) H) : tAnd t u σ H Q := by
  refine w_and (h1 _ ?_)
  cases c with
  | true => exact iteT (h2 _ q)
  | false => exact iteF q
end
structure Frm where
  a : Addr
  r : Addr
  kd : Nat
  f : Fm
  rows : List Rw
  sec : Bool
  els : Option (List Rw)
def kdT : Nat → Str
  | 0 => ""
  | 1 => "if"
  | _ => "while"
def elSz : Option (List Rw) → Nat
  | none => 0
  | some b => szs b
def Frm.w (x : Frm) : Nat := szs x.rows + elSz x.els + 2
def Frm.mu (x : Frm) : Nat := if x.kd = 1 ∧ x.els = none then 2 else 1
def ElAt (K : PySem.W.Frag) (H : Hp) (v : V) : Option (List Rw) → Prop
  | none => v = .non
  | some b => ∃ p ys, v = .ref p ∧ SqT K H p ys ∧ BkAt K (SqT K) H ys b
theorem ElAt.monoT {K : PySem.W.Frag} {H H' : Hp} (e : SameT H H') {v : V} : ∀ {o : Option (List Rw)}, ElAt K H v o → ElAt K H' v o
  | none, h => h
  | some _, ⟨p, ys, h1, h2, h3⟩ => ⟨p, ys, h1, sameT_t e h2, h3.monoT e⟩
structure FrIn (K : PySem.W.Frag) (H : Hp) (x : Frm) (vf ve : V) (xs : List V) : Prop where
  ha : H x.a = some (.lst [.str (kdT x.kd), vf, .ref x.r, .bl x.sec, ve])
  hr : H x.r = some (.lst xs)
  hb : BkAt K (SqT K) H xs x.rows
  f0 : x.kd = 0 → vf = .non
  f1 : x.kd ≠ 0 → FmAt K H vf x.f
  he : ElAt K H ve x.els
def FrAt (K : PySem.W.Frag) (H : Hp) (x : Frm) : Prop := ∃ vf ve xs, FrIn K H x vf ve xs
theorem FrIn.moves {K : PySem.W.Frag} {H H' : Hp} {x : Frm} {vf ve : V} {xs : List V} (e : SameT H H') (h : FrIn K H x vf ve xs) (ha : H' x.a = H x.a) (hr : H' x.r = H x.r) : FrIn K H' x vf ve xs :=
  ⟨ha.trans h.ha, hr.trans h.hr, h.hb.monoT e, h.f0, fun c => (h.f1 c).monoT e, h.he.monoT e⟩
theorem FrAt.mono {K : PySem.W.Frag} {H H' : Hp} {x : Frm} (e : Same H H') (h : FrAt K H x) : FrAt K H' x := by
  obtain ⟨vf, ve, xs, h⟩ := h
  exact ⟨vf, ve, xs, h.moves (SameT.of e) ((e _ _ h.ha).trans h.ha.symm) ((e _ _ h.hr).trans h.hr.symm)⟩
theorem FrAt.other {K : PySem.W.Frag} {H : Hp} {x : Frm} {q : Addr} {zs : List V} {o : HO} (h : FrAt K H x) (hq : H q = some (.lst zs)) (na : x.a ≠ q) (nr : x.r ≠ q) : FrAt K (upd H q o) x := by
  obtain ⟨vf, ve, xs, h⟩ := h
  exact ⟨vf, ve, xs, h.moves (SameT.upd hq rfl) (upd_ne na) (upd_ne nr)⟩
theorem bk_not5 {K : PySem.W.Frag} {H : Hp} {z : Str} {b c d e : V} {l : List Rw} (h : BkAt K (SqT K) H [.str z, b, c, d, e] l) : False := by
  cases h with
  | cons h _ =>
    obtain ⟨a, e⟩ := BkAt.ref h
    exact nomatch e
theorem FrAt.ne {K : PySem.W.Frag} {H : Hp} {x : Frm} {q : Addr} {zs : List V} {l : List Rw} (h : FrAt K H x) (hq : H q = some (.lst zs)) (hb : BkAt K (SqT K) H zs l) : x.a ≠ q := by
  intro e
  obtain ⟨vf, ve, xs, h⟩ := h
  have := h.ha
  rw [e, hq] at this
  have := HO.lst.inj (Option.some.inj this)
  rw [this] at hb
  exact bk_not5 hb
structure Stk (K : PySem.W.Frag) (H0 H : Hp) (st : Addr) (ns : List Str) (L : List Frm) (W : Nat) : Prop where
  same : Same H0 H
  s0 : H0 st = none
  hs : H st = some (.lst (L.map fun x => .ref x.a))
  fr : ∀ x ∈ L, FrAt K H x
  r0 : ∀ x ∈ L, H0 x.r = none
  ra : ∀ x ∈ L, x.r ≠ st
  nd : (L.map (·.r)).Nodup
  ok : ∀ x ∈ L, oks ns x.rows ∧ (x.kd ≠ 0 → x.f.fine ns) ∧ ∀ b, x.els = some b → oks ns b
  nest : ∀ (i : Nat) x, L[i]? = some x → nests x.rows + i ≤ 8 ∧ (∀ b, x.els = some b → nests b + i ≤ 8) ∧ (i = 0 → x.kd = 0 ∧ x.els = none) ∧ (0 < i → x.kd ≠ 0)
  len : 1 ≤ L.length ∧ L.length ≤ 8
  w : (L.map Frm.w).sum ≤ W
def mus (L : List Frm) : Nat := (L.map Frm.mu).sum
section
variable {K : PySem.W.Frag} {H0 H H' : Hp} {st : Addr} {ns : List Str} {L : List Frm} {W : Nat}
theorem Stk.mono (S : Stk K H0 H st ns L W) (e : Same H H') : Stk K H0 H' st ns L W :=
  ⟨S.same.trans e, S.s0, e _ _ S.hs, fun x hx => (S.fr x hx).mono e, S.r0, S.ra, S.nd, S.ok, S.nest, S.len, S.w⟩
theorem Stk.wle (S : Stk K H0 H st ns L W) {W' : Nat} (h : W ≤ W') : Stk K H0 H st ns L W' :=
  ⟨S.same, S.s0, S.hs, S.fr, S.r0, S.ra, S.nd, S.ok, S.nest, S.len, Nat.le_trans S.w h⟩
theorem ref_not5 {z : Str} {b c d e : V} {l : List Frm} (h : [.str z, b, c, d, e] = l.map fun x => V.ref x.a) : False := by
  cases l with
  | nil => exact nomatch h
  | cons x r => exact nomatch (List.cons.inj h).1
theorem Stk.ast (S : Stk K H0 H st ns L W) {x : Frm} (hx : FrAt K H x) : x.a ≠ st := by
  intro e
  obtain ⟨vf, ve, xs, h⟩ := hx
  have := h.ha
  rw [e, S.hs] at this
  exact ref_not5 (HO.lst.inj (Option.some.inj this)).symm
theorem Stk.other {q : Addr} {zs zs' : List V} (S : Stk K H0 H st ns L W) (q0 : H0 q = none) (hq : H q = some (.lst zs)) (qs : q ≠ st) (qa : ∀ x ∈ L, x.a ≠ q) (qr : ∀ x ∈ L, x.r ≠ q) : Stk K H0 (upd H q (.lst zs')) st ns L W :=
  ⟨same_mut S.same q0, S.s0, (upd_ne qs.symm).trans S.hs, fun x hx => (S.fr x hx).other hq (qa x hx) (qr x hx), S.r0, S.ra, S.nd, S.ok, S.nest, S.len, S.w⟩
theorem sum_snoc (l : List Nat) (n : Nat) : (l ++ [n]).sum = l.sum + n := by simp
/-- one more row in the topmost frame -/
theorem Stk.row {x : Frm} {vf ve v : V} {xs : List V} {r : Rw} (S : Stk K H0 H st ns (L ++ [x]) W) (h : FrIn K H x vf ve xs) (hv : RwAt K (SqT K) H v r) (ho : r.ok ns) (hn : r.nest + L.length ≤ 8) :
    Stk K H0 (upd H x.r (.lst (xs ++ [v]))) st ns (L ++ [{ x with rows := x.rows ++ [r] }]) (W + r.size) := by
  have hx : x ∈ L ++ [x] := List.mem_append_right _ (List.mem_singleton.mpr rfl)
  have eT : SameT H (upd H x.r (.lst (xs ++ [v]))) := SameT.upd h.hr rfl
  have nd := S.nd
  rw [List.map_append, List.nodup_append] at nd
  have rx : ∀ y ∈ L, y.r ≠ x.r := fun y hy => nd.2.2 y.r (List.mem_map.mpr ⟨y, hy, rfl⟩) x.r (List.mem_map.mpr ⟨x, List.mem_singleton.mpr rfl, rfl⟩)
  have hm : ∀ y ∈ L ++ [{ x with rows := x.rows ++ [r] }], y ∈ L ∨ y = { x with rows := x.rows ++ [r] } := fun y hy => (List.mem_append.mp hy).imp_right List.mem_singleton.mp
  refine ⟨same_mut S.same (S.r0 x hx), S.s0, ?_, ?_, ?_, ?_, ?_, ?_, ?_, ?_, ?_⟩
  · rw [upd_ne (S.ra x hx).symm, S.hs, List.map_append, List.map_append] <;> rfl
  · intro y hy
    rcases hm y hy with hy | rfl
    · exact (S.fr y (List.mem_append_left _ hy)).other h.hr ((S.fr y (List.mem_append_left _ hy)).ne h.hr h.hb) (rx y hy)
    · exact ⟨vf, ve, xs ++ [v], (upd_ne (FrAt.ne ⟨vf, ve, xs, h⟩ h.hr h.hb)).trans h.ha, upd_same, (h.hb.app (BkAt.one hv)).monoT eT, h.f0, fun c => (h.f1 c).monoT eT, h.he.monoT eT⟩
  · intro y hy
    rcases hm y hy with hy | rfl
    · exact S.r0 y (List.mem_append_left _ hy)
    · exact S.r0 x hx
  · intro y hy
    rcases hm y hy with hy | rfl
    · exact S.ra y (List.mem_append_left _ hy)
    · exact S.ra x hx
  · have := S.nd
    rw [List.map_append] at this ⊢
    exact this
  · intro y hy
    rcases hm y hy with hy | rfl
    · exact S.ok y (List.mem_append_left _ hy)
    · have := S.ok x hx
      exact ⟨oks_app this.1 ⟨ho, trivial⟩, this.2⟩
  · intro i y hy
    rcases Nat.lt_or_ge i L.length with lt | ge
    · rw [List.getElem?_append_left lt] at hy
      exact S.nest i y (by rw [List.getElem?_append_left lt]; exact hy)
    · rw [List.getElem?_append_right ge] at hy
      have hj : i - L.length = 0 := by
        have := (List.getElem?_eq_some_iff.mp hy).1
        simp only [List.length_singleton] at this
        omega
      have hi : i = L.length := by omega
      rw [hj] at hy
      have hy := Option.some.inj hy
      have q := S.nest i x (by rw [List.getElem?_append_right ge, hj]; rfl)
      rw [← hy]
      refine ⟨?_, q.2⟩
      show nests (x.rows ++ [r]) + i ≤ 8
      rw [nests_app]
      have : nests [r] = r.nest := by show max r.nest 0 = r.nest; omega
      rw [this]
      have := q.1
      omega
  · have := S.len
    rw [List.length_append] at this ⊢
    exact this
  · have := S.w
    rw [List.map_append, List.map_cons, List.map_nil, sum_snoc] at this ⊢
    have : Frm.w { x with rows := x.rows ++ [r] } = x.w + r.size := by
      show szs (x.rows ++ [r]) + elSz x.els + 2 = szs x.rows + elSz x.els + 2 + r.size
      rw [szs_app]
      have : szs [r] = r.size := by show r.size + 0 = r.size; omega
      rw [this]
      omega
    rw [this]
    omega
/-- a new frame -/
theorem Stk.push {x : Frm} (S : Stk K H0 H st ns L W) (h : FrAt K H x) (r0 : H0 x.r = none) (rs : x.r ≠ st) (rr : ∀ y ∈ L, y.r ≠ x.r) (kd : x.kd ≠ 0) (ok : oks ns x.rows ∧ (x.kd ≠ 0 → x.f.fine ns) ∧ ∀ b, x.els = some b → oks ns b)
    (hl : L.length < 8) (n1 : nests x.rows + L.length ≤ 8) (n2 : ∀ b, x.els = some b → nests b + L.length ≤ 8) :
    Stk K H0 (upd H st (.lst (L.map (fun x => V.ref x.a) ++ [.ref x.a]))) st ns (L ++ [x]) (W + x.w) := by
  have hm : ∀ y ∈ L ++ [x], y ∈ L ∨ y = x := fun y hy => (List.mem_append.mp hy).imp_right List.mem_singleton.mp
  refine ⟨same_mut S.same S.s0, S.s0, ?_, ?_, ?_, ?_, ?_, ?_, ?_, ?_, ?_⟩
  · rw [upd_same, List.map_append] <;> rfl
  · intro y hy
    rcases hm y hy with hy | rfl
    · exact (S.fr y hy).other S.hs (S.ast (S.fr y hy)) (S.ra y hy)
    · exact h.other S.hs (S.ast h) rs
  · intro y hy
    rcases hm y hy with hy | rfl
    · exact S.r0 y hy
    · exact r0
  · intro y hy
    rcases hm y hy with hy | rfl
    · exact S.ra y hy
    · exact rs
  · rw [List.map_append, List.nodup_append]
    refine ⟨S.nd, List.nodup_cons.mpr ⟨List.not_mem_nil, List.nodup_nil⟩, fun u hu w hw => ?_⟩
    obtain ⟨y, hy, rfl⟩ := List.mem_map.mp hu
    rw [List.mem_singleton.mp hw]
    exact rr y hy
  · intro y hy
    rcases hm y hy with hy | rfl
    · exact S.ok y hy
    · exact ok
  · intro i y hy
    rcases Nat.lt_or_ge i L.length with lt | ge
    · rw [List.getElem?_append_left lt] at hy
      exact S.nest i y hy
    · rw [List.getElem?_append_right ge] at hy
      have hj : i - L.length = 0 := by
        have := (List.getElem?_eq_some_iff.mp hy).1
        simp only [List.length_singleton] at this
        omega
      have hi : i = L.length := by omega
      rw [hj] at hy
      have hy := Option.some.inj hy
      have l1 := S.len.1
      rw [← hy, hi]
      exact ⟨n1, n2, fun c => by omega, fun _ => kd⟩
  · rw [List.length_append, List.length_singleton]
    have := S.len
    omega
  · have := S.w
    rw [List.map_append, List.map_cons, List.map_nil, sum_snoc]
    omega
/-- the topmost frame is taken off -/
theorem Stk.pop {x : Frm} (S : Stk K H0 H st ns (L ++ [x]) W) (hl : L ≠ []) : Stk K H0 (upd H st (.lst (L.map fun x => .ref x.a))) st ns L (W - x.w) ∧ FrAt K (upd H st (.lst (L.map fun x => .ref x.a))) x := by
  have hx : x ∈ L ++ [x] := List.mem_append_right _ (List.mem_singleton.mpr rfl)
  have hm : ∀ y ∈ L, y ∈ L ++ [x] := fun y hy => List.mem_append_left _ hy
  refine ⟨⟨same_mut S.same S.s0, S.s0, upd_same, fun y hy => (S.fr y (hm y hy)).other S.hs (S.ast (S.fr y (hm y hy))) (S.ra y (hm y hy)), fun y hy => S.r0 y (hm y hy), fun y hy => S.ra y (hm y hy), ?_, fun y hy => S.ok y (hm y hy), ?_, ?_, ?_⟩,
    (S.fr x hx).other S.hs (S.ast (S.fr x hx)) (S.ra x hx)⟩
  · have := S.nd
    rw [List.map_append, List.nodup_append] at this
    exact this.1
  · intro i y hy
    exact S.nest i y (by rw [List.getElem?_append_left (List.getElem?_eq_some_iff.mp hy).1]; exact hy)
  · have := S.len
    rw [List.length_append] at this
    have := List.length_pos_iff.mpr hl
    omega
  · have := S.w
    rw [List.map_append, List.map_cons, List.map_nil, sum_snoc] at this
    omega
theorem snoc_of {α : Type} {l : List α} (h : l ≠ []) : ∃ m x, l = m ++ [x] := ⟨l.dropLast, l.getLast h, (List.dropLast_concat_getLast h).symm⟩
end
def sp_law_all_names (K : PySem.W.Frag) (n : Nat) : Sp := fun vs H Q _ => ∃ (v : V) (f : Fm), vs = [v] ∧ FmAt K H v f ∧ f.depth ≤ n ∧ f.depth ≤ 18 ∧ ∀ p H', Same H H' → H p = none → H' p = some (.lst (f.names.map V.str)) → Q (.ref p) H'
def sp_law_row_by (K : PySem.W.Frag) : Sp := fun vs H Q _ => ∃ (a : Addr) (ns : List Str) (m : Int) (d : Bool) (o : Int), vs = [.ref a, .int m, .bl d, .int o] ∧ SqL K H a (ns.map V.str) ∧ Ten ns ∧
  ∀ (p : Addr) (H' : Hp) (u : V) (f : Fm) (b : Bool), Same H H' → SqT K H' p [u, .bl b] → FmAt K H' u f → f.ok ns → f.depth ≤ 4 → Q (.ref p) H'
def sp_law_closed (K : PySem.W.Frag) : Sp := fun vs H Q _ => ∃ (H0 : Hp) (st : Addr) (ns : List Str) (L : List Frm) (W : Nat), vs = [.ref st] ∧ Stk K H0 H st ns L W ∧ 2 ≤ L.length ∧ W ≤ 1000 ∧
  ∀ (v : V) (H' : Hp) (L' : List Frm), Stk K H0 H' st ns L' W → mus L' < mus L → Q v H'
def sp_law_put (K : PySem.W.Frag) : Sp := fun vs H Q _ => ∃ (H0 : Hp) (st a : Addr) (ns : List Str) (L : List Frm) (W : Nat) (m o : Int), vs = [.ref st, .ref a, .int m, .int o] ∧ Stk K H0 H st ns L W ∧ SqL K H0 a (ns.map V.str) ∧ Ten ns ∧ 0 ≤ o ∧ o ≤ 2 ∧ W ≤ 1000 ∧
  ∀ (v : V) (H' : Hp) (L' : List Frm), Stk K H0 H' st ns L' (W + 2) → Q v H'
structure GoodB (K : PySem.W.Frag) (H : Hp) (ns : List Str) (xs : List V) (b : List Rw) : Prop where
  at_ : BkAt K (SqT K) H xs b
  ok : oks ns b
  nest : nests b ≤ 8
def sp_law_block_by (K : PySem.W.Frag) : Sp := fun vs H Q _ => ∃ (c a : Addr) (cells : List Int) (ns : List Str) (o : Int), vs = [.ref c, .ref a, .int o] ∧ SqL K H c (cells.map V.int) ∧ cells.length ≤ 63 ∧ SqL K H a (ns.map V.str) ∧ Ten ns ∧
  ∀ (p : Addr) (H' : Hp) (xs : List V) (b : List Rw), Same H H' → H p = none → H' p = some (.lst xs) → GoodB K H' ns xs b → szs b ≤ 130 → Q (.ref p) H'
abbrev N_law_all_names : List Str := ["_law_formula_here"]
def t_law_all_names (K : PySem.W.Frag) (n : Nat) : TS :=
  (tSeq (tIfS (tTest (tOp (rEq2 K) (tOp (rIx K) (tVar 0) (tC (.int 0))) (tC (.str "number")))) (tRet (tLst tNil)) tNext) (tSeq (tIfS (tTest (tOp (rEq2 K) (tOp (rIx K) (tVar 0) (tC (.int 0))) (tC (.str "name")))) (tRet (tLst (tCons (tOp (rIx K) (tVar 0) (tC (.int 1))) tNil))) tNext) (tRet (tOp (rAdd K) (tF (sp_law_all_names K n) (tCons (tOp (rIx K) (tVar 0) (tC (.int 1))) tNil)) (tF (sp_law_all_names K n) (tCons (tOp (rIx K) (tVar 0) (tC (.int 2))) tNil))))))
abbrev N_law_row_by : List Str := ["_law_names_here", "_law_more_here", "_law_dark", "_law_mode", "_law_low", "_law_some", "_law_formula_here", "_law_name"]
def t_law_row_by_j1 (K : PySem.W.Frag) : TS :=
  (tSeq (tAsg (tF (sp_law_formula_by K 6) (tCons (tVar 1) (tCons (tVar 5) (tCons (tVar 4) (tCons (tOrV (tOp rGt (tVar 3) (tC (.int 0))) (tNotV (tVar 2))) (tCons (tOp (rAdd K) (tC (.int 1)) (tOp rMod (tOp rDiv (tVar 1) (tC (.int 24))) (tC (.int 4)))) tNil)))))) (gName 6)) (tRet (tTup (tCons (tVar 6) (tCons (tOp (rNe2 K) (tLc (iSeq K (tF (sp_law_all_names K 18) (tCons (tVar 6) tNil))) (gName 7) (tTest (tOp (rIn2 K false) (tVar 7) (tSl (rSl K) (tVar 0) (tPart (tC (.int 5))) tNoPart))) (tVar 7) [7]) (tLst tNil)) tNil)))))
def t_law_row_by_j2 (K : PySem.W.Frag) : TS :=
  (tSeq (tIfS (tTest (tOp rGt (tVar 3) (tC (.int 0)))) (tAsg (tVar 5) (gName 4)) tNext) (t_law_row_by_j1 K))
def t_law_row_by (K : PySem.W.Frag) : TS :=
  (tSeq (tAsg (tSl (rSl K) (tVar 0) tNoPart (tPart (tC (.int 5)))) (gName 4)) (tSeq (tAsg (tVar 0) (gName 5)) (tSeq (tIfS (tOr (tAnd (tTest (tOp (rEq2 K) (tVar 3) (tC (.int 0)))) (tTest (tOp (rEq2 K) (tOp rMod (tOp rDiv (tVar 1) (tC (.int 12))) (tC (.int 2))) (tC (.int 0))))) (tAnd (tTest (tOp (rEq2 K) (tVar 3) (tC (.int 2)))) (tAnd (tB (tVar 2)) (tTest (tOp rGt (tOp rMod (tOp rDiv (tVar 1) (tC (.int 12))) (tC (.int 3))) (tC (.int 0))))))) (tAsg (tVar 4) (gName 5)) (tIfS (tTest (tOp (rEq2 K) (tVar 3) (tC (.int 2)))) (tAsg (tSl (rSl K) (tVar 0) (tPart (tC (.int 5))) tNoPart) (gName 5)) tNext)) (t_law_row_by_j2 K))))
abbrev N_law_closed : List Str := ["_law_stack", "_law_frame"]
def t_law_closed_j1 (K : PySem.W.Frag) : TS :=
  (tDrop (tBM K "list" rAppend (tOp (rIx K) (tOp (rIx K) (tVar 0) (tUn rNeg (tC (.int 1)))) (tC (.int 2))) (tCons (tTup (tCons (tC (.str "while")) (tCons (tOp (rIx K) (tVar 1) (tC (.int 1))) (tCons (tCB (rTupO K) (tCons (tOp (rIx K) (tVar 1) (tC (.int 2))) tNil)) tNil)))) tNil)))
def t_law_closed (K : PySem.W.Frag) : TS :=
  (tSeq (tAsg (tBM0 K "list" rPop (tVar 0)) (gName 1)) (tIfS (tTest (tOp (rEq2 K) (tOp (rIx K) (tVar 1) (tC (.int 0))) (tC (.str "while")))) (tSeq (tIfS (tAnd (tTest (tOp (rEq2 K) (tOp (rIx K) (tOp (rIx K) (tVar 1) (tC (.int 1))) (tC (.int 0))) (tC (.str "<")))) (tTest (tOp (rEq2 K) (tOp (rIx K) (tOp (rIx K) (tOp (rIx K) (tVar 1) (tC (.int 1))) (tC (.int 1))) (tC (.int 0))) (tC (.str "name"))))) (tDrop (tBM K "list" rAppend (tOp (rIx K) (tVar 1) (tC (.int 2))) (tCons (tTup (tCons (tC (.str "set")) (tCons (tOp (rIx K) (tOp (rIx K) (tOp (rIx K) (tVar 1) (tC (.int 1))) (tC (.int 1))) (tC (.int 1))) (tCons (tTup (tCons (tC (.str "+")) (tCons (tOp (rIx K) (tOp (rIx K) (tVar 1) (tC (.int 1))) (tC (.int 1))) (tCons (tTup (tCons (tC (.str "number")) (tCons (tC (.int 1)) tNil))) tNil)))) tNil)))) tNil))) tNext) (t_law_closed_j1 K)) (tIfS (tTest (tOp (rIsN2 false) (tOp (rIx K) (tVar 1) (tC (.int 4))) (tC .non))) (tDrop (tBM K "list" rAppend (tVar 0) (tCons (tLst (tCons (tOp (rIx K) (tVar 1) (tC (.int 0))) (tCons (tOp (rIx K) (tVar 1) (tC (.int 1))) (tCons (tLst tNil) (tCons (tOp (rIx K) (tVar 1) (tC (.int 3))) (tCons (tCB (rTupO K) (tCons (tOp (rIx K) (tVar 1) (tC (.int 2))) tNil)) tNil)))))) tNil))) (tDrop (tBM K "list" rAppend (tOp (rIx K) (tOp (rIx K) (tVar 0) (tUn rNeg (tC (.int 1)))) (tC (.int 2))) (tCons (tTup (tCons (tC (.str "if")) (tCons (tOp (rIx K) (tVar 1) (tC (.int 1))) (tCons (tOp (rIx K) (tVar 1) (tC (.int 4))) (tCons (tCB (rTupO K) (tCons (tOp (rIx K) (tVar 1) (tC (.int 2))) tNil)) tNil))))) tNil))))))
abbrev N_law_put : List Str := ["_law_stack", "_law_names_here", "_law_more_here", "_law_mode", "_law_way", "_law_dark", "_law_frame", "_law_formula_here", "_law_secret", "_law_shut", "_law_some"]
def t_law_put_j1 (K : PySem.W.Frag) : TS :=
  (tDrop (tBM K "list" rAppend (tOp (rIx K) (tOp (rIx K) (tVar 0) (tUn rNeg (tC (.int 1)))) (tC (.int 2))) (tCons (tTup (tCons (tC (.str "set")) (tCons (tOp (rIx K) (tVar 10) (tOp rMod (tOp rDiv (tVar 2) (tC (.int 96))) (tCB (rLenA K) (tCons (tVar 10) tNil)))) (tCons (tVar 7) tNil)))) tNil)))
def t_law_put_j2 (K : PySem.W.Frag) : TS :=
  (tDrop (tBM K "list" rAppend (tVar 0) (tCons (tLst (tCons (tC (.str "while")) (tCons (tVar 7) (tCons (tLst tNil) (tCons (tVar 8) (tCons (tC .non) tNil)))))) tNil)))
def t_law_put_j3 (K : PySem.W.Frag) : TS :=
  (tIfS (tTest (tOp rLt (tVar 4) (tC (.int 4)))) (tSeq (tAsg (tOp (rIx K) (tLst (tCons (tVar 1) (tCons (tVar 1) (tCons (tOp (rIx K) (tLst (tCons (tSl (rSl K) (tVar 1) tNoPart (tPart (tC (.int 5)))) (tCons (tSl (rSl K) (tVar 1) (tPart (tC (.int 5))) tNoPart) tNil))) (tCB rInt (tCons (tOp (rEq2 K) (tOp rMod (tOp rDiv (tVar 2) (tC (.int 7))) (tC (.int 4))) (tC (.int 3))) tNil))) tNil)))) (tVar 3)) (gName 10)) (tSeq (tIfS (tB (tVar 9)) (tAsg (tSl (rSl K) (tVar 1) (tPart (tC (.int 5))) tNoPart) (gName 10)) tNext) (t_law_put_j1 K))) (tIfS (tAnd (tTest (tOp (rEq2 K) (tVar 4) (tC (.int 4)))) (tNot (tB (tVar 9)))) (tDrop (tBM K "list" rAppend (tOp (rIx K) (tOp (rIx K) (tVar 0) (tUn rNeg (tC (.int 1)))) (tC (.int 2))) (tCons (tTup (tCons (tC (.str "tell")) (tCons (tVar 7) tNil))) tNil))) (tIfS (tTest (tOp (rEq2 K) (tVar 4) (tC (.int 5)))) (tDrop (tBM K "list" rAppend (tOp (rIx K) (tOp (rIx K) (tVar 0) (tUn rNeg (tC (.int 1)))) (tC (.int 2))) (tCons (tTup (tCons (tC (.str "skip")) tNil)) tNil))) (tIfS (tAnd (tTest (tOp rLt (tVar 4) (tC (.int 8)))) (tTest (tOp rLt (tCB (rLenA K) (tCons (tVar 0) tNil)) (tC (.int 8))))) (tDrop (tBM K "list" rAppend (tVar 0) (tCons (tLst (tCons (tC (.str "if")) (tCons (tVar 7) (tCons (tLst tNil) (tCons (tVar 8) (tCons (tC .non) tNil)))))) tNil))) (tIfS (tAnd (tTest (tOp rLt (tVar 4) (tC (.int 10)))) (tAnd (tTest (tOp rLt (tCB (rLenA K) (tCons (tVar 0) tNil)) (tC (.int 8)))) (tNot (tB (tVar 9))))) (tSeq (tIfS (tAnd (tTest (tOp (rEq2 K) (tVar 3) (tC (.int 0)))) (tTest (tOp rGt (tOp rMod (tOp rDiv (tVar 2) (tC (.int 96))) (tC (.int 4))) (tC (.int 0))))) (tAsg (tTup (tCons (tC (.str "<")) (tCons (tTup (tCons (tC (.str "name")) (tCons (tOp (rIx K) (tVar 1) (tOp rMod (tOp rDiv (tVar 2) (tC (.int 384))) (tC (.int 5)))) tNil))) (tCons (tTup (tCons (tC (.str "number")) (tCons (tOp (rAdd K) (tC (.int 1)) (tOp rMod (tOp rDiv (tVar 2) (tC (.int 1920))) (tC (.int 4)))) tNil))) tNil)))) (gName 7)) tNext) (t_law_put_j2 K)) (tIfS (tTest (tOp rGt (tCB (rLenA K) (tCons (tVar 0) tNil)) (tC (.int 1)))) (tDrop (tF (sp_law_closed K) (tCons (tVar 0) tNil))) tNext))))))
def t_law_put (K : PySem.W.Frag) : TS :=
  (tSeq (tAsg (tOp rMod (tVar 2) (tC (.int 12))) (gName 4)) (tSeq (tAsg (tOp (rNe2 K) (tLc (iSeq K (tVar 0)) (gName 6) (tB (tOp (rIx K) (tVar 6) (tC (.int 3)))) (tVar 6) [6]) (tLst tNil)) (gName 5)) (tSeq (tAsg (tF (sp_law_row_by K) (tCons (tVar 1) (tCons (tVar 2) (tCons (tVar 5) (tCons (tVar 3) tNil))))) (gTup K 2 (gCons (gName 7) (gCons (gName 8) gNil)))) (tSeq (tAsg (tAndV (tOp (rEq2 K) (tVar 3) (tC (.int 0))) (tOrV (tVar 5) (tVar 8))) (gName 9)) (tSeq (tIfS (tTest (tOp (rEq2 K) (tVar 3) (tC (.int 2)))) (tAsg (tOp (rIx K) (tLst (tCons (tC (.int 0)) (tCons (tC (.int 4)) (tCons (tC (.int 8)) (tCons (tC (.int 0)) tNil))))) (tOp rMod (tOp rDiv (tVar 2) (tC (.int 7))) (tC (.int 4)))) (gName 4)) tNext) (t_law_put_j3 K))))))
abbrev N_law_block_by : List Str := ["_law_cells", "_law_names_here", "_law_loose", "_law_stack", "_law_turn", "_law_cell", "_law_more_here", "_law_mode"]
def t_law_block_by_j1 (K : PySem.W.Frag) : TS :=
  (tDrop (tF (sp_law_put K) (tCons (tVar 3) (tCons (tVar 1) (tCons (tVar 6) (tCons (tVar 7) tNil))))))
def t_law_block_by_j2 (K : PySem.W.Frag) : TS :=
  (tSeq (tIfS (tAnd (tTest (tOp rGt (tVar 2) (tC (.int 1)))) (tTest (tOp (rEq2 K) (tVar 4) (tOp rMod (tVar 2) (tCB (rLenA K) (tCons (tVar 0) tNil)))))) (tAsg (tC (.int 2)) (gName 7)) tNext) (t_law_block_by_j1 K))
def t_law_block_by (K : PySem.W.Frag) : TS :=
  (tSeq (tAsg (tLst (tCons (tLst (tCons (tC (.str "")) (tCons (tC .non) (tCons (tLst tNil) (tCons (tC (.bl false)) (tCons (tC .non) tNil)))))) tNil)) (gName 3)) (tSeq (tFor (iEnum K (tCons (tVar 0) tNil)) (gTup K 2 (gCons (gName 4) (gCons (gName 5) gNil))) (tSeq (tAsg (tF (sp_law_mixed K) (tCons (tOp rMul (tF (sp_law_mixed K) (tCons (tOp (rAdd K) (tVar 5) (tOp rMul (tC (.int 131)) (tVar 4))) tNil)) (tOp (rAdd K) (tVar 4) (tC (.int 2)))) tNil)) (gName 6)) (tSeq (tAsg (tC (.int 0)) (gName 7)) (tSeq (tIfS (tAnd (tTest (tOp (rEq2 K) (tVar 2) (tC (.int 1)))) (tTest (tOp (rEq2 K) (tOp rMod (tOp rDiv (tVar 6) (tC (.int 4096))) (tC (.int 4))) (tC (.int 0))))) (tAsg (tC (.int 1)) (gName 7)) tNext) (t_law_block_by_j2 K))))) (tSeq (tWhile (tTest (tOp rGt (tCB (rLenA K) (tCons (tVar 3) tNil)) (tC (.int 1)))) (tDrop (tF (sp_law_closed K) (tCons (tVar 3) tNil)))) (tRet (tOp (rIx K) (tOp (rIx K) (tVar 3) (tC (.int 0))) (tC (.int 2)))))))
theorem pure_law_all_names (K : PySem.W.Frag) (n : Nat) (vs : List V) (H : Hp) (Q : VK) (E : XK) (h : sp_law_all_names K (n + 1) vs H Q E) :
    t_law_all_names K n { nx := fun _ H' => Q .non H', rt := Q } (start N_law_all_names vs) H := by
  obtain ⟨v, f, rfl, hf, hd, hn, q⟩ := h
  unfold t_law_all_names
  cases hf with
  | num h =>
    walk_at "go"
    exact w_new (by walk_at "sz") (fun p hp => q _ _ (same_new hp) hp upd_same)
  | nam h =>
    walk_at "go"
    exact w_new (by walk_at "sz") (fun p hp => q _ _ (same_new hp) hp upd_same)
  | @op a s u v f g h h1 h2 =>
    have e1 := sg_num s
    have e2 := sg_nam s
    have l1 : f.depth ≤ n := by simp only [Fm.depth] at hd; omega
    have l2 : g.depth ≤ n := by simp only [Fm.depth] at hd; omega
    have k1 : f.depth ≤ 18 := by simp only [Fm.depth] at hn; omega
    have k2 : g.depth ≤ 18 := by simp only [Fm.depth] at hn; omega
    walk_at "go"
    refine ⟨_, f, rfl, h1, l1, k1, fun p H1 e hp hp1 => ?_⟩
    walk_at "go"
    refine ⟨_, g, rfl, h2.mono e, l2, k2, fun p2 H2 e' hp2 hp3 => ?_⟩
    have y1 := Fm.names_small18 k1
    have y2 := Fm.names_small18 k2
    refine w_addL (e' p _ hp1) hp3 (sz (by rw [List.length_map, List.length_map]; omega)) fun p4 hp4 => ?_
    exact q _ _ ((e.trans e').trans (same_new hp4)) (none_of (e.trans e') hp4) (by rw [upd_same, ← List.map_append] <;> rfl)
theorem no_law_all_names {K : PySem.W.Frag} : ∀ vs H Q E, ¬ sp_law_all_names K 0 vs H Q E := by
  rintro vs H Q E ⟨v, f, _, _, h, _⟩
  have := f.depth_pos
  omega
theorem cut_map {α : Type} {f : α → V} {xs : List α} (lo hi : Option Int) : ∃ ys, cutV (xs.map f) lo hi = ys.map f ∧ List.Sublist ys xs := by
  unfold cutV
  exact ⟨_, by rw [← List.map_drop, ← List.map_take], (List.take_sublist _ _).trans (List.drop_sublist _ _)⟩
theorem cut_lo {α : Type} {f : α → V} {xs : List α} {k : Nat} : cutV (xs.map f) none (some (k : Int)) = (xs.take k).map f := by
  unfold cutV
  rw [HT.sIx_none, show HT.sIx (xs.map f).length (xs.map f).length (some (k : Int)) = min k (xs.map f).length from HT.sIx_nat _ _ k, List.drop_zero, Nat.sub_zero, ← List.map_take, List.length_map]
  congr 1
  rcases Nat.le_total k xs.length with h | h
  · rw [Nat.min_eq_left h]
  · rw [Nat.min_eq_right h, List.take_of_length_le (Nat.le_refl _), List.take_of_length_le h]
theorem cut_hi {α : Type} {f : α → V} {xs : List α} {k : Nat} : cutV (xs.map f) (some (k : Int)) none = (xs.drop k).map f := by
  unfold cutV
  rw [HT.sIx_none, show HT.sIx (xs.map f).length 0 (some (k : Int)) = min k (xs.map f).length from HT.sIx_nat _ _ k, List.length_map]
  rw [← List.map_drop]
  rcases Nat.le_total k xs.length with h | h
  · rw [Nat.min_eq_left h, List.take_of_length_le (by rw [List.length_map, List.length_drop] <;> exact Nat.le_refl _)]
  · rw [Nat.min_eq_right h, List.drop_of_length_le (Nat.le_refl _), List.drop_of_length_le h]
    simp
/-- some of a list, by a test of each -/
theorem lc_filter {K : PySem.W.Frag} {α : Type} {f : α → V} {ys : List α} {a : Addr} {g : TG} {tt : TT} {te : TE} {vs : List Nat} {σ : L2.St} {H0 : Hp} {D : Addr} {Qd : Hp → Prop} (p : α → Bool) (hv : α → V) (hq : SqL K H0 a (ys.map f)) (hl : ys.length ≤ 16000000) (hD : H0 D = none)
    (hs : ∀ x H (Nx : Hp → Prop), x ∈ ys → Same H0 H → (∃ zs, H D = some (.lst zs)) → (p x = true → ∀ H4, Same H H4 → ∃ acc, H4 D = some (.lst acc) ∧ acc.length < sizeLine ∧ Nx (upd H4 D (.lst (acc ++ [hv x])))) → (p x = false → ∀ H4, Same H H4 → Nx H4) →
      g (f x) (wipe σ vs) H fun σ2 H2 => wipe σ2 vs = wipe σ vs ∧ tt σ2 H2 fun b H3 => if b = true then te σ2 H3 fun y H4 => ∃ acc, H4 D = some (.lst acc) ∧ acc.length < sizeLine ∧ Nx (upd H4 D (.lst (acc ++ [y]))) else Nx H3)
    (hd : ∀ H, Same H0 H → H D = some (.lst ((ys.filter p).map hv)) → Qd H) :
    ∃ W : Nat → Nat → Hp → Prop, (∃ m, W 0 m (upd H0 D (.lst []))) ∧ ∀ i m H, W i m H →
      ((Itl K a).stop i H ∧ Qd H) ∨ ((Itl K a).go i H ∧ ∃ Nx : Hp → Prop, (∀ H', Nx H' → ∃ m', m' < m ∧ W (i + 1) m' H') ∧ ∀ x H', (Itl K a).yld i H x H' → g x (wipe σ vs) H' fun σ2 H2 => wipe σ2 vs = wipe σ vs ∧ tt σ2 H2 fun b H3 =>
        if b = true then te σ2 H3 fun y H4 => ∃ acc, H4 D = some (.lst acc) ∧ acc.length < sizeLine ∧ Nx (upd H4 D (.lst (acc ++ [y]))) else Nx H3) := by
  refine lc_list (xs := ys.map f) (fun i H => Same H0 H ∧ H D = some (.lst (((ys.take i).filter p).map hv))) ⟨same_new hD, upd_same⟩ (fun i H _ h => same_l h.1 hq) ?_ ?_
  · rintro i x H hx ⟨e, hD2⟩
    rw [List.getElem?_map] at hx
    cases c : ys[i]? with
    | none => rw [c] at hx; exact nomatch hx
    | some y =>
      rw [c] at hx
      obtain rfl : f y = x := Option.some.inj hx
      have tk : ys.take (i + 1) = ys.take i ++ [y] := by rw [List.take_succ, c] <;> rfl
      refine hs y H _ (List.mem_of_getElem? c) e ⟨_, hD2⟩ (fun hp H4 e4 => ?_) (fun hp H4 e4 => ?_)
      · refine ⟨_, e4 D _ hD2, Nat.lt_of_le_of_lt (Nat.le_trans (by rw [List.length_map]; exact Nat.le_trans (List.length_filter_le _ _) (List.length_take_le' _ _)) hl) (by decide), same_mut (e.trans e4) hD, ?_⟩
        rw [upd_same, tk, List.filter_append, List.map_append, List.filter_cons_of_pos hp] <;> rfl
      · refine ⟨e.trans e4, ?_⟩
        rw [e4 D _ hD2, tk, List.filter_append, List.filter_cons_of_neg (by rw [hp]; decide), List.filter_nil, List.append_nil]
  · rintro H ⟨e, hD2⟩
    rw [List.length_map, List.take_length] at hD2
    exact hd H e hD2
theorem pure_law_row_by (K : PySem.W.Frag) (vs : List V) (H : Hp) (Q : VK) (E : XK) (h : sp_law_row_by K vs H Q E) :
    t_law_row_by K { nx := fun _ H' => Q .non H', rt := Q } (start N_law_row_by vs) H := by
  obtain ⟨a, ns, m, d, o, rfl, hS, hT, q⟩ := h
  unfold t_law_row_by
  have m4 := mod_in (m / 24) (show (0 : Int) < 4 by decide)
  have j2 : ∀ (H1 : Hp) (c e : Addr) (ls ms : List Str), Same H H1 → SqL K H1 c (ls.map V.str) → SqL K H1 e (ms.map V.str) → List.Sublist ls ns → List.Sublist ms ns →
      t_law_row_by_j2 K { nx := fun _ H' => Q .non H', rt := Q } [some (.ref a), some (.int m), some (.bl d), some (.int o), some (.ref c), some (.ref e), none, none] H1 := by
    intro H1 c e ls ms e1 hc he sl sm
    unfold t_law_row_by_j2
    have j1 : ∀ (H2 : Hp) (c : Addr) (ls : List Str), Same H H2 → SqL K H2 c (ls.map V.str) → SqL K H2 e (ms.map V.str) → List.Sublist ls ns →
        t_law_row_by_j1 K { nx := fun _ H' => Q .non H', rt := Q } [some (.ref a), some (.int m), some (.bl d), some (.int o), some (.ref c), some (.ref e), none, none] H2 := by
      intro H2 c ls e2 hc he sl
      unfold t_law_row_by_j1
      have fml : ∀ b : Bool, sp_law_formula_by K 6 [.int m, .ref e, .ref c, .bl b, .int (1 + m / 24 % 4)] H2 (fun x H1 => (tRet (tTup (tCons (tVar 6) (tCons (tOp (rNe2 K) (tLc (iSeq K (tF (sp_law_all_names K 18) (tCons (tVar 6) tNil))) (gName 7) (tTest (tOp (rIn2 K false) (tVar 7) (tSl (rSl K) (tVar 0) (tPart (tC (.int 5))) tNoPart))) (tVar 7) [7]) (tLst tNil)) tNil)))) { nx := fun _ H' => Q .non H', rt := Q }
            [some (.ref a), some (.int m), some (.bl d), some (.int o), some (.ref c), some (.ref e), some x, none] H1) E0 := by
        intro b
        have nl : ns.length ≤ 1000 := by rw [hT.len]; decide
        refine ⟨m, e, c, ms, ls, b, _, rfl, he, hc, fun x hx => hT.nm x (sm.subset hx), fun x hx => hT.nm x (sl.subset hx), Nat.le_trans sm.length_le nl, Nat.le_trans sl.length_le nl, by omega, by omega, fun u H3 f hf e3 ho hd => ?_⟩
        have ho' : f.ok ns := Fm.ok_mono (fun x hx => (List.mem_append.mp hx).elim (fun h => sm.subset h) fun h => sl.subset h) ho
        have hd4 : f.depth ≤ 4 := by omega
        walk_at "go"
        refine w_lc ?_
        walk_at "go"
        refine ⟨_, f, rfl, hf, by omega, by omega, fun p1 H4 e4 hp1 hp2 => ?_⟩
        refine w_isL (SqL.of hp2) (fun D hD => ?_)
        refine lc_filter (ys := f.names) (fun x => decide (x ∈ ns.drop 5)) V.str (SqL.of hp2) (Nat.le_trans (Fm.names_small18 (by omega)) (by decide)) hD ?_ ?_
        · rintro x H5 Nx hx e5 ⟨zs, hzs⟩ yes no
          refine ⟨rfl, ?_⟩
          have hS5 := same_l (e2.trans (e3.trans (e4.trans e5))) hS
          walk_at "go"
          refine w_slL hS5 (fun p6 hp6 => ?_)
          have := cut_hi (f := V.str) (xs := ns) (k := 5)
          refine w_inTxt (xs := ns.drop 5) (by rw [← this]; exact SqL.of upd_same) ?_
          walk_at "go"
          refine w_two (fun c => ?_) (fun c => ?_)
          · walk_at "go"
            exact yes c _ (same_new hp6)
          · exact no c _ (same_new hp6)
        · intro H5 e5 hD5
          walk_at "go"
          refine w_new (by walk_at "sz") (fun p6 hp6 => ?_)
          have nmz : ∀ x ∈ f.names.filter (fun x => decide (x ∈ ns.drop 5)), PyData.strOk x = true := fun x hx => ok_txt (hT.nm x (Fm.ok_names ho' x (List.mem_filter.mp hx).1))
          refine w_neTxt (xs := f.names.filter fun x => decide (x ∈ ns.drop 5)) (ys := []) (SqL.of ((same_new hp6) D _ hD5)) (SqL.of upd_same) nmz (fun x hx => nomatch hx) ?_
          walk_at "go"
          refine w_new (by walk_at "sz") (fun p7 hp7 => ?_)
          have e67 := e4.trans (e5.trans (same_new (o := .lst []) hp6))
          exact q p7 _ u f _ (e2.trans (e3.trans (e67.trans (same_new hp7)))) (SqT.of upd_same) (hf.mono (e67.trans (same_new hp7))) ho' hd4
      walk_at "go"
      refine w_two (fun c1 => ?_) (fun c1 => ?_)
      · walk_at "go"
        exact fml _
      · walk_at "go"
        exact fml _
    walk_at "go"
    refine w_two (fun c1 => ?_) (fun c1 => ?_)
    · walk_at "go"
      exact j1 H1 e ms e1 he he sm
    · walk_at "go"
      exact j1 H1 c ls e1 hc he sl
  walk_at "go"
  have c5 : cutV (ns.map V.str) none (some 5) = (ns.take 5).map V.str := cut_lo (k := 5)
  have c6 : cutV (ns.map V.str) (some 5) none = (ns.drop 5).map V.str := cut_hi (k := 5)
  refine w_slL hS (fun p1 hp1 => ?_)
  rw [c5]
  have e1 := same_new (o := .lst ((ns.take 5).map V.str)) hp1
  have hp1' : upd H p1 (.lst ((ns.take 5).map V.str)) p1 = _ := upd_same
  generalize upd H p1 (.lst ((ns.take 5).map V.str)) = H1 at e1 hp1'
  have hS1 := same_l e1 hS
  have low := j2 H1 p1 p1 _ _ e1 (SqL.of hp1') (SqL.of hp1') (List.take_sublist 5 ns) (List.take_sublist 5 ns)
  have all := j2 H1 p1 a _ _ e1 (SqL.of hp1') hS1 (List.take_sublist 5 ns) (List.Sublist.refl _)
  have high : ∀ p2, H1 p2 = none → t_law_row_by_j2 K { nx := fun _ H' => Q .non H', rt := Q } [some (.ref a), some (.int m), some (.bl d), some (.int o), some (.ref p1), some (.ref p2), none, none] (upd H1 p2 (.lst ((ns.drop 5).map V.str))) := fun p2 hp2 =>
    j2 _ p1 p2 _ _ (e1.trans (same_new hp2)) (SqL.of ((same_new hp2) p1 _ hp1')) (SqL.of upd_same) (List.take_sublist 5 ns) (List.drop_sublist 5 ns)
  repeat' (first | walk_at "go1" | (refine w_two (fun _ => ?_) (fun _ => ?_)) | (refine w_slL hS1 (fun p2 hp2 => ?_); rw [c6]; exact high p2 hp2) | exact low | exact all)
theorem at_last {α : Type} {f : α → V} {L : List α} {x : α} : atI ((L ++ [x]).map f) (-1) = some (f x) := by
  have e : (L ++ [x]).map f = L.map f ++ [f x] := by rw [List.map_append] <;> rfl
  rw [e]
  exact atI_last _ _
theorem sum_le {l : List Nat} {n : Nat} (h : n ∈ l) : n ≤ l.sum := by
  induction l with
  | nil => exact nomatch h
  | cons m r ih =>
    rw [List.sum_cons]
    rcases List.mem_cons.mp h with e | h
    · omega
    · have := ih h; omega
theorem pure_law_closed (K : PySem.W.Frag) (vs : List V) (H : Hp) (Q : VK) (E : XK) (h : sp_law_closed K vs H Q E) :
    t_law_closed K { nx := fun _ H' => Q .non H', rt := Q } (start N_law_closed vs) H := by
  obtain ⟨H0, st, ns, L, W, rfl, S, hl, hW0, q⟩ := h
  obtain ⟨M, x, rfl⟩ := snoc_of (show L ≠ [] from fun e => by rw [e] at hl; simp at hl)
  have hM : M ≠ [] := fun e => by rw [e] at hl; simp at hl
  obtain ⟨L1, y, rfl⟩ := snoc_of hM
  unfold t_law_closed
  have hx : x ∈ (L1 ++ [y]) ++ [x] := List.mem_append_right _ (List.mem_singleton.mpr rfl)
  have hy0 : y ∈ L1 ++ [y] := List.mem_append_right _ (List.mem_singleton.mpr rfl)
  have hxk : x.kd ≠ 0 := by
    have := S.nest (L1 ++ [y]).length x (by rw [List.getElem?_append_right (Nat.le_refl _), Nat.sub_self]; rfl)
    exact this.2.2.2 (by rw [List.length_append, List.length_singleton]; omega)
  have xok := S.ok x hx
  have xn := S.nest (L1 ++ [y]).length x (by rw [List.getElem?_append_right (Nat.le_refl _), Nat.sub_self]; rfl)
  have xrs := S.ra x hx
  have x0 := S.r0 x hx
  have nd := S.nd
  rw [List.map_append, List.nodup_append] at nd
  have rne : ∀ z ∈ L1 ++ [y], z.r ≠ x.r := fun z hz => nd.2.2 z.r (List.mem_map.mpr ⟨z, hz, rfl⟩) x.r (List.mem_map.mpr ⟨x, List.mem_singleton.mpr rfl, rfl⟩)
  obtain ⟨S1, F1⟩ := S.pop hM
  have hW : x.w ≤ W := Nat.le_trans (sum_le (List.mem_map.mpr ⟨x, hx, rfl⟩)) S.w
  have dl : (((L1 ++ [y]) ++ [x]).map fun x => V.ref x.a).dropLast = (L1 ++ [y]).map fun x => V.ref x.a := by
    rw [List.map_append, List.map_cons, List.map_nil, List.dropLast_concat]
  have lst : (((L1 ++ [y]) ++ [x]).map fun x => V.ref x.a)[(((L1 ++ [y]) ++ [x]).map fun x => V.ref x.a).length - 1]? = some (.ref x.a) := by
    rw [List.map_append (l₁ := L1 ++ [y]), List.length_append, List.getElem?_append_right (by simp only [List.length_map, List.length_singleton]; omega)]
    simp
  walk_at "go"
  refine ⟨.inl ⟨rfl, _, SqL.of S.hs⟩, ?_⟩
  refine w_pop S.hs lst ?_
  rw [dl]
  walk_at "go"
  generalize hH1 : upd H st (.lst ((L1 ++ [y]).map fun x => V.ref x.a)) = H1 at S1 F1
  obtain ⟨vf, ve, xs, G⟩ := F1
  have hf := G.f1 hxk
  have hst := S1.hs
  have hst1 : H1 x.a = some (.lst [.str (kdT x.kd), vf, .ref x.r, .bl x.sec, ve]) := G.ha
  -- the row that comes of the frame is put into the next one
  have close : ∀ (H3 : Hp) (T : Addr) (r : Rw) (vf3 ve3 : V) (zs : List V), Stk K H0 H3 st ns (L1 ++ [y]) (W - x.w) → FrIn K H3 y vf3 ve3 zs → RwAt K (SqT K) H3 (.ref T) r → r.ok ns → r.size ≤ x.w → r.nest + L1.length ≤ 8 →
      rAppend (.ref y.r) [.ref T] H3 (fun v H4 => Q .non H4) := by
    intro H3 T r vf3 ve3 zs S3 G3 hr ro rs rn
    have b1 : szs y.rows ≤ y.w := by unfold Frm.w; omega
    have b2 : y.w ≤ W - x.w := Nat.le_trans (sum_le (List.mem_map.mpr ⟨y, hy0, rfl⟩)) S3.w
    have b3 := szs_len y.rows
    have b4 := G3.hb.len
    refine w_app G3.hr (Nat.lt_of_le_of_lt (by omega : zs.length ≤ 1000) (by decide)) (q _ _ _ ((S3.row G3 hr ro rn).wle (by omega)) ?_)
    unfold mus
    rw [List.map_append, List.map_append (l₁ := L1 ++ [y]), List.map_append, List.map_cons, List.map_nil, List.map_cons, List.map_nil, List.map_cons, List.map_nil, sum_snoc, sum_snoc, sum_snoc]
    have : 1 ≤ x.mu := by unfold Frm.mu; split <;> omega
    have e : Frm.mu { y with rows := y.rows ++ [r] } = y.mu := rfl
    rw [e]
    omega
  have xl : L1.length + 1 + nests x.rows ≤ 8 := by have := xn.1; rw [List.length_append, List.length_singleton] at this; omega
  have yl : L1.length + 2 ≤ 8 := by have := S.len.2; simp only [List.length_append, List.length_singleton] at this; omega
  have j1 : ∀ (H3 : Hp) (xs3 : List V) (rows3 : List Rw), Stk K H0 H3 st ns (L1 ++ [y]) (W - x.w) → H3 x.a = some (.lst [.str "while", vf, .ref x.r, .bl x.sec, ve]) → H3 x.r = some (.lst xs3) → BkAt K (SqT K) H3 xs3 rows3 → FmAt K H3 vf x.f → oks ns rows3 →
      szs rows3 ≤ szs x.rows + 1 → nests rows3 ≤ max (nests x.rows) 1 → t_law_closed_j1 K { nx := fun _ H' => Q .non H', rt := Q } [some (.ref st), some (.ref x.a)] H3 := by
    intro H3 xs3 rows3 S3 h1 h2 h3 h4 h5 h6 h7
    unfold t_law_closed_j1
    obtain ⟨vf3, ve3, zs, G3⟩ := S3.fr y hy0
    have hst3 := S3.hs
    have gy := G3.ha
    have gr := G3.hr
    walk_at "go"
    refine w_ixL (SqL.of hst3) at_last ?_
    walk_at "go"
    refine w_tupL (SqL.of h2) (fun t1 ht1 => ?_)
    walk_at "go"
    refine w_new (by walk_at "sz") (fun T hT => ?_)
    have e1 := same_new (o := .tup xs3) ht1
    have e12 := e1.trans (same_new (o := .tup [.str "while", vf, .ref t1]) hT)
    refine close _ T (.whl x.f rows3) vf3 ve3 zs (S3.mono e12) (G3.moves (SameT.of e12) ((e12 _ _ gy).trans gy.symm) ((e12 _ _ gr).trans gr.symm))
      (.whl (SqT.of upd_same) (h4.mono e12) (sameT_t (SameT.of (same_new hT)) (SqT.of upd_same)) (h3.monoT (SameT.of e12))) ⟨xok.2.1 hxk, h5⟩ ?_ ?_
    · show 1 + szs rows3 ≤ szs x.rows + elSz x.els + 2
      omega
    · show 1 + nests rows3 + L1.length ≤ 8
      omega
  have other : ∀ (H2 : Hp) (xs2 xs3 : List V) (l : List Rw), Stk K H0 H2 st ns (L1 ++ [y]) (W - x.w) → H2 x.r = some (.lst xs2) → BkAt K (SqT K) H2 xs2 l → Stk K H0 (upd H2 x.r (.lst xs3)) st ns (L1 ++ [y]) (W - x.w) := fun H2 xs2 xs3 l S2 h hb =>
    S2.other x0 h xrs (fun z hz => (S2.fr z hz).ne h hb) rne
  rcases Nat.lt_or_ge x.kd 2 with k2 | k2
  · -- an if
    have k1 : x.kd = 1 := by omega
    have hk1 : kdT x.kd = "if" := by rw [k1] <;> rfl
    rw [hk1] at hst1
    have gxr := G.hr
    cases hel : x.els with
    | none =>
      have hve : ve = .non := by have := G.he; rw [hel] at this; exact this
      subst hve
      walk_at "go"
      refine w_new (by walk_at "sz") (fun r' hr' => ?_)
      have e1 := same_new (o := .lst []) hr'
      have a1 := e1 _ _ hst1
      have g1 := e1 _ _ gxr
      have r1 : upd H1 r' (.lst []) r' = _ := upd_same
      generalize upd H1 r' (.lst []) = H2 at e1 a1 g1 r1
      walk_at "go"
      refine w_tupL (SqL.of g1) (fun t1 ht1 => ?_)
      have e2 := same_new (o := .tup xs) ht1
      have t2 : upd H2 t1 (.tup xs) t1 = _ := upd_same
      have r2 := e2 _ _ r1
      generalize upd H2 t1 (.tup xs) = H3 at e2 t2 r2
      walk_at "go"
      refine w_new (by walk_at "sz") (fun F hF => ?_)
      have e3 := same_new (o := .lst [.str "if", vf, .ref r', .bl x.sec, .ref t1]) hF
      have f3 : upd H3 F (.lst [.str "if", vf, .ref r', .bl x.sec, .ref t1]) F = _ := upd_same
      have r3 := e3 _ _ r2
      have t3 := sameT_t (K := K) (SameT.of e3) (SqT.of t2)
      generalize upd H3 F (.lst [.str "if", vf, .ref r', .bl x.sec, .ref t1]) = H4 at e3 f3 r3 t3
      have e14 := e1.trans (e2.trans e3)
      have S4 := S1.mono e14
      have P := S4.push (x := { x with a := F, r := r', rows := [], els := some x.rows }) ⟨vf, .ref t1, [], by show H4 F = some (.lst [.str (kdT x.kd), vf, .ref r', .bl x.sec, .ref t1]); rw [hk1]; exact f3, r3, .nil, fun c => absurd (show x.kd = 0 from c) hxk, fun _ => hf.mono e14, t1, xs, rfl, t3, G.hb.monoT (SameT.of e14)⟩
        (none_of S1.same hr') (ne_of_none hst hr').symm (fun z hz => by obtain ⟨_, _, _, Gz⟩ := S1.fr z hz; exact ne_of_none Gz.hr hr') hxk ⟨trivial, xok.2.1, fun b hb => by rw [← Option.some.inj hb]; exact xok.1⟩
        (by rw [List.length_append, List.length_singleton]; omega) (by rw [List.length_append, List.length_singleton]; show 0 + _ ≤ 8; omega) (fun b hb => by rw [← Option.some.inj hb, List.length_append, List.length_singleton]; omega)
      have xw : x.w = szs x.rows + 2 := by unfold Frm.w; rw [hel]; show szs x.rows + 0 + 2 = _; omega
      have xw' : Frm.w { x with a := F, r := r', rows := [], els := some x.rows } = szs x.rows + 2 := by show 0 + szs x.rows + 2 = _; omega
      refine w_app S4.hs (Nat.lt_of_le_of_lt (by rw [List.length_map, List.length_append, List.length_singleton]; omega : _ ≤ 8) (by decide)) (q _ _ _ (P.wle (by omega)) ?_)
      unfold mus
      rw [List.map_append, List.map_append (l₂ := [x]), List.map_cons, List.map_nil, List.map_cons (a := x), List.map_nil, sum_snoc, sum_snoc]
      have m1 : x.mu = 2 := by unfold Frm.mu; rw [if_pos ⟨k1, hel⟩]
      have m2 : Frm.mu { x with a := F, r := r', rows := [], els := some x.rows } = 1 := by unfold Frm.mu; rw [if_neg (fun c => nomatch c.2)]
      omega
    | some b =>
      obtain ⟨p, ys, rfl, hp, hpb⟩ : ElAt K H1 ve (some b) := by have := G.he; rw [hel] at this; exact this
      obtain ⟨vf3, ve3, zs, G3⟩ := S1.fr y hy0
      have gy := G3.ha
      have gr := G3.hr
      walk_at "go"
      refine w_ixL (SqL.of hst) at_last ?_
      walk_at "go"
      refine w_tupL (SqL.of gxr) (fun t1 ht1 => ?_)
      walk_at "go"
      refine w_new (by walk_at "sz") (fun T hT => ?_)
      have e1 := same_new (o := .tup xs) ht1
      have e12 := e1.trans (same_new (o := .tup [.str "if", vf, .ref p, .ref t1]) hT)
      have bn := xn.2.1 b hel
      rw [List.length_append, List.length_singleton] at bn
      have xw : x.w = szs x.rows + szs b + 2 := by unfold Frm.w; rw [hel] <;> rfl
      refine close _ T (.ite x.f b x.rows) vf3 ve3 zs (S1.mono e12) (G3.moves (SameT.of e12) ((e12 _ _ gy).trans gy.symm) ((e12 _ _ gr).trans gr.symm))
        (.ite (SqT.of upd_same) (hf.mono e12) (sameT_t (SameT.of e12) hp) (hpb.monoT (SameT.of e12)) (sameT_t (SameT.of (same_new hT)) (SqT.of upd_same)) (G.hb.monoT (SameT.of e12))) ⟨xok.2.1 hxk, xok.2.2 b hel, xok.1⟩ ?_ ?_
      · show 1 + (szs b + szs x.rows) ≤ x.w
        omega
      · show 1 + max (nests b) (nests x.rows) + L1.length ≤ 8
        omega
  · -- a while
    have hk : kdT x.kd = "while" := by
      match h : x.kd with
      | 0 => rw [h] at k2; omega
      | 1 => rw [h] at k2; omega
      | _ + 2 => rfl
    rw [hk] at hst1
    have gxr := G.hr
    have base := j1 H1 xs x.rows S1 hst1 gxr G.hb hf xok.1 (by omega) (by omega)
    -- name < ..: one more row
    cases hx1 : x.f with
    | num i =>
      rw [hx1] at hf
      cases hf with
      | num hq => walk_at "go"; exact base
    | nam i =>
      rw [hx1] at hf
      cases hf with
      | nam hq => walk_at "go"; exact base
    | op s f1 f2 =>
      have hff := hf
      rw [hx1] at hf
      cases hf with
      | op hq hu hv =>
        walk_at "go"
        refine w_two (fun c1 => ?_) (fun c1 => ?_)
        · cases hu with
          | num hq1 => walk_at "go"; exact base
          | @op pu s2 u1 v1 g1 g2 hq1 hu1 hv1 =>
            have sn := sg_nam s2
            walk_at "go"
            exact base
          | @nam pu z hq1 =>
            walk_at "go"
            refine w_new (by walk_at "sz") (fun n1 hn1 => ?_)
            walk_at "go"
            refine w_new (by walk_at "sz") (fun n2 hn2 => ?_)
            walk_at "go"
            refine w_new (by walk_at "sz") (fun n3 hn3 => ?_)
            have d1 := same_new (o := .tup [.str "number", .int 1]) hn1
            have d2 := same_new (o := .tup [.str "+", .ref pu, .ref n1]) hn2
            have d3 := same_new (o := .tup [.str "set", .str z, .ref n2]) hn3
            have d13 := d1.trans (d2.trans d3)
            have y3 := SqT.of (K := K) (upd_same (H := upd (upd H1 n1 (.tup [.str "number", .int 1])) n2 (.tup [.str "+", .ref pu, .ref n1])) (a := n3) (o := .tup [.str "set", .str z, .ref n2]))
            have y2 := same_t d3 (SqT.of (K := K) (upd_same (H := upd H1 n1 (.tup [.str "number", .int 1])) (a := n2) (o := .tup [.str "+", .ref pu, .ref n1])))
            have y1 := same_t (d2.trans d3) (SqT.of (K := K) (upd_same (H := H1) (a := n1) (o := .tup [.str "number", .int 1])))
            generalize upd (upd (upd H1 n1 (.tup [.str "number", .int 1])) n2 (.tup [.str "+", .ref pu, .ref n1])) n3 (.tup [.str "set", .str z, .ref n2]) = H4 at d13 y1 y2 y3
            have g4 := d13 _ _ gxr
            have hz : z ∈ ns := by have := (xok.2.1 hxk).1; rw [hx1] at this; exact this.1
            have b1 : szs x.rows ≤ x.w := by unfold Frm.w; omega
            have b3 := szs_len x.rows
            have b4 := G.hb.len
            have xne := FrAt.ne ⟨_, ve, xs, G⟩ G.hr G.hb
            have hr4 : RwAt K (SqT K) H4 (.ref n3) (.set z (.op .add (.nam z) (.num 1))) := .set y3 (.op (s := .add) y2 (.nam (same_t d13 hq1)) (.num y1))
            have eT : SameT H4 (upd H4 x.r (.lst (xs ++ [.ref n3]))) := SameT.upd g4 rfl
            have eT1 := (SameT.of d13).trans eT
            walk_at "go"
            refine w_app g4 (Nat.lt_of_le_of_lt (by omega : xs.length ≤ 1000) (by decide)) ?_
            refine j1 _ (xs ++ [.ref n3]) (x.rows ++ [.set z (.op .add (.nam z) (.num 1))]) (other H4 xs _ x.rows (S1.mono d13) g4 (G.hb.monoT (SameT.of d13))) ((upd_ne xne).trans (d13 _ _ hst1)) upd_same ((G.hb.monoT eT1).app (BkAt.one (hr4.monoT eT)))
              (by rw [hx1]; rw [hx1] at hff; exact hff.monoT eT1) (oks_app (b := [.set z (.op .add (.nam z) (.num 1))]) xok.1 ⟨⟨hz, ⟨⟨hz, by decide, by decide⟩, show 2 ≤ 12 from by decide⟩⟩, trivial⟩) ?_ ?_
            · rw [szs_app]; exact Nat.le_refl _
            · rw [nests_app]; exact Nat.le_refl _
        · walk_at "go"
          exact base
local macro_rules | `(tactic| walk_at "pv") => `(tactic| (intro Qp qp; walk_at "go"; exact qp))
theorem root_ok : PyData.strOk ("" : Str) = true := by decide +kernel
theorem kdT_ok (k : Nat) : PyData.strOk (kdT k) = true := by
  match k with
  | 0 => exact root_ok
  | 1 => exact if_ok
  | _ + 2 => exact while_ok
theorem frs_dp {K : PySem.W.Frag} {H : Hp} {ns : List Str} (hn : ∀ x ∈ ns, Nm x) : ∀ {L : List Frm}, (∀ x ∈ L, FrAt K H x) → (∀ x ∈ L, oks ns x.rows ∧ (x.kd ≠ 0 → x.f.fine ns) ∧ ∀ b, x.els = some b → oks ns b) → (∀ x ∈ L, nests x.rows ≤ 8 ∧ ∀ b, x.els = some b → nests b ≤ 8) →
    ∃ ds, DpAll K H (L.map fun x => .ref x.a) ds ∧ ∀ d ∈ ds, Dk d 40
  | [], _, _, _ => ⟨[], .nil, dk_nil⟩
  | x :: L, h1, h2, h3 => by
    obtain ⟨ds, i1, i2⟩ := frs_dp hn (L := L) (fun y hy => h1 y (List.mem_cons_of_mem _ hy)) (fun y hy => h2 y (List.mem_cons_of_mem _ hy)) fun y hy => h3 y (List.mem_cons_of_mem _ hy)
    obtain ⟨vf, ve, xs, G⟩ := h1 x List.mem_cons_self
    have o := h2 x List.mem_cons_self
    have n := h3 x List.mem_cons_self
    have df : ∃ d, Dp K H vf d ∧ Dk d 30 := by
      rcases Nat.eq_zero_or_pos x.kd with k | k
      · rw [G.f0 k]; exact ⟨_, .non, Dk.non⟩
      · have c : x.kd ≠ 0 := by omega
        have q := o.2.1 c
        exact ⟨_, (G.f1 c).dp, (Fm.dk hn q.1).mono (Nat.le_trans q.2 (by decide))⟩
    have de : ∃ d, Dp K H ve d ∧ Dk d 30 := by
      have he := G.he
      cases e : x.els with
      | none => rw [e] at he; rw [show ve = .non from he]; exact ⟨_, .non, Dk.non⟩
      | some b =>
        rw [e] at he
        obtain ⟨p, ys, rfl, hp, hb⟩ := he
        exact ⟨_, .tup hp (hb.dp tupB), Dk.tup fun d hd => (pds_dk hn tupD (o.2.2 b e) d hd).mono (by have := n.2 b e; omega)⟩
    obtain ⟨d1, f1, f2⟩ := df
    obtain ⟨d2, g1, g2⟩ := de
    exact ⟨_, .cons (.lst (SqL.of G.ha) (.cons (.str _) (.cons f1 (.cons (.lst (SqL.of G.hr) (G.hb.dp tupB)) (.cons (.bl _) (.cons g1 .nil)))))) i1,
      dk_cons (Dk.list (k := 39) (dk_cons (Dk.str (kdT_ok _)) (dk_cons (f2.mono (by decide)) (dk_cons ((Dk.list fun d hd => (pds_dk hn tupD o.1 d hd)).mono (by have := n.1; omega)) (dk_cons Dk.bl (dk_cons (g2.mono (by decide)) dk_nil)))))) i2⟩
theorem sl5 {ns : List Str} : cutV (ns.map V.str) none (some 5) = (ns.take 5).map V.str ∧ cutV (ns.map V.str) (some 5) none = (ns.drop 5).map V.str := ⟨cut_lo (k := 5), cut_hi (k := 5)⟩
theorem pure_law_put (K : PySem.W.Frag) (vs : List V) (H : Hp) (Q : VK) (E : XK) (h : sp_law_put K vs H Q E) :
    t_law_put K { nx := fun _ H' => Q .non H', rt := Q } (start N_law_put vs) H := by
  obtain ⟨H0, st, a, ns, L, W, m, o, rfl, S, hA, hT, o0, o2, hW, q⟩ := h
  have hne : L ≠ [] := fun e => by have := S.len.1; rw [e] at this; simp at this
  have lst_put : ∀ (M : List Frm) (x : Frm), L = M ++ [x] → ∀ (H7 : Hp) (T : Addr) (r : Rw), Stk K H0 H7 st ns L W → RwAt K (SqT K) H7 (.ref T) r → r.ok ns → r.nest = 1 → r.size = 1 → ∀ vf ve xs, FrIn K H7 x vf ve xs → rAppend (.ref x.r) [.ref T] H7 (fun _ H8 => Q .non H8) := by
    rintro M x rfl H7 T r S7 hr ro rn rs vf ve xs G
    have b1 : szs x.rows ≤ x.w := by unfold Frm.w; omega
    have b2 : x.w ≤ W := Nat.le_trans (sum_le (List.mem_map.mpr ⟨x, List.mem_append_right _ (List.mem_singleton.mpr rfl), rfl⟩)) S7.w
    have b3 := szs_len x.rows
    have b4 := G.hb.len
    have ml := S7.len.2
    rw [List.length_append, List.length_singleton] at ml
    exact w_app G.hr (Nat.lt_of_le_of_lt (by omega : xs.length ≤ 1000) (by decide)) (q _ _ _ ((S7.row G hr ro (by omega)).wle (by omega)))
  have push : ∀ (H7 : Hp) (kd : Nat) (u : V) (f : Fm) (b : Bool) (r F : Addr), Stk K H0 H7 st ns L W → FmAt K H7 u f → f.fine ns → kd ≠ 0 → L.length < 8 → H7 r = none → upd H7 r (.lst []) F = none →
      rAppend (.ref st) [.ref F] (upd (upd H7 r (.lst [])) F (.lst [.str (kdT kd), u, .ref r, .bl b, .non])) (fun _ H8 => Q .non H8) := by
    intro H7 kd u f b r F S7 hf ff hk hl hr hF
    have e1 := same_new (o := .lst []) hr
    have e2 := same_new (o := .lst [.str (kdT kd), u, .ref r, .bl b, .non]) hF
    have S9 := S7.mono (e1.trans e2)
    have P := S9.push (x := ⟨F, r, kd, f, [], b, none⟩) ⟨u, .non, [], upd_same, e2 _ _ upd_same, .nil, fun c => absurd c hk, fun _ => hf.mono (e1.trans e2), rfl⟩
      (none_of S7.same hr) (ne_of_none S7.hs hr).symm (fun z hz => by obtain ⟨_, _, _, Gz⟩ := S7.fr z hz; exact ne_of_none Gz.hr hr) hk ⟨trivial, fun _ => ff, fun b hb => nomatch hb⟩ hl (by show 0 + L.length ≤ 8; omega) (fun b hb => nomatch hb)
    exact w_app S9.hs (Nat.lt_of_le_of_lt (by rw [List.length_map]; omega : _ ≤ 8) (by decide)) (q _ _ _ (P.wle (Nat.le_refl _)))
  unfold t_law_put
  walk_at "go"
  refine w_lc ?_
  walk_at "go"
  refine w_isL (SqL.of S.hs) (fun D hD => ?_)
  refine lc_filter (ys := L) (fun x => x.sec) (fun x => .ref x.a) (SqL.of S.hs) (Nat.le_trans S.len.2 (by decide)) hD ?_ ?_
  · rintro x H5 Nx hx e5 ⟨zs, hzs⟩ yes no
    refine ⟨rfl, ?_⟩
    obtain ⟨vf, ve, xs, G⟩ := (S.mono e5).fr x hx
    have ga := G.ha
    walk_at "go"
    refine w_two (fun c => ?_) (fun c => ?_)
    · walk_at "go"
      exact yes c _ (Same.refl _)
    · exact no c _ (Same.refl _)
  · intro H5 e5 hD5
    walk_at "go"
    refine w_new (by walk_at "sz") (fun p hp => ?_)
    have e6 := e5.trans (same_new (o := .lst []) hp)
    have S6 := S.mono e6
    obtain ⟨ds, dd, dk⟩ := frs_dp hT.nm (L := L.filter fun x => x.sec) (fun x hx => S6.fr x (List.mem_filter.mp hx).1) (fun x hx => S6.ok x (List.mem_filter.mp hx).1) (fun x hx => by
      obtain ⟨i, hi⟩ := List.getElem?_of_mem (List.mem_filter.mp hx).1
      have := S6.nest i x hi
      exact ⟨by omega, fun b hb => by have := this.2.1 b hb; omega⟩)
    refine w_neD (.lst (SqL.of ((same_new hp) _ _ hD5)) dd) (.lst (SqL.of upd_same) .nil) ((Dk.list dk).shaped (by decide)) ((Dk.list (k := 0) dk_nil).shaped (by decide)) ?_
    generalize (!PyData.eqv (.list ds) (.list [])) = d
    generalize upd H5 p (.lst []) = H6 at e6 S6
    walk_at "go"
    refine ⟨a, ns, m, d, o, rfl, same_l S6.same hA, hT, fun p1 H7 u f b e7 hp1 hf ho hd => ?_⟩
    have S7 := S6.mono e7
    have hA7 := same_l S7.same hA
    have ff : f.fine ns := ⟨ho, by omega⟩
    obtain ⟨M, x, hLx⟩ := snoc_of hne
    have hst : H7 st = some (.lst ((M ++ [x]).map fun x => V.ref x.a)) := by rw [← hLx]; exact S7.hs
    have hxL : x ∈ L := by rw [hLx]; exact List.mem_append_right _ (List.mem_singleton.mpr rfl)
    obtain ⟨vf, ve, xs, G⟩ := S7.fr x hxL
    have ga := G.ha
    have gr := G.hr
    have j1 : ∀ (way : Int) (sh : Bool) (H8 : Hp) (z : Addr) (zs : List Str), Same H7 H8 → SqL K H8 z (zs.map V.str) → List.Sublist zs ns → 0 < zs.length →
        t_law_put_j1 K { nx := fun _ H' => Q .non H', rt := Q } [some (.ref st), some (.ref a), some (.int m), some (.int o), some (.int way), some (.bl d), none, some u, some (.bl b), some (.bl sh), some (.ref z)] H8 := by
      intro way sh H8 z zs e8 hz sl pos
      unfold t_law_put_j1
      have ga8 := e8 _ _ ga
      have gr8 := e8 _ _ gr
      walk_at "go"
      refine w_ixL (SqL.of (e8 _ _ hst)) at_last ?_
      walk_at "go"
      have pm : (0 : Int) < ((zs.map V.str).length : Nat) := by rw [List.length_map]; omega
      refine w_mod pm ?_
      have mm := mod_in (m / 96) pm
      rw [List.length_map] at mm
      obtain ⟨y, ym, _, hy⟩ := at_map (f := V.str) (xs := zs) mm.1 mm.2
      refine w_ixL hz (by rw [List.length_map]; exact hy) ?_
      walk_at "go"
      refine w_new (by walk_at "sz") (fun T hT1 => ?_)
      have e9 := e8.trans (same_new (o := .tup [.str "set", .str y, u]) hT1)
      exact lst_put M x hLx _ T (.set y f) (S7.mono e9) (.set (SqT.of upd_same) (hf.mono e9)) ⟨sl.subset ym, ff⟩ rfl rfl vf ve xs (G.moves (SameT.of e9) ((e9 _ _ ga).trans ga.symm) ((e9 _ _ gr).trans gr.symm))
    have j3 : ∀ (way : Int) (sh : Bool) (w10 : Unit) (H8 : Hp), Same H7 H8 → t_law_put_j3 K { nx := fun _ H' => Q .non H', rt := Q } [some (.ref st), some (.ref a), some (.int m), some (.int o), some (.int way), some (.bl d), none, some u, some (.bl b), some (.bl sh), none] H8 := by
      intro way sh _ H8 e8
      unfold t_law_put_j3
      have S8 := S7.mono e8
      have hA8 := same_l S8.same hA
      have ga8 := e8 _ _ ga
      have gr8 := e8 _ _ gr
      have hst8 := e8 _ _ hst
      have hf8 := hf.mono e8
      have hlen : ((M ++ [x]).map fun x => V.ref x.a).length = L.length := by rw [hLx, List.length_map]
      walk_at "go"
      refine w_two (fun _ => ?_) (fun _ => ?_)
      · walk_at "go"
        refine w_slL hA8 (fun p2 hp2 => ?_)
        rw [sl5.1]
        have f1 := same_new (o := .lst ((ns.take 5).map V.str)) hp2
        have q2 : upd H8 p2 (.lst ((ns.take 5).map V.str)) p2 = _ := upd_same
        generalize upd H8 p2 (.lst ((ns.take 5).map V.str)) = H9 at f1 q2
        have hA9 := same_l f1 hA8
        walk_at "go"
        refine w_slL hA9 (fun p3 hp3 => ?_)
        rw [sl5.2]
        have f2 := same_new (o := .lst ((ns.drop 5).map V.str)) hp3
        have q3 : upd H9 p3 (.lst ((ns.drop 5).map V.str)) p3 = _ := upd_same
        have q23 := f2 _ _ q2
        generalize upd H9 p3 (.lst ((ns.drop 5).map V.str)) = H10 at f2 q3 q23
        walk_at "go"
        refine w_new (by walk_at "sz") (fun p4 hp4 => ?_)
        have f3 := same_new (o := .lst [.ref p2, .ref p3]) hp4
        have q4 : upd H10 p4 (.lst [.ref p2, .ref p3]) p4 = _ := upd_same
        have q33 := f3 _ _ q3
        have q24 := f3 _ _ q23
        generalize upd H10 p4 (.lst [.ref p2, .ref p3]) = H11 at f3 q4 q33 q24
        walk_at "go"
        have pick : ∃ (w : Addr) (ws : List Str), atI [V.ref p2, V.ref p3] (if decide (m / 7 % 4 = 3) = true then 1 else 0) = some (.ref w) ∧ H11 w = some (.lst (ws.map V.str)) ∧ List.Sublist ws ns ∧ 0 < ws.length := by
          cases decide (m / 7 % 4 = 3) with
          | true => exact ⟨p3, _, rfl, q33, List.drop_sublist _ _, by rw [List.length_drop, hT.len]; decide⟩
          | false => exact ⟨p2, _, rfl, q24, List.take_sublist _ _, by rw [List.length_take, hT.len]; decide⟩
        obtain ⟨w, ws, hw1, hw2, hw3, hw4⟩ := pick
        refine w_ixL (SqL.of q4) hw1 ?_
        walk_at "go"
        refine w_new (by walk_at "sz") (fun p5 hp5 => ?_)
        have f4 := same_new (o := .lst [.ref a, .ref a, .ref w]) hp5
        have q5 : upd H11 p5 (.lst [.ref a, .ref a, .ref w]) p5 = _ := upd_same
        have hw5 := f4 _ _ hw2
        generalize upd H11 p5 (.lst [.ref a, .ref a, .ref w]) = H12 at f4 q5 hw5
        have f14 : Same H8 H12 := f1.trans (f2.trans (f3.trans f4))
        have hA12 := same_l f14 hA8
        have pick2 : ∃ (z : Addr) (zs : List Str), atI [V.ref a, V.ref a, V.ref w] o = some (.ref z) ∧ SqL K H12 z (zs.map V.str) ∧ List.Sublist zs ns ∧ 0 < zs.length := by
          have c : o = 0 ∨ o = 1 ∨ o = 2 := by omega
          rcases c with rfl | rfl | rfl
          · exact ⟨a, ns, rfl, hA12, List.Sublist.refl _, by rw [hT.len]; decide⟩
          · exact ⟨a, ns, rfl, hA12, List.Sublist.refl _, by rw [hT.len]; decide⟩
          · exact ⟨w, ws, rfl, SqL.of hw5, hw3, hw4⟩
        obtain ⟨z, zs, hz1, hz2, hz3, hz4⟩ := pick2
        walk_at "go"
        refine w_ixL (SqL.of q5) hz1 ?_
        walk_at "go"
        cases sh with
        | true =>
          walk_at "go"
          refine w_slL hA12 (fun p6 hp6 => ?_)
          rw [sl5.2]
          walk_at "go"
          exact j1 way true _ p6 (ns.drop 5) (e8.trans (f14.trans (same_new hp6))) (SqL.of upd_same) (List.drop_sublist _ _) (by rw [List.length_drop, hT.len]; decide)
        | false =>
          walk_at "go"
          exact j1 way false _ z zs (e8.trans f14) hz2 hz3 hz4
      · refine w_if (w_andP (c := decide (way = 4)) (d := !sh) (by walk_at "pv") (by walk_at "pv") ?_)
        refine w_two (fun _ => ?_) (fun _ => ?_)
        · walk_at "go"
          refine w_ixL (SqL.of hst8) at_last ?_
          walk_at "go"
          refine w_new (by walk_at "sz") (fun T hT1 => ?_)
          have e9 := e8.trans (same_new (o := .tup [.str "tell", u]) hT1)
          exact lst_put M x hLx _ T (.tell f) (S7.mono e9) (.tell (SqT.of upd_same) (hf.mono e9)) ff rfl rfl vf ve xs (G.moves (SameT.of e9) ((e9 _ _ ga).trans ga.symm) ((e9 _ _ gr).trans gr.symm))
        walk_at "go"
        refine w_two (fun _ => ?_) (fun _ => ?_)
        · walk_at "go"
          refine w_ixL (SqL.of hst8) at_last ?_
          walk_at "go"
          refine w_new (by walk_at "sz") (fun T hT1 => ?_)
          have e9 := e8.trans (same_new (o := .tup [.str "skip"]) hT1)
          exact lst_put M x hLx _ T .skip (S7.mono e9) (.skip (SqT.of upd_same)) trivial rfl rfl vf ve xs (G.moves (SameT.of e9) ((e9 _ _ ga).trans ga.symm) ((e9 _ _ gr).trans gr.symm))
        refine w_if (w_andP (c := decide (way < 8)) (d := decide ((((M ++ [x]).map fun x => V.ref x.a).length : Int) < 8)) (by walk_at "pv") (by walk_at "pv") ?_)
        refine w_two (fun c => ?_) (fun _ => ?_)
        · have c := of_decide_eq_true (Bool.and_eq_true_iff.mp c).2
          rw [hlen] at c
          walk_at "go"
          refine w_new (by walk_at "sz") (fun r' hr' => ?_)
          walk_at "go"
          refine w_new (by walk_at "sz") (fun F hF => ?_)
          walk_at "go"
          exact push H8 1 u f b r' F S8 hf8 ff (by decide) (by omega) hr' hF
        refine w_if (w_andP (c := decide (way < 10)) (d := decide ((((M ++ [x]).map fun x => V.ref x.a).length : Int) < 8) && !sh) (by walk_at "pv") (fun Qp qp => w_andP (by walk_at "pv") (by walk_at "pv") qp) ?_)
        refine w_two (fun c => ?_) (fun _ => ?_)
        · have c := of_decide_eq_true (Bool.and_eq_true_iff.mp (Bool.and_eq_true_iff.mp c).2).1
          rw [hlen] at c
          have j2 : ∀ (H9 : Hp) (u' : V) (f' : Fm), Same H8 H9 → FmAt K H9 u' f' → f'.fine ns →
              t_law_put_j2 K { nx := fun _ H' => Q .non H', rt := Q } [some (.ref st), some (.ref a), some (.int m), some (.int o), some (.int way), some (.bl d), none, some u', some (.bl b), some (.bl sh), none] H9 := by
            intro H9 u' f' e9 hf9 ff9
            unfold t_law_put_j2
            have S9 := S8.mono e9
            have hst9 := e9 _ _ hst8
            walk_at "go"
            refine w_new (by walk_at "sz") (fun r' hr' => ?_)
            walk_at "go"
            refine w_new (by walk_at "sz") (fun F hF => ?_)
            walk_at "go"
            exact push H9 2 u' f' b r' F S9 hf9 ff9 (by decide) (by omega) hr' hF
          refine w_seq (w_if (w_andP (c := decide (o = 0)) (d := decide (0 < m / 96 % 4)) (by walk_at "pv") (by walk_at "pv") ?_))
          refine w_two (fun _ => ?_) (fun _ => ?_)
          · walk_at "go"
            have m5 := mod_in (m / 384) (show (0 : Int) < 5 by decide)
            have m4 := mod_in (m / 1920) (show (0 : Int) < 4 by decide)
            obtain ⟨y, ym, _, hy⟩ := at_map (f := V.str) (xs := ns) m5.1 (by rw [hT.len]; omega)
            refine w_ixL hA8 hy ?_
            walk_at "go"
            refine w_new (by walk_at "sz") (fun n1 hn1 => ?_)
            walk_at "go"
            refine w_new (by walk_at "sz") (fun n2 hn2 => ?_)
            walk_at "go"
            refine w_new (by walk_at "sz") (fun n3 hn3 => ?_)
            walk_at "go"
            have d1 := same_new (o := .tup [.str "name", .str y]) hn1
            have d2 := same_new (o := .tup [.str "number", .int (1 + m / 1920 % 4)]) hn2
            have d3 := same_new (o := .tup [.str "<", .ref n1, .ref n2]) hn3
            exact j2 _ _ (.op .lt (.nam y) (.num (1 + m / 1920 % 4))) (d1.trans (d2.trans d3)) (.op (s := .lt) (SqT.of upd_same) (.nam (same_t (d2.trans d3) (SqT.of upd_same))) (.num (same_t d3 (SqT.of upd_same)))) ⟨⟨ym, by omega, by omega⟩, show 2 ≤ 12 from by decide⟩
          · walk_at "go"
            exact j2 H8 u f (Same.refl _) hf8 ff
        walk_at "go"
        refine w_two (fun c => ?_) (fun _ => ?_)
        · have c := of_decide_eq_true c
          rw [hlen] at c
          walk_at "go"
          exact ⟨H0, st, ns, L, W, rfl, S8, by omega, hW, fun v H9 L' S9 _ => q _ _ _ (S9.wle (by omega))⟩
        · walk_at "go"
          exact q _ _ _ (S8.wle (by omega))
    walk_at "go"
    have sh : ∀ (s : Bool), tSeq (tIfS (tTest (tOp (rEq2 K) (tVar 3) (tC (.int 2)))) (tAsg (tOp (rIx K) (tLst (tCons (tC (.int 0)) (tCons (tC (.int 4)) (tCons (tC (.int 8)) (tCons (tC (.int 0)) tNil))))) (tOp rMod (tOp rDiv (tVar 2) (tC (.int 7))) (tC (.int 4)))) (gName 4)) tNext) (t_law_put_j3 K) { nx := fun _ H' => Q .non H', rt := Q }
        [some (.ref st), some (.ref a), some (.int m), some (.int o), some (.int (m % 12)), some (.bl d), none, some u, some (.bl b), some (.bl s), none] H7 := by
      intro s
      walk_at "go"
      refine w_two (fun _ => ?_) (fun _ => ?_)
      · walk_at "go"
        refine w_new (by walk_at "sz") (fun p5 hp5 => ?_)
        walk_at "go"
        have m4 := mod_in (m / 7) (show (0 : Int) < 4 by decide)
        obtain ⟨z, zm, _, hz⟩ := at_map (f := V.int) (xs := [0, 4, 8, 0]) m4.1 m4.2
        refine w_ixL (SqL.of upd_same) hz ?_
        exact j3 z s () _ (same_new hp5)
      · walk_at "go"
        exact j3 (m % 12) s () H7 (Same.refl _)
    refine w_two (fun _ => ?_) (fun _ => ?_)
    · walk_at "go"
      cases d with
      | true => walk_at "go1"; exact sh _
      | false => walk_at "go1"; walk_at "go1"; exact sh _
    · exact sh _
theorem Stk.init {K : PySem.W.Frag} {H H' : Hp} {ns : List Str} {st a r : Addr} (f : Fm) (e : Same H H') (s0 : H st = none) (r0 : H r = none) (rs : r ≠ st) (hs : H' st = some (.lst [.ref a])) (ha : H' a = some (.lst [.str "", .non, .ref r, .bl false, .non])) (hr : H' r = some (.lst [])) :
    Stk K H H' st ns [⟨a, r, 0, f, [], false, none⟩] 2 := by
  have one : ∀ x ∈ [(⟨a, r, 0, f, [], false, none⟩ : Frm)], x = ⟨a, r, 0, f, [], false, none⟩ := fun x hx => List.mem_singleton.mp hx
  refine ⟨e, s0, hs, ?_, ?_, ?_, ?_, ?_, ?_, ⟨Nat.le_refl _, show 1 ≤ 8 from by decide⟩, Nat.le_refl _⟩
  · intro x hx
    rw [one x hx]
    exact ⟨.non, .non, [], ha, hr, .nil, fun _ => rfl, fun c => absurd rfl c, rfl⟩
  · intro x hx; rw [one x hx]; exact r0
  · intro x hx; rw [one x hx]; exact rs
  · exact List.nodup_cons.mpr ⟨List.not_mem_nil, List.nodup_nil⟩
  · intro x hx
    rw [one x hx]
    exact ⟨trivial, fun c => absurd rfl c, fun b hb => nomatch hb⟩
  · intro i x hx
    cases i with
    | zero =>
      rw [← Option.some.inj hx]
      exact ⟨show 0 + 0 ≤ 8 from by decide, (fun b hb => nomatch hb), fun _ => ⟨rfl, rfl⟩, fun c => absurd c (Nat.lt_irrefl 0)⟩
    | succ i => simp at hx
theorem pure_law_block_by (K : PySem.W.Frag) (vs : List V) (H : Hp) (Q : VK) (E : XK) (h : sp_law_block_by K vs H Q E) :
    t_law_block_by K { nx := fun _ H' => Q .non H', rt := Q } (start N_law_block_by vs) H := by
  obtain ⟨c, a, cells, ns, o, rfl, hC, hcl, hA, hT, q⟩ := h
  unfold t_law_block_by
  walk_at "go"
  refine w_new (by walk_at "sz") (fun r0 hr0 => ?_)
  have e1 := same_new (o := .lst []) hr0
  have y1 : upd H r0 (.lst []) r0 = _ := upd_same
  generalize upd H r0 (.lst []) = H1 at e1 y1
  walk_at "go"
  refine w_new (by walk_at "sz") (fun a0 ha0 => ?_)
  have e2 := same_new (o := .lst [.str "", .non, .ref r0, .bl false, .non]) ha0
  have z2 : upd H1 a0 (.lst [.str "", .non, .ref r0, .bl false, .non]) a0 = _ := upd_same
  have y2 := e2 _ _ y1
  generalize upd H1 a0 (.lst [.str "", .non, .ref r0, .bl false, .non]) = H2 at e2 z2 y2
  walk_at "go"
  refine w_new (by walk_at "sz") (fun st hst => ?_)
  have e3 := same_new (o := .lst [.ref a0]) hst
  have S0 : Stk K H (upd H2 st (.lst [.ref a0])) st ns [⟨a0, r0, 0, .num 0, [], false, none⟩] 2 :=
    Stk.init (.num 0) (e1.trans (e2.trans e3)) (none_of (e1.trans e2) hst) hr0 (ne_of_none y2 hst) upd_same (e3 _ _ z2) (e3 _ _ y2)
  generalize upd H2 st (.lst [.ref a0]) = H3 at S0
  walk_at "go"
  refine ⟨c, cells.map V.int, rfl, same_l S0.same hC, for_enum (xs := cells.map V.int)
    (fun i σ H' => ∃ (L : List Frm) (w4 w5 w6 w7 : Option V), Stk K H H' st ns L (2 + 2 * i) ∧ σ = [some (.ref c), some (.ref a), some (.int o), some (.ref st), w4, w5, w6, w7])
    ⟨_, _, _, _, _, S0, rfl⟩ (fun i σ H' _ h => by obtain ⟨L, _, _, _, _, S, _⟩ := h; exact same_l S.same hC) ?_ ?_⟩
  · rintro i x σ H4 T hx hT0 ⟨L, w4, w5, w6, w7, S, rfl⟩
    have hi : i < cells.length := by have := (List.getElem?_eq_some_iff.mp hx).1; rw [List.length_map] at this; exact this
    obtain ⟨y, hy, rfl⟩ : ∃ y, cells[i]? = some y ∧ V.int y = x := by
      rw [List.getElem?_map] at hx
      cases d : cells[i]? with
      | none => rw [d] at hx; exact nomatch hx
      | some y => rw [d] at hx; exact ⟨y, rfl, Option.some.inj hx⟩
    have S5 := S.mono (same_new (o := .tup [.int (i : Nat), .int y]) hT0)
    generalize hH5 : upd H4 T (.tup [.int (i : Nat), .int y]) = H5 at S5
    have hC5 := same_l S5.same hC
    rw [← hH5]
    walk_at "go"
    rw [hH5]
    refine w_mulI (.inl ⟨by decide, by decide⟩) ?_
    walk_at "go"
    refine ⟨_, rfl, fun r1 _ _ => ?_⟩
    walk_at "go"
    refine w_mulI (.inr ⟨by omega, by omega⟩) ?_
    walk_at "go"
    refine ⟨_, rfl, fun r2 _ _ => ?_⟩
    have j1 : ∀ md : Int, 0 ≤ md → md ≤ 2 → t_law_block_by_j1 K ⟨fun σ H' => ∃ (L : List Frm) (w4 w5 w6 w7 : Option V), Stk K H H' st ns L (2 + 2 * (i + 1)) ∧ σ = [some (.ref c), some (.ref a), some (.int o), some (.ref st), w4, w5, w6, w7], Q, fun _ _ => False, fun _ _ => False⟩
        [some (.ref c), some (.ref a), some (.int o), some (.ref st), some (.int (i : Nat)), some (.int y), some (.int r2), some (.int md)] H5 := by
      intro md m0 m2
      unfold t_law_block_by_j1
      walk_at "go"
      exact ⟨H, st, a, ns, L, _, r2, md, rfl, S5, hA, hT, m0, m2, by omega, fun v H6 L' S6 => ⟨L', _, _, _, _, S6, rfl⟩⟩
    have pl : (0 : Int) < ((cells.map V.int).length : Nat) := by rw [List.length_map]; omega
    have a1 := j1 0 (by decide) (by decide)
    have a2 := j1 1 (by decide) (by decide)
    have a3 := j1 2 (by decide) (by decide)
    repeat' (first | walk_at "go1" | (refine w_two (fun _ => ?_) (fun _ => ?_)) | exact a1 | exact a2 | exact a3 | (unfold t_law_block_by_j2; skip))
  · rintro σ H4 ⟨L, w4, w5, w6, w7, S, rfl⟩
    rw [List.length_map] at S
    refine w_seq (w_while' (fun m σ H' => ∃ (L : List Frm) (w4 w5 w6 w7 : Option V), Stk K H H' st ns L (2 + 2 * cells.length) ∧ mus L = m ∧ σ = [some (.ref c), some (.ref a), some (.int o), some (.ref st), w4, w5, w6, w7]) (mus L) ⟨L, _, _, _, _, S, rfl, rfl⟩ ?_)
    rintro m σ H5 ⟨L, w4, w5, w6, w7, S, rfl, rfl⟩
    have hs5 := S.hs
    walk_at "go"
    rw [List.length_map]
    refine w_two (fun c1 => ?_) (fun c1 => ?_)
    · have c1 := of_decide_eq_true c1
      refine ⟨_, fun _ _ h => h, ?_⟩
      walk_at "go"
      exact ⟨H, st, ns, L, _, rfl, S, by omega, by omega, fun v H6 L' S6 lt => ⟨mus L', lt, L', _, _, _, _, S6, rfl, rfl⟩⟩
    · have c1 := of_decide_eq_false c1
      have l1 := S.len.1
      obtain ⟨x, rfl⟩ := list_one (show L.length = 1 by omega)
      have hx : x ∈ [x] := List.mem_singleton.mpr rfl
      obtain ⟨vf, ve, xs, G⟩ := S.fr x hx
      have hs6 : H5 st = some (.lst [.ref x.a]) := hs5
      have ga := G.ha
      walk_at "go"
      have w := S.w
      have wx : szs x.rows + elSz x.els + 2 + 0 ≤ 2 + 2 * cells.length := w
      have n := (S.nest 0 x rfl).1
      exact q x.r H5 xs x.rows S.same (S.r0 x hx) G.hr ⟨G.hb, (S.ok x hx).1, n⟩ (by omega)
def sgs : List Str := ["+", "-", "*", "/", "<", "="]
def nmB (x : Str) : Bool := decide (1 ≤ (cs x).length) && (decide ((cs x).length ≤ 8) && (!decide (x ∈ words) && ((match (cs x)[0]? with | some c => decide (c ∈ cs az) | none => false) && (cs x).all fun c => decide (c ∈ cs az) || decide (c ∈ cs n09))))
theorem az_let {c : Nat} (h : IsLet c) : c ∈ cs az := by
  rw [az_cs]
  exact List.mem_map.mpr ⟨c - 97, List.mem_range.mpr (by have := h.1; have := h.2; omega), by have := h.1; omega⟩
theorem n09_fig {c : Nat} (h : 48 ≤ c ∧ c ≤ 57) : c ∈ cs n09 := by
  rw [n09_cs]
  exact List.mem_map.mpr ⟨c - 48, List.mem_range.mpr (by omega), by omega⟩
theorem let_az {c : Nat} (h : c ∈ cs az) : IsLet c := by
  rw [az_cs] at h
  obtain ⟨i, hi, rfl⟩ := List.mem_map.mp h
  have := List.mem_range.mp hi
  exact ⟨by omega, by omega⟩
theorem fig_n09 {c : Nat} (h : c ∈ cs n09) : 48 ≤ c ∧ c ≤ 57 := by
  rw [n09_cs] at h
  obtain ⟨i, hi, rfl⟩ := List.mem_map.mp h
  have := List.mem_range.mp hi
  exact ⟨by omega, by omega⟩
theorem nm_iff {x : Str} : nmB x = true ↔ Nm x := by
  unfold nmB
  rw [Bool.and_eq_true_iff, Bool.and_eq_true_iff, Bool.and_eq_true_iff, Bool.and_eq_true_iff, List.all_eq_true]
  constructor
  · rintro ⟨h1, h2, h3, h4, h5⟩
    refine ⟨of_decide_eq_true h1, of_decide_eq_true h2, fun c hc => ?_, fun c hc => ?_, by simpa using h3⟩
    · rw [hc] at h4
      exact let_az (of_decide_eq_true h4)
    · rcases Bool.or_eq_true_iff.mp (h5 c hc) with h | h
      · exact .inl (let_az (of_decide_eq_true h))
      · exact .inr (fig_n09 (of_decide_eq_true h))
  · intro h
    refine ⟨decide_eq_true h.pos, decide_eq_true h.most, by simpa using h.nw, ?_, fun c hc => ?_⟩
    · have : 0 < (cs x).length := h.pos
      rw [List.getElem?_eq_getElem this]
      exact decide_eq_true (az_let (h.hd _ (List.getElem?_eq_getElem this)))
    · rcases h.all c hc with h | h
      · rw [decide_eq_true (az_let h), Bool.true_or]
      · rw [decide_eq_true (n09_fig h), Bool.or_true]
def SE (K : PySem.W.Frag) : SQ := fun H a xs => SqL K H a xs ∨ SqT K H a xs
theorem se_same {K : PySem.W.Frag} {H H' : Hp} (e : Same H H') {a : Addr} {xs : List V} (h : SE K H a xs) : SE K H' a xs := h.imp (same_l e) (same_t e)
theorem BkAt.monoE {K : PySem.W.Frag} {H H' : Hp} (e : Same H H') {vs : List V} {l : List Rw} (h : BkAt K (SE K) H vs l) : BkAt K (SE K) H' vs l := h.go (SameT.of e) fun _ _ => se_same e
theorem RwAt.monoE {K : PySem.W.Frag} {H H' : Hp} (e : Same H H') {v : V} {r : Rw} (h : RwAt K (SE K) H v r) : RwAt K (SE K) H' v r := h.go (SameT.of e) fun _ _ => se_same e
theorem BkAt.toE {K : PySem.W.Frag} {H : Hp} {vs : List V} {l : List Rw} (h : BkAt K (SqT K) H vs l) : BkAt K (SE K) H vs l := h.go (SameT.refl H) fun _ _ q => .inr q
theorem RwAt.toE {K : PySem.W.Frag} {H : Hp} {v : V} {r : Rw} (h : RwAt K (SqT K) H v r) : RwAt K (SE K) H v r := h.go (SameT.refl H) fun _ _ q => .inr q
def sp_is_whole (K : PySem.W.Frag) : Sp := fun vs H Q _ => ∃ i : Int, vs = [.int i] ∧ Q (.bl true) H
def sp_is_number (K : PySem.W.Frag) : Sp := fun vs H Q _ => ∃ i : Int, vs = [.int i] ∧ Q (.bl (decide (0 ≤ i) && decide (i < 1000000))) H
def sp_is_name (K : PySem.W.Frag) : Sp := fun vs H Q _ => ∃ x : Str, vs = [.str x] ∧ x.length ≤ sizeLine ∧ Q (.bl (nmB x)) H
def sp_is_end (K : PySem.W.Frag) : Sp := fun vs H Q _ => ∃ (v : V) (f : Fm) (ns : List Str), vs = [v] ∧ FmAt K H v f ∧ f.ok ns ∧ (∀ x ∈ ns, Nm x) ∧ Q (.bl (match f with | .op _ _ _ => false | _ => true)) H
def sp_need_formula (K : PySem.W.Frag) (n : Nat) : Sp := fun vs H Q _ => ∃ (v : V) (f : Fm) (ns : List Str) (l : Int), vs = [v, .int l] ∧ FmAt K H v f ∧ f.ok ns ∧ (∀ x ∈ ns, Nm x) ∧ f.depth ≤ n ∧ (f.depth : Int) ≤ l ∧ Q .non H
def sp_is_list (K : PySem.W.Frag) : Sp := fun vs H Q _ => ∃ (a : Addr) (xs : List V), vs = [.ref a] ∧ SE K H a xs ∧ ∀ H', Same H H' → Q (.bl true) H'
abbrev N_is_whole : List Str := ["thing"]
def t_is_whole (K : PySem.W.Frag) : TS :=
  (tRet (tAndV (tCB (rIsi2 K) (tCons (tVar 0) (tCons (tC (.ty "int")) tNil))) (tNotV (tCB (rIsi2 K) (tCons (tVar 0) (tCons (tC (.ty "bool")) tNil))))))
abbrev N_is_number : List Str := ["thing"]
def t_is_number (K : PySem.W.Frag) : TS :=
  (tRet (tAndV (tF (sp_is_whole K) (tCons (tVar 0) tNil)) (tChain rLe rLt (tC (.int 0)) (tVar 0) (tC (.int 1000000)))))
abbrev N_is_name : List Str := ["thing", "sign"]
def t_is_name_j1 (K : PySem.W.Frag) : TS :=
  (tSeq (tFor (iStr (tVar 0)) (gName 1) (tIfS (tAnd (tTest (tOp (rIn2 K true) (tVar 1) (tC (.str "abcdefghijklmnopqrstuvwxyz")))) (tTest (tOp (rIn2 K true) (tVar 1) (tC (.str "0123456789"))))) (tRet (tC (.bl false))) tNext)) (tRet (tC (.bl true))))
def t_is_name (K : PySem.W.Frag) : TS :=
  (tSeq (tIfS (tOr (tNot (tB (tCB (rIsi2 K) (tCons (tVar 0) (tCons (tC (.ty "str")) tNil))))) (tOr (tNot (tTest (tChain rLe rLe (tC (.int 1)) (tCB (rLenA K) (tCons (tVar 0) tNil)) (tC (.int 8))))) (tOr (tTest (tOp (rIn2 K false) (tVar 0) (tGT K (words.map V.str)))) (tTest (tOp (rIn2 K true) (tOp (rIx K) (tVar 0) (tC (.int 0))) (tC (.str "abcdefghijklmnopqrstuvwxyz"))))))) (tRet (tC (.bl false))) tNext) (t_is_name_j1 K))
abbrev N_is_end : List Str := ["thing"]
def t_is_end_j1 (K : PySem.W.Frag) : TS :=
  (tSeq (tIfS (tTest (tOp (rEq2 K) (tOp (rIx K) (tVar 0) (tC (.int 0))) (tC (.str "number")))) (tRet (tF (sp_is_number K) (tCons (tOp (rIx K) (tVar 0) (tC (.int 1))) tNil))) tNext) (tRet (tAndV (tOp (rEq2 K) (tOp (rIx K) (tVar 0) (tC (.int 0))) (tC (.str "name"))) (tF (sp_is_name K) (tCons (tOp (rIx K) (tVar 0) (tC (.int 1))) tNil)))))
def t_is_end (K : PySem.W.Frag) : TS :=
  (tSeq (tIfS (tOr (tNot (tB (tCB (rIsi2 K) (tCons (tVar 0) (tCons (tC (.ty "tuple")) tNil))))) (tOr (tTest (tOp (rNe2 K) (tCB (rLenA K) (tCons (tVar 0) tNil)) (tC (.int 2)))) (tNot (tB (tCB (rIsi2 K) (tCons (tOp (rIx K) (tVar 0) (tC (.int 0))) (tCons (tC (.ty "str")) tNil))))))) (tRet (tC (.bl false))) tNext) (t_is_end_j1 K))
abbrev N_need_formula : List Str := ["thing", "left"]
def t_need_formula_j1 (K : PySem.W.Frag) (n : Nat) : TS :=
  (tSeq (tDrop (tF (sp_need_formula K n) (tCons (tOp (rIx K) (tVar 0) (tC (.int 1))) (tCons (tOp rSub (tVar 1) (tC (.int 1))) tNil)))) (tDrop (tF (sp_need_formula K n) (tCons (tOp (rIx K) (tVar 0) (tC (.int 2))) (tCons (tOp rSub (tVar 1) (tC (.int 1))) tNil)))))
def t_need_formula (K : PySem.W.Frag) (n : Nat) : TS :=
  (tSeq (tIfS (tTest (tOp (rEq2 K) (tVar 1) (tC (.int 0)))) tNever tNext) (tSeq (tIfS (tB (tF (sp_is_end K) (tCons (tVar 0) tNil))) tRetN tNext) (tSeq (tIfS (tOr (tNot (tB (tCB (rIsi2 K) (tCons (tVar 0) (tCons (tC (.ty "tuple")) tNil))))) (tOr (tTest (tOp (rNe2 K) (tCB (rLenA K) (tCons (tVar 0) tNil)) (tC (.int 3)))) (tOr (tNot (tB (tCB (rIsi2 K) (tCons (tOp (rIx K) (tVar 0) (tC (.int 0))) (tCons (tC (.ty "str")) tNil))))) (tTest (tOp (rIn2 K true) (tOp (rIx K) (tVar 0) (tC (.int 0))) (tGT K (sgs.map V.str))))))) tNever tNext) (t_need_formula_j1 K n))))
abbrev N_is_list : List Str := ["thing"]
def t_is_list (K : PySem.W.Frag) : TS :=
  (tRet (tCB (rIsi2 K) (tCons (tVar 0) (tCons (tTup (tCons (tC (.ty "list")) (tCons (tC (.ty "tuple")) tNil))) tNil))))
local macro_rules | `(tactic| walk_at "pv") => `(tactic| (intro Qp qp; walk_at "go"; exact qp))
theorem pure_is_whole (K : PySem.W.Frag) (vs : List V) (H : Hp) (Q : VK) (E : XK) (h : sp_is_whole K vs H Q E) :
    t_is_whole K { nx := fun _ H' => Q .non H', rt := Q } (start N_is_whole vs) H := by
  obtain ⟨i, rfl, q⟩ := h
  unfold t_is_whole
  walk_at "go"
  refine w_isi (.base (.int i)) rfl ?_
  walk_at "go"
  refine w_isiNo (.base (.int i)) rfl ?_
  walk_at "go"
  exact q
theorem pure_is_number (K : PySem.W.Frag) (vs : List V) (H : Hp) (Q : VK) (E : XK) (h : sp_is_number K vs H Q E) :
    t_is_number K { nx := fun _ H' => Q .non H', rt := Q } (start N_is_number vs) H := by
  obtain ⟨i, rfl, q⟩ := h
  unfold t_is_number
  walk_at "go"
  refine ⟨i, rfl, ?_⟩
  walk_at "go"
  refine w_two (fun c => ?_) (fun c => ?_)
  · walk_at "go"
    rw [c] at q
    exact q
  · rw [c] at q
    exact q
theorem pure_is_name (K : PySem.W.Frag) (vs : List V) (H : Hp) (Q : VK) (E : XK) (h : sp_is_name K vs H Q E) :
    t_is_name K { nx := fun _ H' => Q .non H', rt := Q } (start N_is_name vs) H := by
  obtain ⟨x, rfl, hz, q⟩ := h
  have hl : ((x.length : Nat) : Int) = ((cs x).length : Nat) := by rw [cs_len]
  have no : ∀ {b : Bool}, nmB x = b → b = false → Q (.bl false) H := fun h1 h2 => by rw [h1, h2] at q; exact q
  unfold t_is_name
  walk_at "go"
  refine w_isi (.base (.str x)) rfl ?_
  walk_at "go"
  refine w_two (fun c => ?_) (fun c => ?_)
  · have c1 := of_decide_eq_true c
    walk_at "go"
    by_cases c2 : (cs x).length ≤ 8
    · have d2 : decide (((x.length : Nat) : Int) ≤ 8) = true := decide_eq_true (by omega)
      rw [d2]
      walk_at "go"
      intro a ha
      refine w_inTxtT (xs := words) (ha H) ?_
      walk_at "go"
      refine w_two (fun c3 => ?_) (fun c3 => ?_)
      · walk_at "go"
        exact no (b := nmB x) rfl (by unfold nmB; rw [c3]; simp)
      · walk_at "go"
        have pos : 0 < (cs x).length := by omega
        refine w_ixS (i := 0) hz (c := (cs x)[0]) (atI_nat (j := 0) (List.getElem?_eq_getElem pos)) ?_
        walk_at "go"
        refine w_inSg ?_
        show ∃ k, V.bl (!decide ((cs x)[0] ∈ cs az)) = .bl k ∧ _
        have hd : (match (cs x)[0]? with | some c => decide (c ∈ cs az) | none => false) = decide ((cs x)[0] ∈ cs az) := by rw [List.getElem?_eq_getElem pos]
        walk_at "go"
        by_cases c4 : (cs x)[0] ∈ cs az
        · rw [decide_eq_true c4] at hd ⊢
          walk_at "go"
          unfold t_is_name_j1
          walk_at "go"
          refine ⟨x, rfl, for_str (x := x) (fun i σ H' => H' = H ∧ (∃ w, σ = [some (.str x), w]) ∧ ∀ c ∈ (cs x).take i, (decide (c ∈ cs az) || decide (c ∈ cs n09)) = true) ⟨rfl, ⟨_, rfl⟩, fun c hc => by simp at hc⟩ ?_ ?_⟩
          · rintro i c σ H' hc ⟨rfl, ⟨w, rfl⟩, hall⟩
            have hc' : (cs x)[i]? = some c := by rw [← hc]; exact Array.getElem?_toList
            walk_at "go"
            refine w_inSg ?_
            show ∃ k, V.bl (!decide (c ∈ cs az)) = .bl k ∧ _
            walk_at "go"
            by_cases a1 : c ∈ cs az
            · rw [decide_eq_true a1]
              walk_at "go"
              refine ⟨rfl, ⟨_, rfl⟩, fun d hd2 => ?_⟩
              rw [List.take_succ, hc'] at hd2
              rcases List.mem_append.mp hd2 with h | h
              · exact hall d h
              · rw [List.mem_singleton.mp h, decide_eq_true a1, Bool.true_or]
            · rw [decide_eq_false a1]
              walk_at "go"
              refine w_inSg ?_
              show ∃ k, V.bl (!decide (c ∈ cs n09)) = .bl k ∧ _
              walk_at "go"
              by_cases a2 : c ∈ cs n09
              · rw [decide_eq_true a2]
                walk_at "go"
                refine ⟨rfl, ⟨_, rfl⟩, fun d hd2 => ?_⟩
                rw [List.take_succ, hc'] at hd2
                rcases List.mem_append.mp hd2 with h | h
                · exact hall d h
                · rw [List.mem_singleton.mp h, decide_eq_true a2, Bool.or_true]
              · rw [decide_eq_false a2]
                walk_at "go"
                refine no (b := nmB x) rfl ?_
                have : ((cs x).all fun c => decide (c ∈ cs az) || decide (c ∈ cs n09)) = false := by
                  rw [Bool.eq_false_iff]
                  intro h
                  have := List.all_eq_true.mp h c (List.mem_of_getElem? hc')
                  rw [decide_eq_false a1, decide_eq_false a2] at this
                  exact nomatch this
                unfold nmB
                rw [this]
                simp
          · rintro σ H' ⟨rfl, ⟨w, rfl⟩, hall⟩
            walk_at "go"
            have sz : (cs x).take x.cps.size = cs x := List.take_of_length_le (by show (cs x).length ≤ _; rw [Array.length_toList]; exact Nat.le_refl _)
            rw [sz] at hall
            have e : nmB x = true := by
              unfold nmB
              rw [hd, List.all_eq_true.mpr hall, c3, decide_eq_true (show 1 ≤ (cs x).length from pos), decide_eq_true c2] <;> rfl
            rw [e] at q
            exact q
        · rw [decide_eq_false c4] at hd ⊢
          walk_at "go"
          exact no (b := nmB x) rfl (by unfold nmB; rw [hd]; simp)
    · have d2 : decide (((x.length : Nat) : Int) ≤ 8) = false := decide_eq_false (by omega)
      rw [d2]
      walk_at "go"
      exact no (b := nmB x) rfl (by unfold nmB; rw [decide_eq_false c2]; simp)
  · have c1 := of_decide_eq_false c
    walk_at "go"
    exact no (b := nmB x) rfl (by unfold nmB; rw [decide_eq_false (by omega : ¬ 1 ≤ (cs x).length)]; simp)
theorem pure_is_end (K : PySem.W.Frag) (vs : List V) (H : Hp) (Q : VK) (E : XK) (h : sp_is_end K vs H Q E) :
    t_is_end K { nx := fun _ H' => Q .non H', rt := Q } (start N_is_end vs) H := by
  obtain ⟨v, f, ns, rfl, hf, ho, hN, q⟩ := h
  unfold t_is_end
  cases hf with
  | num h =>
    walk_at "go"
    refine w_isi (tyx_t h) rfl ?_
    walk_at "go"
    refine w_no (show (!decide (((2 : Nat) : Int) = 2)) = false from rfl) ?_
    walk_at "go"
    refine w_isi (.base (.str _)) rfl ?_
    walk_at "go"
    unfold t_is_end_j1
    walk_at "go"
    refine ⟨_, rfl, ?_⟩
    rw [decide_eq_true ho.1, decide_eq_true ho.2]
    exact q
  | nam h =>
    have nm := hN _ ho
    walk_at "go"
    refine w_isi (tyx_t h) rfl ?_
    walk_at "go"
    refine w_no (show (!decide (((2 : Nat) : Int) = 2)) = false from rfl) ?_
    walk_at "go"
    refine w_isi (.base (.str _)) rfl ?_
    walk_at "go"
    unfold t_is_end_j1
    walk_at "go"
    refine ⟨_, rfl, sz (by rw [cs_len]; have := nm.most; omega), ?_⟩
    rw [nm_iff.mpr nm]
    exact q
  | op h h1 h2 =>
    walk_at "go"
    refine w_isi (tyx_t h) rfl ?_
    walk_at "go"
    exact q
theorem sgs_mem (s : Sg) : decide (s.txt ∈ sgs) = true := by cases s <;> decide +kernel
theorem no_need_formula {K : PySem.W.Frag} : ∀ vs H Q E, ¬ sp_need_formula K 0 vs H Q E := by
  rintro vs H Q E ⟨v, f, _, _, _, _, _, _, h, _⟩
  have := f.depth_pos
  omega
theorem pure_need_formula (K : PySem.W.Frag) (n : Nat) (vs : List V) (H : Hp) (Q : VK) (E : XK) (h : sp_need_formula K (n + 1) vs H Q E) :
    t_need_formula K n { nx := fun _ H' => Q .non H', rt := Q } (start N_need_formula vs) H := by
  obtain ⟨v, f, ns, l, rfl, hf, ho, hN, hd, hl, q⟩ := h
  unfold t_need_formula
  have p1 := f.depth_pos
  have l0 : decide (l = 0) = false := decide_eq_false (by omega)
  walk_at "go"
  refine ⟨v, f, ns, rfl, hf, ho, hN, ?_⟩
  cases hf with
  | num h => walk_at "go"; exact q
  | nam h => walk_at "go"; exact q
  | @op a s u v f g h h1 h2 =>
    walk_at "go"
    refine w_isi (tyx_t h) rfl ?_
    walk_at "go"
    refine w_no (show (!decide (((3 : Nat) : Int) = 3)) = false from rfl) ?_
    walk_at "go"
    refine w_isi (.base (.str _)) rfl ?_
    walk_at "go"
    intro b hb
    refine w_ninTxtT (xs := sgs) (hb H) ?_
    rw [sgs_mem]
    walk_at "go"
    unfold t_need_formula_j1
    walk_at "go"
    have k1 : f.depth ≤ n := by simp only [Fm.depth] at hd; omega
    have k2 : g.depth ≤ n := by simp only [Fm.depth] at hd; omega
    have k3 : (f.depth : Int) ≤ l - 1 := by simp only [Fm.depth] at hl; omega
    have k4 : (g.depth : Int) ≤ l - 1 := by simp only [Fm.depth] at hl; omega
    refine ⟨u, f, ns, _, rfl, h1, ho.1, hN, k1, k3, ?_⟩
    walk_at "go"
    refine ⟨v, g, ns, _, rfl, h2, ho.2, hN, k2, k4, ?_⟩
    walk_at "go"
    exact q
theorem pure_is_list (K : PySem.W.Frag) (vs : List V) (H : Hp) (Q : VK) (E : XK) (h : sp_is_list K vs H Q E) :
    t_is_list K { nx := fun _ H' => Q .non H', rt := Q } (start N_is_list vs) H := by
  obtain ⟨a, xs, rfl, hs, q⟩ := h
  unfold t_is_list
  walk_at "go"
  refine w_new (by walk_at "sz") (fun p hp => ?_)
  walk_at "go"
  exact w_isLT upd_same (se_same (same_new hp) hs) (q _ (same_new hp))
theorem for_se {K : PySem.W.Frag} {a : Addr} {xs : List V} {g : TG} {tb : TS} {D : Ends} {σ : L2.St} {Hb H0 : Hp} (Pv : Nat → L2.St → Hp → Prop) (hq : SE K Hb a xs) (h0 : Pv 0 σ H0) (hl : ∀ i σ H, Pv i σ H → Same Hb H)
    (hs : ∀ i x σ H, xs[i]? = some x → Pv i σ H → g x σ H fun σ2 H2 => tb { D with nx := Pv (i + 1), ct := Pv (i + 1), bk := D.nx } σ2 H2) (hd : ∀ σ H, Pv xs.length σ H → D.nx σ H) :
    ∃ b, V.ref a = .ref b ∧ (((∃ xs, SqL K H0 b xs) ∧ ∃ W : Nat → Nat → L2.St → Hp → Prop, (∃ m, W 0 m σ H0) ∧ ∀ i m σ H, W i m σ H →
      ((Itl K b).stop i H ∧ D.nx σ H) ∨ ((Itl K b).go i H ∧ ∃ N : L2.St → Hp → Prop, (∀ σ' H', N σ' H' → ∃ m', m' < m ∧ W (i + 1) m' σ' H') ∧ ∀ x H', (Itl K b).yld i H x H' → g x σ H' fun σ2 H2 => tb { D with nx := N, ct := N, bk := D.nx } σ2 H2)) ∨
      ((∃ xs, SqT K H0 b xs) ∧ ∃ W : Nat → Nat → L2.St → Hp → Prop, (∃ m, W 0 m σ H0) ∧ ∀ i m σ H, W i m σ H →
      ((Itt K b).stop i H ∧ D.nx σ H) ∨ ((Itt K b).go i H ∧ ∃ N : L2.St → Hp → Prop, (∀ σ' H', N σ' H' → ∃ m', m' < m ∧ W (i + 1) m' σ' H') ∧ ∀ x H', (Itt K b).yld i H x H' → g x σ H' fun σ2 H2 => tb { D with nx := N, ct := N, bk := D.nx } σ2 H2))) := by
  refine ⟨a, rfl, ?_⟩
  rcases hq with hq | hq
  · exact .inl ⟨⟨xs, same_l (hl 0 σ H0 h0) hq⟩, for_list (xs := xs) Pv h0 (fun i σ H _ p => same_l (hl i σ H p) hq) hs hd⟩
  · exact .inr ⟨⟨xs, same_t (hl 0 σ H0 h0) hq⟩, for_tup (xs := xs) Pv h0 (fun i σ H _ p => same_t (hl i σ H p) hq) hs hd⟩
theorem lc_se {K : PySem.W.Frag} {a : Addr} {xs : List V} {g : TG} {tt : TT} {te : TE} {vs : List Nat} {σ : L2.St} {H0 : Hp} {Qd : Addr → Hp → Prop} (R : Nat → V → Hp → Prop) (hq : SE K H0 a xs) (hl : xs.length ≤ 16000000)
    (mono : ∀ i y H H', R i y H → SameT H H' → R i y H')
    (hs : ∀ D i x H (Nx : Hp → Prop), xs[i]? = some x → Same H0 H → (∃ ys, H D = some (.lst ys)) → (∀ y H4, Same H H4 → R i y H4 → ∃ acc, H4 D = some (.lst acc) ∧ acc.length < sizeLine ∧ Nx (upd H4 D (.lst (acc ++ [y])))) →
      g x (wipe σ vs) H fun σ2 H2 => wipe σ2 vs = wipe σ vs ∧ tt σ2 H2 fun b H3 => if b = true then te σ2 H3 fun y H4 => ∃ acc, H4 D = some (.lst acc) ∧ acc.length < sizeLine ∧ Nx (upd H4 D (.lst (acc ++ [y]))) else Nx H3)
    (hd : ∀ D H ys, Same H0 H → H0 D = none → H D = some (.lst ys) → ys.length = xs.length → (∀ (i : Nat) y, ys[i]? = some y → R i y H) → Qd D H) :
    ∃ b, V.ref a = .ref b ∧ (((∃ xs, SqL K H0 b xs) ∧ ∀ D, H0 D = none → ∃ W : Nat → Nat → Hp → Prop, (∃ m, W 0 m (upd H0 D (.lst []))) ∧ ∀ i m H, W i m H →
      ((Itl K b).stop i H ∧ Qd D H) ∨ ((Itl K b).go i H ∧ ∃ Nx : Hp → Prop, (∀ H', Nx H' → ∃ m', m' < m ∧ W (i + 1) m' H') ∧ ∀ x H', (Itl K b).yld i H x H' → g x (wipe σ vs) H' fun σ2 H2 => wipe σ2 vs = wipe σ vs ∧ tt σ2 H2 fun b H3 =>
        if b = true then te σ2 H3 fun y H4 => ∃ acc, H4 D = some (.lst acc) ∧ acc.length < sizeLine ∧ Nx (upd H4 D (.lst (acc ++ [y]))) else Nx H3)) ∨
      ((∃ xs, SqT K H0 b xs) ∧ ∀ D, H0 D = none → ∃ W : Nat → Nat → Hp → Prop, (∃ m, W 0 m (upd H0 D (.lst []))) ∧ ∀ i m H, W i m H →
      ((Itt K b).stop i H ∧ Qd D H) ∨ ((Itt K b).go i H ∧ ∃ Nx : Hp → Prop, (∀ H', Nx H' → ∃ m', m' < m ∧ W (i + 1) m' H') ∧ ∀ x H', (Itt K b).yld i H x H' → g x (wipe σ vs) H' fun σ2 H2 => wipe σ2 vs = wipe σ vs ∧ tt σ2 H2 fun b H3 =>
        if b = true then te σ2 H3 fun y H4 => ∃ acc, H4 D = some (.lst acc) ∧ acc.length < sizeLine ∧ Nx (upd H4 D (.lst (acc ++ [y]))) else Nx H3))) := by
  have step : ∀ D, H0 D = none → ∀ i x H, xs[i]? = some x → (Same H0 H ∧ ∃ ys, H D = some (.lst ys) ∧ ys.length = i ∧ ∀ (j : Nat) y, ys[j]? = some y → R j y H) →
      g x (wipe σ vs) H fun σ2 H2 => wipe σ2 vs = wipe σ vs ∧ tt σ2 H2 fun b H3 => if b = true then te σ2 H3 fun y H4 => ∃ acc, H4 D = some (.lst acc) ∧ acc.length < sizeLine ∧
        (Same H0 (upd H4 D (.lst (acc ++ [y]))) ∧ ∃ ys, (upd H4 D (.lst (acc ++ [y]))) D = some (.lst ys) ∧ ys.length = i + 1 ∧ ∀ (j : Nat) z, ys[j]? = some z → R j z (upd H4 D (.lst (acc ++ [y])))) else (Same H0 H3 ∧ ∃ ys, H3 D = some (.lst ys) ∧ ys.length = i + 1 ∧ ∀ (j : Nat) z, ys[j]? = some z → R j z H3) := by
    rintro D hD i x H hx ⟨e, ys, hy, hl2, hR⟩
    refine hs D i x H (fun H3 => Same H0 H3 ∧ ∃ ys, H3 D = some (.lst ys) ∧ ys.length = i + 1 ∧ ∀ (j : Nat) z, ys[j]? = some z → R j z H3) hx e ⟨ys, hy⟩ fun y H4 e4 hr => ?_
    have hi : i < xs.length := (List.getElem?_eq_some_iff.mp hx).1
    have h4 := e4 D _ hy
    have sx : SameT H4 (upd H4 D (.lst (ys ++ [y]))) := SameT.upd h4 rfl
    have sx0 : SameT H (upd H4 D (.lst (ys ++ [y]))) := (SameT.of e4).trans sx
    refine ⟨ys, h4, Nat.lt_of_le_of_lt (by omega : ys.length ≤ 16000000) (by decide), same_mut (e.trans e4) hD, ys ++ [y], upd_same, by rw [List.length_append, hl2] <;> rfl, fun j z hz => ?_⟩
    rcases Nat.lt_or_ge j ys.length with lt | ge
    · rw [List.getElem?_append_left lt] at hz
      exact mono j z _ _ (hR j z hz) sx0
    · rw [List.getElem?_append_right ge] at hz
      have hj : j - ys.length = 0 := by
        have := (List.getElem?_eq_some_iff.mp hz).1
        simp only [List.length_singleton] at this
        omega
      rw [hj] at hz
      have hz' : y = z := Option.some.inj hz
      have ji : j = i := by omega
      rw [← hz', ji]
      exact mono i y _ _ hr sx
  refine ⟨a, rfl, ?_⟩
  rcases hq with hq | hq
  · exact .inl ⟨⟨xs, hq⟩, fun D hD => lc_list (xs := xs) (fun i H => Same H0 H ∧ ∃ ys, H D = some (.lst ys) ∧ ys.length = i ∧ ∀ (j : Nat) y, ys[j]? = some y → R j y H) ⟨same_new hD, [], upd_same, rfl, fun j y h => by simp at h⟩ (fun i H _ h => same_l h.1 hq) (step D hD)
      fun H ⟨e, ys, hy, hl2, hR⟩ => hd D H ys e hD hy hl2 hR⟩
  · exact .inr ⟨⟨xs, hq⟩, fun D hD => lc_tup (xs := xs) (fun i H => Same H0 H ∧ ∃ ys, H D = some (.lst ys) ∧ ys.length = i ∧ ∀ (j : Nat) y, ys[j]? = some y → R j y H) ⟨same_new hD, [], upd_same, rfl, fun j y h => by simp at h⟩ (fun i H _ h => same_t h.1 hq) (step D hD)
      fun H ⟨e, ys, hy, hl2, hR⟩ => hd D H ys e hD hy hl2 hR⟩
def Rw.word : Rw → Str
  | .set _ _ => "set"
  | .tell _ => "tell"
  | .skip => "skip"
  | .ite _ _ _ => "if"
  | .whl _ _ => "while"
def Rw.things : Rw → Int
  | .set _ _ => 3
  | .tell _ => 2
  | .skip => 1
  | .ite _ _ _ => 4
  | .whl _ _ => 3
def Rw.fm : Rw → Option Fm
  | .set _ f => some f
  | .tell f => some f
  | .skip => none
  | .ite f _ _ => some f
  | .whl f _ => some f
def Rw.parts : Rw → List (List Rw)
  | .ite _ a b => [a, b]
  | .whl _ a => [a]
  | _ => []
def FoAt (K : PySem.W.Frag) (H : Hp) (u : V) : Option Fm → Prop
  | none => u = .non
  | some f => FmAt K H u f
inductive BlksAt (K : PySem.W.Frag) (S : SQ) (H : Hp) : List V → List (List Rw) → Prop where
  | nil : BlksAt K S H [] []
  | cons {q : Addr} {ys : List V} {b : List Rw} {vs : List V} {l : List (List Rw)} (h : S H q ys) (hb : BkAt K S H ys b) (t : BlksAt K S H vs l) : BlksAt K S H (.ref q :: vs) (b :: l)
theorem BlksAt.go {K : PySem.W.Frag} {S S' : SQ} {H H' : Hp} (e : SameT H H') (s : ∀ a xs, S H a xs → S' H' a xs) : ∀ {vs : List V} {l : List (List Rw)}, BlksAt K S H vs l → BlksAt K S' H' vs l
  | _, _, .nil => .nil
  | _, _, .cons h hb t => .cons (s _ _ h) (hb.go e s) (t.go e s)
theorem BlksAt.get {K : PySem.W.Frag} {S : SQ} {H : Hp} : ∀ {vs : List V} {l : List (List Rw)} {i : Nat} {v : V}, BlksAt K S H vs l → vs[i]? = some v → ∃ b q ys, l[i]? = some b ∧ v = .ref q ∧ S H q ys ∧ BkAt K S H ys b
  | _, _, 0, _, .cons h hb _, e => ⟨_, _, _, rfl, (Option.some.inj e).symm, h, hb⟩
  | _, _, i + 1, _, .cons _ _ t, e => t.get (i := i) e
  | _, _, _, _, .nil, e => by simp at e
theorem BlksAt.len {K : PySem.W.Frag} {S : SQ} {H : Hp} : ∀ {vs : List V} {l : List (List Rw)}, BlksAt K S H vs l → vs.length = l.length
  | _, _, .nil => rfl
  | _, _, .cons _ _ t => congrArg (· + 1) t.len
theorem parts_ok {ns : List Str} {r : Rw} (h : r.ok ns) : ∀ b ∈ r.parts, oks ns b := by
  cases r with
  | ite f a b => intro c hc; rcases List.mem_cons.mp hc with rfl | hc; exact h.2.1; rw [List.mem_singleton.mp hc]; exact h.2.2
  | whl f a => intro c hc; rw [List.mem_singleton.mp hc]; exact h.2
  | set x f => exact fun _ h => nomatch h
  | tell f => exact fun _ h => nomatch h
  | skip => exact fun _ h => nomatch h
theorem parts_nest {r : Rw} : ∀ b ∈ r.parts, nests b + 1 ≤ r.nest := by
  cases r with
  | ite f a b =>
    intro c hc
    show nests c + 1 ≤ 1 + max (nests a) (nests b)
    rcases List.mem_cons.mp hc with rfl | hc
    · omega
    · rw [List.mem_singleton.mp hc]; omega
  | whl f a => intro c hc; rw [List.mem_singleton.mp hc]; show nests a + 1 ≤ 1 + nests a; omega
  | set x f => exact fun _ h => nomatch h
  | tell f => exact fun _ h => nomatch h
  | skip => exact fun _ h => nomatch h
theorem parts_size {r : Rw} : r.size = 1 + (r.parts.map szs).sum := by
  cases r with
  | ite f a b => show 1 + (szs a + szs b) = 1 + (szs a + (szs b + 0)); omega
  | whl f a => show 1 + szs a = 1 + (szs a + 0); omega
  | set x f => rfl
  | tell f => rfl
  | skip => rfl
theorem parts_len {r : Rw} : r.parts.length ≤ 2 := by cases r <;> simp [Rw.parts]
theorem part_size {r : Rw} {b : List Rw} (h : b ∈ r.parts) : szs b ≤ r.size := by
  rw [parts_size]
  have : szs b ≤ (r.parts.map szs).sum := by
    have m : szs b ∈ r.parts.map szs := List.mem_map.mpr ⟨b, h, rfl⟩
    revert m
    generalize r.parts.map szs = l
    intro m
    induction l with
    | nil => exact nomatch m
    | cons x r ih =>
      rw [List.sum_cons]
      rcases List.mem_cons.mp m with e | m
      · omega
      · have := ih m; omega
  omega
theorem fm_ok {ns : List Str} {r : Rw} {f : Fm} (h : r.ok ns) (e : r.fm = some f) : f.fine ns := by
  cases r with
  | ite g a b => rw [← Option.some.inj e]; exact h.1
  | whl g a => rw [← Option.some.inj e]; exact h.1
  | set x g => rw [← Option.some.inj e]; exact h.2
  | tell g => rw [← Option.some.inj e]; exact h
  | skip => exact nomatch e
/-- a row's things -/
theorem RwAt.head {K : PySem.W.Frag} {S : SQ} {H : Hp} {v : V} {r : Rw} (h : RwAt K S H v r) : ∃ a xs, v = .ref a ∧ SqT K H a (.str r.word :: xs) ∧ ((xs.length : Int) + 1 = r.things) := by
  cases h <;> exact ⟨_, _, rfl, ‹_›, rfl⟩
mutual
theorem RwAt.dpE {K : PySem.W.Frag} {H : Hp} {ns : List Str} (hn : ∀ x ∈ ns, Nm x) : ∀ {v : V} {r : Rw}, RwAt K (SE K) H v r → r.ok ns → ∃ d ds, Dp K H v (.tuple (d :: ds)) ∧ Dk (.tuple (d :: ds)) (2 * r.nest + 11)
  | _, _, .set h hf, ho => ⟨_, _, .tup h (.cons (.str _) (.cons (.str _) (.cons hf.dp .nil))), (Rw.dk hn tupD (r := .set _ _) ho)⟩
  | _, _, .tell h hf, ho => ⟨_, _, .tup h (.cons (.str _) (.cons hf.dp .nil)), (Rw.dk hn tupD (r := .tell _) ho)⟩
  | _, _, .skip h, ho => ⟨_, _, .tup h (.cons (.str _) .nil), (Rw.dk hn tupD (r := .skip) ho)⟩
  | _, _, .ite (b := b) (c := c) h hf hp hb hq hc, ho => by
    obtain ⟨d1, e1, k1⟩ := SEdp hn hp hb ho.2.1
    obtain ⟨d2, e2, k2⟩ := SEdp hn hq hc ho.2.2
    refine ⟨_, _, .tup h (.cons (.str _) (.cons hf.dp (.cons e1 (.cons e2 .nil)))), ?_⟩
    show Dk _ (2 * (1 + max (nests b) (nests c)) + 11)
    exact (Dk.tup (k := 2 * max (nests b) (nests c) + 12) (dk_cons (Dk.str if_ok) (dk_cons ((Fm.dk hn ho.1.1).mono (Nat.le_trans ho.1.2 (by omega))) (dk_cons (k1.mono (by omega)) (dk_cons (k2.mono (by omega)) dk_nil))))).mono (by omega)
  | _, _, .whl (b := b) h hf hp hb, ho => by
    obtain ⟨d1, e1, k1⟩ := SEdp hn hp hb ho.2
    refine ⟨_, _, .tup h (.cons (.str _) (.cons hf.dp (.cons e1 .nil))), ?_⟩
    show Dk _ (2 * (1 + nests b) + 11)
    exact (Dk.tup (k := 2 * nests b + 12) (dk_cons (Dk.str while_ok) (dk_cons ((Fm.dk hn ho.1.1).mono (Nat.le_trans ho.1.2 (by omega))) (dk_cons (k1.mono (by omega)) dk_nil)))).mono (by omega)
theorem SEdp {K : PySem.W.Frag} {H : Hp} {ns : List Str} (hn : ∀ x ∈ ns, Nm x) {a : Addr} {xs : List V} {b : List Rw} (hs : SE K H a xs) (hb : BkAt K (SE K) H xs b) (ho : oks ns b) : ∃ d, Dp K H (.ref a) d ∧ Dk d (2 * nests b + 12) := by
  obtain ⟨ds, e, k⟩ := BkAt.dpE hn hb ho
  rcases hs with h | h
  · exact ⟨_, .lst h e, Dk.list k⟩
  · exact ⟨_, .tup h e, Dk.tup k⟩
theorem BkAt.dpE {K : PySem.W.Frag} {H : Hp} {ns : List Str} (hn : ∀ x ∈ ns, Nm x) : ∀ {vs : List V} {l : List Rw}, BkAt K (SE K) H vs l → oks ns l → ∃ ds, DpAll K H vs ds ∧ ∀ d ∈ ds, Dk d (2 * nests l + 11)
  | _, _, .nil, _ => ⟨[], .nil, dk_nil⟩
  | _, _, .cons (r := r) (l := l) h t, ho => by
    obtain ⟨d, dt, e, k⟩ := RwAt.dpE hn h ho.1
    obtain ⟨ds, e2, k2⟩ := BkAt.dpE hn t ho.2
    have q : nests (r :: l) = max r.nest (nests l) := rfl
    exact ⟨.tuple (d :: dt) :: ds, .cons e e2, dk_cons (k.mono (by omega)) fun x hx => (k2 x hx).mono (by omega)⟩
end
def sp_things_of (K : PySem.W.Frag) : Sp := fun vs H Q _ => ∃ r : Rw, vs = [.str r.word] ∧ Q (.int r.things) H
def sp_formula_of (K : PySem.W.Frag) : Sp := fun vs H Q _ => ∃ (v : V) (r : Rw), vs = [v] ∧ RwAt K (SE K) H v r ∧ ∀ u, FoAt K H u r.fm → Q u H
def sp_blocks_of (K : PySem.W.Frag) : Sp := fun vs H Q _ => ∃ (v : V) (r : Rw) (S : SQ), vs = [v] ∧ RwAt K S H v r ∧ ∀ (p : Addr) (H' : Hp) (ws : List V), Same H H' → H p = none → H' p = some (.lst ws) → BlksAt K S H ws r.parts → Q (.ref p) H'
def sp_need_form (K : PySem.W.Frag) : Sp := fun vs H Q _ => ∃ (v : V) (r : Rw) (ns : List Str), vs = [v] ∧ RwAt K (SE K) H v r ∧ r.ok ns ∧ (∀ x ∈ ns, Nm x) ∧ r.nest ≤ 20 ∧ ∀ H', Same H H' → Q .non H'
def sp_need_row (K : PySem.W.Frag) (n : Nat) : Sp := fun vs H Q _ => ∃ (v : V) (r : Rw) (ns : List Str) (d : Int), vs = [v, .int d] ∧ RwAt K (SE K) H v r ∧ r.ok ns ∧ (∀ x ∈ ns, Nm x) ∧ r.nest ≤ n ∧ (r.nest : Int) + d ≤ 9 ∧ 1 ≤ d ∧ r.size ≤ 100000 ∧
  ∀ (u : V) (H' : Hp), Same H H' → RwAt K (SqT K) H' u r → Q u H'
def sp_need_block (K : PySem.W.Frag) (n : Nat) : Sp := fun vs H Q _ => ∃ (a : Addr) (xs : List V) (b : List Rw) (ns : List Str) (d : Int), vs = [.ref a, .int d] ∧ SE K H a xs ∧ BkAt K (SE K) H xs b ∧ oks ns b ∧ (∀ x ∈ ns, Nm x) ∧ nests b ≤ n ∧ (nests b : Int) + d ≤ 9 ∧ 1 ≤ d ∧ szs b ≤ 100000 ∧
  ∀ (p : Addr) (H' : Hp) (ys : List V), Same H H' → SqT K H' p ys → BkAt K (SqT K) H' ys b → Q (.ref p) H'
def sp_need_names (K : PySem.W.Frag) : Sp := fun vs H Q _ => ∃ (a t : Addr) (ns ts : List Str), vs = [.ref a, .ref t] ∧ SE K H a (ns.map V.str) ∧ SqL K H t (ts.map V.str) ∧ (∀ x ∈ ns, Nm x) ∧ ns.Nodup ∧ (∀ x ∈ ns, x ∉ ts) ∧ ns.length ≤ 1000 ∧
  ∀ (p : Addr) (H' : Hp), Same H H' → H p = none → H' p = some (.lst (ns.map V.str)) → Q (.ref p) H'
def sp_size_of (K : PySem.W.Frag) (n : Nat) : Sp := fun vs H Q _ => ∃ (v : V) (r : Rw), vs = [v] ∧ RwAt K (SE K) H v r ∧ r.nest ≤ n ∧ r.size ≤ 100000 ∧ ∀ H', Same H H' → Q (.int (r.size : Nat)) H'
def sp_many_in (K : PySem.W.Frag) (n : Nat) : Sp := fun vs H Q _ => ∃ (a : Addr) (xs : List V) (b : List Rw), vs = [.ref a] ∧ SE K H a xs ∧ BkAt K (SE K) H xs b ∧ nests b ≤ n ∧ szs b ≤ 100000 ∧ ∀ H', Same H H' → Q (.int (szs b : Nat)) H'
abbrev N_things_of : List Str := ["word"]
def t_things_of_j1 (K : PySem.W.Frag) : TS :=
  (tSeq (tIfS (tTest (tOp (rEq2 K) (tVar 0) (tC (.str "if")))) (tRet (tC (.int 4))) tNext) (tRet (tC (.int 0))))
def t_things_of (K : PySem.W.Frag) : TS :=
  (tSeq (tIfS (tTest (tOp (rEq2 K) (tVar 0) (tC (.str "skip")))) (tRet (tC (.int 1))) tNext) (tSeq (tIfS (tTest (tOp (rEq2 K) (tVar 0) (tC (.str "tell")))) (tRet (tC (.int 2))) tNext) (tSeq (tIfS (tOr (tTest (tOp (rEq2 K) (tVar 0) (tC (.str "set")))) (tTest (tOp (rEq2 K) (tVar 0) (tC (.str "while"))))) (tRet (tC (.int 3))) tNext) (t_things_of_j1 K))))
abbrev N_formula_of : List Str := ["row"]
def t_formula_of (K : PySem.W.Frag) : TS :=
  (tSeq (tIfS (tTest (tOp (rEq2 K) (tOp (rIx K) (tVar 0) (tC (.int 0))) (tC (.str "skip")))) (tRet (tC .non)) tNext) (tSeq (tIfS (tTest (tOp (rEq2 K) (tOp (rIx K) (tVar 0) (tC (.int 0))) (tC (.str "set")))) (tRet (tOp (rIx K) (tVar 0) (tC (.int 2)))) tNext) (tRet (tOp (rIx K) (tVar 0) (tC (.int 1))))))
abbrev N_blocks_of : List Str := ["row"]
def t_blocks_of (K : PySem.W.Frag) : TS :=
  (tSeq (tIfS (tTest (tOp (rEq2 K) (tOp (rIx K) (tVar 0) (tC (.int 0))) (tC (.str "if")))) (tRet (tLst (tCons (tOp (rIx K) (tVar 0) (tC (.int 2))) (tCons (tOp (rIx K) (tVar 0) (tC (.int 3))) tNil)))) tNext) (tSeq (tIfS (tTest (tOp (rEq2 K) (tOp (rIx K) (tVar 0) (tC (.int 0))) (tC (.str "while")))) (tRet (tLst (tCons (tOp (rIx K) (tVar 0) (tC (.int 2))) tNil))) tNext) (tRet (tLst tNil))))
abbrev N_need_form : List Str := ["row", "block"]
def t_need_form_j1 (K : PySem.W.Frag) : TS :=
  (tFor (iSeq K (tF (sp_blocks_of K) (tCons (tVar 0) tNil))) (gName 1) (tIfS (tNot (tB (tF (sp_is_list K) (tCons (tVar 1) tNil)))) tNever tNext))
def t_need_form_j2 (K : PySem.W.Frag) : TS :=
  (tSeq (tIfS (tTest (tOp (rNe2 K) (tF (sp_things_of K) (tCons (tOp (rIx K) (tVar 0) (tC (.int 0))) tNil)) (tCB (rLenA K) (tCons (tVar 0) tNil)))) tNever tNext) (tSeq (tIfS (tAnd (tTest (tOp (rEq2 K) (tOp (rIx K) (tVar 0) (tC (.int 0))) (tC (.str "set")))) (tNot (tB (tF (sp_is_name K) (tCons (tOp (rIx K) (tVar 0) (tC (.int 1))) tNil))))) tNever tNext) (t_need_form_j1 K)))
def t_need_form (K : PySem.W.Frag) : TS :=
  (tSeq (tIfS (tOr (tNot (tB (tCB (rIsi2 K) (tCons (tVar 0) (tCons (tC (.ty "tuple")) tNil))))) (tOr (tTest (tOp (rEq2 K) (tVar 0) (tTup tNil))) (tNot (tB (tCB (rIsi2 K) (tCons (tOp (rIx K) (tVar 0) (tC (.int 0))) (tCons (tC (.ty "str")) tNil))))))) tNever tNext) (t_need_form_j2 K))
abbrev N_need_row : List Str := ["row", "deep", "blocks", "block"]
def t_need_row_j1 (K : PySem.W.Frag) (n : Nat) : TS :=
  (tRet (tVar 0))
def t_need_row_j2 (K : PySem.W.Frag) (n : Nat) : TS :=
  (tSeq (tAsg (tLc (iSeq K (tF (sp_blocks_of K) (tCons (tVar 0) tNil))) (gName 3) tYes (tF (sp_need_block K n) (tCons (tVar 3) (tCons (tOp (rAdd K) (tVar 1) (tC (.int 1))) tNil))) [3]) (gName 2)) (tSeq (tIfS (tOr (tTest (tOp (rEq2 K) (tOp (rIx K) (tVar 0) (tC (.int 0))) (tC (.str "if")))) (tTest (tOp (rEq2 K) (tOp (rIx K) (tVar 0) (tC (.int 0))) (tC (.str "while"))))) (tRet (tOp (rAdd K) (tTup (tCons (tOp (rIx K) (tVar 0) (tC (.int 0))) (tCons (tOp (rIx K) (tVar 0) (tC (.int 1))) tNil))) (tCB (rTupO K) (tCons (tVar 2) tNil)))) tNext) (t_need_row_j1 K n)))
def t_need_row (K : PySem.W.Frag) (n : Nat) : TS :=
  (tSeq (tDrop (tF (sp_need_form K) (tCons (tVar 0) tNil))) (tSeq (tIfS (tTest (tOp rGt (tVar 1) (tC (.int 8)))) tNever tNext) (tSeq (tIfS (tTest (tOp (rNe2 K) (tOp (rIx K) (tVar 0) (tC (.int 0))) (tC (.str "skip")))) (tDrop (tF (sp_need_formula K 18) (tCons (tF (sp_formula_of K) (tCons (tVar 0) tNil)) (tCons (tC (.int 12)) tNil)))) tNext) (t_need_row_j2 K n))))
abbrev N_need_block : List Str := ["block", "deep", "row"]
def t_need_block (K : PySem.W.Frag) (n : Nat) : TS :=
  (tSeq (tIfS (tNot (tB (tF (sp_is_list K) (tCons (tVar 0) tNil)))) tNever tNext) (tRet (tCB (rTupO K) (tCons (tLc (iSeq K (tVar 0)) (gName 2) tYes (tF (sp_need_row K n) (tCons (tVar 2) (tCons (tVar 1) tNil))) [2]) tNil))))
abbrev N_need_names : List Str := ["names", "told", "found", "name"]
def t_need_names_j1 (K : PySem.W.Frag) : TS :=
  (tDrop (tBM K "list" rAppend (tVar 2) (tCons (tVar 3) tNil)))
def t_need_names (K : PySem.W.Frag) : TS :=
  (tSeq (tIfS (tNot (tB (tF (sp_is_list K) (tCons (tVar 0) tNil)))) tNever tNext) (tSeq (tAsg (tLst tNil) (gName 2)) (tSeq (tFor (iSeq K (tVar 0)) (gName 3) (tSeq (tIfS (tNot (tB (tF (sp_is_name K) (tCons (tVar 3) tNil)))) tNever tNext) (tSeq (tIfS (tOr (tTest (tOp (rIn2 K false) (tVar 3) (tVar 1))) (tTest (tOp (rIn2 K false) (tVar 3) (tVar 2)))) tNever tNext) (t_need_names_j1 K)))) (tRet (tVar 2)))))
abbrev N_size_of : List Str := ["row", "block"]
def t_size_of (K : PySem.W.Frag) (n : Nat) : TS :=
  (tRet (tOp (rAdd K) (tC (.int 1)) (tCB (rSum K) (tCons (tLc (iSeq K (tF (sp_blocks_of K) (tCons (tVar 0) tNil))) (gName 1) tYes (tF (sp_many_in K n) (tCons (tVar 1) tNil)) [1]) tNil))))
abbrev N_many_in : List Str := ["block", "row"]
def t_many_in (K : PySem.W.Frag) (n : Nat) : TS :=
  (tRet (tCB (rSum K) (tCons (tLc (iSeq K (tVar 0)) (gName 1) tYes (tF (sp_size_of K n) (tCons (tVar 1) tNil)) [1]) tNil)))
theorem at0 {x : V} {xs : List V} : atI (x :: xs) 0 = some x := atI_nat (j := 0) rfl
theorem pure_things_of (K : PySem.W.Frag) (vs : List V) (H : Hp) (Q : VK) (E : XK) (h : sp_things_of K vs H Q E) :
    t_things_of K { nx := fun _ H' => Q .non H', rt := Q } (start N_things_of vs) H := by
  obtain ⟨r, rfl, q⟩ := h
  unfold t_things_of
  cases r with
  | set x f => simp only [Rw.word]; walk_at "go"; exact q
  | tell f => simp only [Rw.word]; walk_at "go"; exact q
  | skip => simp only [Rw.word]; walk_at "go"; exact q
  | ite f a b => simp only [Rw.word]; walk_at "go"; unfold t_things_of_j1; walk_at "go"; exact q
  | whl f a => simp only [Rw.word]; walk_at "go"; exact q
theorem pure_formula_of (K : PySem.W.Frag) (vs : List V) (H : Hp) (Q : VK) (E : XK) (h : sp_formula_of K vs H Q E) :
    t_formula_of K { nx := fun _ H' => Q .non H', rt := Q } (start N_formula_of vs) H := by
  obtain ⟨v, r, rfl, hr, q⟩ := h
  unfold t_formula_of
  cases hr with
  | set h hf => walk_at "go"; exact q _ hf
  | tell h hf => walk_at "go"; exact q _ hf
  | skip h => walk_at "go"; exact q _ rfl
  | ite h hf _ _ _ _ => walk_at "go"; exact q _ hf
  | whl h hf _ _ => walk_at "go"; exact q _ hf
theorem pure_blocks_of (K : PySem.W.Frag) (vs : List V) (H : Hp) (Q : VK) (E : XK) (h : sp_blocks_of K vs H Q E) :
    t_blocks_of K { nx := fun _ H' => Q .non H', rt := Q } (start N_blocks_of vs) H := by
  obtain ⟨v, r, S, rfl, hr, q⟩ := h
  unfold t_blocks_of
  cases hr with
  | set h hf => walk_at "go"; exact w_new (by walk_at "sz") fun p hp => q p _ _ (same_new hp) hp upd_same .nil
  | tell h hf => walk_at "go"; exact w_new (by walk_at "sz") fun p hp => q p _ _ (same_new hp) hp upd_same .nil
  | skip h => walk_at "go"; exact w_new (by walk_at "sz") fun p hp => q p _ _ (same_new hp) hp upd_same .nil
  | ite h hf hp hb hq hc => walk_at "go"; exact w_new (by walk_at "sz") fun p hp0 => q p _ _ (same_new hp0) hp0 upd_same (.cons hp hb (.cons hq hc .nil))
  | whl h hf hp hb => walk_at "go"; exact w_new (by walk_at "sz") fun p hp0 => q p _ _ (same_new hp0) hp0 upd_same (.cons hp hb .nil)
theorem pure_need_form (K : PySem.W.Frag) (vs : List V) (H : Hp) (Q : VK) (E : XK) (h : sp_need_form K vs H Q E) :
    t_need_form K { nx := fun _ H' => Q .non H', rt := Q } (start N_need_form vs) H := by
  obtain ⟨v, r, ns, rfl, hr, ho, hN, hn, q⟩ := h
  obtain ⟨d, ds, hd, hk⟩ := RwAt.dpE hN hr ho
  obtain ⟨a, xs, rfl, hs, hlen⟩ := hr.head
  have j1 : ∀ H1, Same H H1 → t_need_form_j1 K { nx := fun _ H' => Q .non H', rt := Q } [some (.ref a), none] H1 := by
    intro H1 e1
    unfold t_need_form_j1
    walk_at "go"
    refine ⟨_, r, _, rfl, hr.monoE e1, fun p H2 ws e2 hp hp2 hb => ?_⟩
    refine w_isL (SqL.of hp2) ?_
    refine for_list (xs := ws) (fun i σ H' => Same H2 H' ∧ ∃ w, σ = [some (.ref a), w]) ⟨Same.refl _, _, rfl⟩ (fun i σ H' _ h => SqL.of (h.1 p _ hp2)) ?_ ?_
    · rintro i x σ H' hx ⟨e3, w, rfl⟩
      obtain ⟨b, q', ys, _, rfl, hs', _⟩ := hb.get hx
      walk_at "go"
      refine ⟨q', ys, rfl, se_same (e2.trans e3) hs', fun H4 e4 => ?_⟩
      walk_at "go"
      exact ⟨e3.trans e4, _, rfl⟩
    · rintro σ H' ⟨e3, w, rfl⟩
      exact q _ (e1.trans (e2.trans e3))
  have j2 : ∀ H1, Same H H1 → t_need_form_j2 K { nx := fun _ H' => Q .non H', rt := Q } [some (.ref a), none] H1 := by
    intro H1 e1
    unfold t_need_form_j2
    have hs1 := same_t e1 hs
    walk_at "go"
    refine w_ixT hs1 at0 ?_
    walk_at "go"
    refine ⟨r, rfl, ?_⟩
    walk_at "go"
    refine w_no (show (!decide (r.things = (((V.str r.word :: xs).length : Nat) : Int))) = false by rw [List.length_cons, ← hlen]; simp) ?_
    have hr1 := hr.monoE e1
    have jj := j1 H1 e1
    cases r with
    | set x f =>
      cases hr1 with
      | set h1 hf =>
        simp only [Rw.word]
        walk_at "go"
        have nm := hN x ho.1
        refine ⟨x, rfl, sz (by rw [cs_len]; have := nm.most; omega), ?_⟩
        rw [nm_iff.mpr nm]
        walk_at "go"
        exact jj
    | tell f => walk_at "go"; refine w_ixT hs1 at0 ?_; simp only [Rw.word]; walk_at "go"; exact jj
    | skip => walk_at "go"; refine w_ixT hs1 at0 ?_; simp only [Rw.word]; walk_at "go"; exact jj
    | ite f a b => walk_at "go"; refine w_ixT hs1 at0 ?_; simp only [Rw.word]; walk_at "go"; exact jj
    | whl f a => walk_at "go"; refine w_ixT hs1 at0 ?_; simp only [Rw.word]; walk_at "go"; exact jj
  unfold t_need_form
  walk_at "go"
  refine w_isi (tyx_t hs) rfl ?_
  walk_at "go"
  refine w_new (by walk_at "sz") (fun p hp => ?_)
  have hd1 : ∀ {H1 : Hp}, Same H H1 → ∃ d ds, Dp K H1 (.ref a) (.tuple (d :: ds)) ∧ Dk (.tuple (d :: ds)) (2 * r.nest + 11) := fun e => RwAt.dpE hN (hr.monoE e) ho
  obtain ⟨d, ds, hd, hk⟩ := hd1 (same_new (o := .tup []) hp)
  refine w_eqD hd (.tup (SqT.of upd_same) .nil) (hk.shaped (by omega)) ((Dk.tup (k := 0) dk_nil).shaped (by decide)) ?_
  rw [show PyData.eqv (.tuple (d :: ds)) (.tuple []) = false from rfl]
  have hs2 := same_t (same_new (o := .tup []) hp) hs
  walk_at "go"
  refine w_ixT hs2 at0 ?_
  walk_at "go"
  refine w_isi (.base (.str _)) rfl ?_
  walk_at "go"
  exact j2 _ (same_new hp)
theorem w_addTup {K : PySem.W.Frag} {H : Hp} {Q : VK} {a b : Addr} {xs ys : List V} (ha : SqT K H a xs) (hb : SqT K H b ys) (hx : xs ≠ []) (hy : ys ≠ []) (z : xs.length + ys.length ≤ sizeLine) (q : ∀ p, H p = none → Q (.ref p) (upd H p (.tup (xs ++ ys)))) : rAdd K (.ref a) (.ref b) H Q :=
  .inr (.inr (.inr ⟨a, b, xs, ys, rfl, rfl, ha, hb, z, fun e => absurd e hx, fun _ e => absurd e hy, fun _ _ => q⟩))
theorem no_need_row {K : PySem.W.Frag} : ∀ vs H Q E, ¬ sp_need_row K 0 vs H Q E := by
  rintro vs H Q E ⟨v, r, _, _, _, _, _, _, h, _⟩
  have := nest_pos r
  omega
theorem pure_need_row (K : PySem.W.Frag) (n : Nat) (vs : List V) (H : Hp) (Q : VK) (E : XK) (h : sp_need_row K (n + 1) vs H Q E) :
    t_need_row K n { nx := fun _ H' => Q .non H', rt := Q } (start N_need_row vs) H := by
  obtain ⟨v, r, ns, d, rfl, hr, ho, hN, hn, hd, d1, hz, q⟩ := h
  obtain ⟨a, xs, rfl, hs, hlen⟩ := hr.head
  have rp := nest_pos r
  have j2 : ∀ H1, Same H H1 → t_need_row_j2 K n { nx := fun _ H' => Q .non H', rt := Q } [some (.ref a), some (.int d), none, none] H1 := by
    intro H1 e1
    unfold t_need_row_j2
    walk_at "go"
    refine w_lc ?_
    walk_at "go"
    refine ⟨_, r, _, rfl, hr.monoE e1, fun p H2 ws e2 hp hp2 hb => ?_⟩
    have wl : ws.length ≤ 2 := by rw [hb.len]; exact parts_len
    refine lc_se (xs := ws) (fun i y H' => ∃ b t ys, r.parts[i]? = some b ∧ y = .ref t ∧ SqT K H' t ys ∧ BkAt K (SqT K) H' ys b) (.inl (SqL.of hp2)) (by omega) (fun i y H1 H2 ⟨b, t, ys, h1, h2, h3, h4⟩ s => ⟨b, t, ys, h1, h2, sameT_t s h3, h4.monoT s⟩) ?_ ?_
    · rintro D i x H3 Nx hx e3 ⟨zs, hzs⟩ k
      obtain ⟨b, t, ys, hb1, rfl, hs1, hk1⟩ := hb.get hx
      have bm : b ∈ r.parts := List.mem_of_getElem? hb1
      have pn := parts_nest b bm
      have ps := part_size bm
      have e23 := e2.trans e3
      refine ⟨rfl, ?_⟩
      walk_at "go"
      refine ⟨t, ys, b, ns, _, rfl, se_same e23 hs1, hk1.monoE e23, parts_ok ho b bm, hN, by omega, by omega, by omega, by omega, fun u H4 us e4 hu hbu => ?_⟩
      exact k _ H4 e4 ⟨b, u, us, hb1, rfl, hu, hbu⟩
    · intro D H3 ys e3 hD hD3 hyl hR
      have e13 := e1.trans (e2.trans e3)
      have hs3 := same_t e13 hs
      have hr3 := hr.monoE e13
      rw [hb.len] at hyl
      cases r with
      | set x f =>
        cases hr3 with
        | set h1 hf =>
          walk_at "go"
          unfold t_need_row_j1
          walk_at "go"
          exact q _ _ e13 (.set h1 hf)
      | tell f =>
        cases hr3 with
        | tell h1 hf =>
          walk_at "go"
          unfold t_need_row_j1
          walk_at "go"
          exact q _ _ e13 (.tell h1 hf)
      | skip =>
        cases hr3 with
        | skip h1 =>
          walk_at "go"
          unfold t_need_row_j1
          walk_at "go"
          exact q _ _ e13 (.skip h1)
      | ite f b1 b2 =>
        cases hr3 with
        | @ite _ _ _ u _ _ _ _ _ h1 hf hp1 hb1 hp2' hb2 =>
          obtain ⟨y1, y2, rfl⟩ := list_two hyl
          obtain ⟨c1, t1, z1, g1, rfl, s1, k1⟩ := hR 0 _ rfl
          obtain ⟨c2, t2, z2, g2, rfl, s2, k2⟩ := hR 1 _ rfl
          obtain rfl : b1 = c1 := Option.some.inj g1
          obtain rfl : b2 = c2 := Option.some.inj g2
          walk_at "go"
          refine w_new (by walk_at "sz") (fun p4 hp4 => ?_)
          walk_at "go"
          refine w_tupL (SqL.of ((same_new hp4) _ _ hD3)) (fun p5 hp5 => ?_)
          refine w_addTup (same_t (same_new hp5) (SqT.of upd_same)) (SqT.of upd_same) (by simp) (by simp) (sz (by simp)) (fun p6 hp6 => ?_)
          have s6 := (same_new (o := .tup [.ref t1, .ref t2]) hp5).trans (same_new (o := .tup ([V.str "if", u] ++ [.ref t1, .ref t2])) hp6)
          have s7 := (same_new (o := .tup [V.str "if", u]) hp4).trans s6
          exact q _ _ (e13.trans s7) (.ite (SqT.of upd_same) (hf.mono s7) (same_t s7 s1) (k1.monoT (SameT.of s7)) (same_t s7 s2) (k2.monoT (SameT.of s7)))
      | whl f b1 =>
        cases hr3 with
        | @whl _ _ u _ _ _ h1 hf hp1 hb1 =>
          obtain ⟨y1, rfl⟩ := list_one hyl
          obtain ⟨c1, t1, z1, g1, rfl, s1, k1⟩ := hR 0 _ rfl
          obtain rfl : b1 = c1 := Option.some.inj g1
          walk_at "go"
          refine w_new (by walk_at "sz") (fun p4 hp4 => ?_)
          walk_at "go"
          refine w_tupL (SqL.of ((same_new hp4) _ _ hD3)) (fun p5 hp5 => ?_)
          refine w_addTup (same_t (same_new hp5) (SqT.of upd_same)) (SqT.of upd_same) (by simp) (by simp) (sz (by simp)) (fun p6 hp6 => ?_)
          have s6 := (same_new (o := .tup [.ref t1]) hp5).trans (same_new (o := .tup ([V.str "while", u] ++ [.ref t1])) hp6)
          have s7 := (same_new (o := .tup [V.str "while", u]) hp4).trans s6
          exact q _ _ (e13.trans s7) (.whl (SqT.of upd_same) (hf.mono s7) (same_t s7 s1) (k1.monoT (SameT.of s7)))
  unfold t_need_row
  walk_at "go"
  refine ⟨_, r, ns, rfl, hr, ho, hN, by omega, fun H1 e1 => ?_⟩
  have d8 : decide (8 < d) = false := decide_eq_false (by omega)
  have hs1 := same_t e1 hs
  have hr1 := hr.monoE e1
  walk_at "go"
  refine w_ixT hs1 at0 ?_
  have wd : (!decide (r.word = ("skip" : Str))) = r.fm.isSome := by
    cases r with
    | set x f => exact (show (!decide (("set" : Str) = "skip")) = true by decide +kernel)
    | tell f => exact (show (!decide (("tell" : Str) = "skip")) = true by decide +kernel)
    | skip => decide +kernel
    | ite f a b => exact (show (!decide (("if" : Str) = "skip")) = true by decide +kernel)
    | whl f a => exact (show (!decide (("while" : Str) = "skip")) = true by decide +kernel)
  walk_at "go"
  cases hfm : r.fm with
  | none =>
    rw [hfm] at wd
    refine w_no wd ?_
    walk_at "go"
    exact j2 H1 e1
  | some f =>
    rw [hfm] at wd
    refine w_yes wd ?_
    walk_at "go"
    refine ⟨_, r, rfl, hr1, fun u hu => ?_⟩
    rw [hfm] at hu
    have ff := fm_ok ho hfm
    walk_at "go"
    refine ⟨u, f, ns, 12, rfl, hu, ff.1, hN, Nat.le_trans ff.2 (by decide), by have := ff.2; omega, ?_⟩
    exact j2 H1 e1
theorem pure_need_block (K : PySem.W.Frag) (n : Nat) (vs : List V) (H : Hp) (Q : VK) (E : XK) (h : sp_need_block K n vs H Q E) :
    t_need_block K n { nx := fun _ H' => Q .non H', rt := Q } (start N_need_block vs) H := by
  obtain ⟨a, xs, b, ns, d, rfl, hs, hb, ho, hN, hn, hd, d1, hz, q⟩ := h
  unfold t_need_block
  walk_at "go"
  refine ⟨a, xs, rfl, hs, fun H1 e1 => ?_⟩
  walk_at "go"
  refine w_lc ?_
  walk_at "go"
  have bl := szs_len b
  have xl := hb.len
  refine lc_se (xs := xs) (fun i y H' => ∃ r, b[i]? = some r ∧ RwAt K (SqT K) H' y r) (se_same e1 hs) (by omega) (fun i y H1 H2 ⟨r, h1, h2⟩ s => ⟨r, h1, h2.monoT s⟩) ?_ ?_
  · rintro D i x H3 Nx hx e3 ⟨zs, hzs⟩ k
    obtain ⟨r, hr1, hr2⟩ := hb.get hx
    have rm : r ∈ b := List.mem_of_getElem? hr1
    have rn := nest_mem rm
    have rz := sz_mem rm
    refine ⟨rfl, ?_⟩
    walk_at "go"
    refine ⟨x, r, ns, d, rfl, hr2.monoE (e1.trans e3), oks_mem ho r rm, hN, by omega, by omega, d1, by omega, fun u H4 e4 hu => ?_⟩
    exact k _ H4 e4 ⟨r, hr1, hu⟩
  · intro D H3 ys e3 hD hD3 hyl hR
    have all : ∀ {ys : List V} {b : List Rw}, ys.length = b.length → (∀ (i : Nat) y, ys[i]? = some y → ∃ r, b[i]? = some r ∧ RwAt K (SqT K) H3 y r) → BkAt K (SqT K) H3 ys b := by
      intro ys
      induction ys with
      | nil =>
        intro b hl _
        cases b with
        | nil => exact .nil
        | cons _ _ => exact nomatch hl
      | cons y ys ih =>
        intro b hl hR
        cases b with
        | nil => exact nomatch hl
        | cons r b =>
          obtain ⟨r', h1, h2⟩ := hR 0 y rfl
          obtain rfl : r = r' := Option.some.inj h1
          exact .cons h2 (ih (Nat.succ.inj hl) fun i y hy => hR (i + 1) y hy)
    have hball := all (by rw [hyl, xl]) hR
    walk_at "go"
    refine w_tupL (SqL.of hD3) (fun p hp => ?_)
    exact q p _ ys (e1.trans (e3.trans (same_new hp))) (SqT.of upd_same) (hball.monoT (SameT.of (same_new hp)))
theorem pure_need_names (K : PySem.W.Frag) (vs : List V) (H : Hp) (Q : VK) (E : XK) (h : sp_need_names K vs H Q E) :
    t_need_names K { nx := fun _ H' => Q .non H', rt := Q } (start N_need_names vs) H := by
  obtain ⟨a, t, ns, ts, rfl, hs, ht, hN, nd, hd, hl, q⟩ := h
  unfold t_need_names
  walk_at "go"
  refine ⟨a, _, rfl, hs, fun H1 e1 => ?_⟩
  walk_at "go"
  refine w_new (by walk_at "sz") (fun p hp => ?_)
  have e2 := same_new (o := .lst []) hp
  have hp2 : upd H1 p (.lst []) p = _ := upd_same
  have hpH := none_of e1 hp
  generalize upd H1 p (.lst []) = H2 at e2 hp2
  walk_at "go"
  refine for_se (xs := ns.map V.str) (fun i σ H' => Same H1 H' ∧ H' p = some (.lst ((ns.take i).map V.str)) ∧ ∃ w, σ = [some (.ref a), some (.ref t), some (.ref p), w]) (se_same e1 hs) ⟨e2, hp2, _, rfl⟩ (fun i σ H' h => h.1) ?_ ?_
  · rintro i x σ H' hx ⟨e3, hp3, w, rfl⟩
    obtain ⟨y, hy, rfl⟩ : ∃ y, ns[i]? = some y ∧ V.str y = x := by
      rw [List.getElem?_map] at hx
      cases d : ns[i]? with
      | none => rw [d] at hx; exact nomatch hx
      | some y => rw [d] at hx; exact ⟨y, rfl, Option.some.inj hx⟩
    have ym : y ∈ ns := List.mem_of_getElem? hy
    have nm := hN y ym
    have tk : ns.take (i + 1) = ns.take i ++ [y] := by rw [List.take_succ, hy] <;> rfl
    have ny : y ∉ ns.take i := by
      intro c
      have nd2 : (ns.take (i + 1)).Nodup := List.Sublist.nodup (List.take_sublist _ _) nd
      rw [tk, List.nodup_append] at nd2
      exact nd2.2.2 y c y (List.mem_singleton.mpr rfl) rfl
    walk_at "go"
    refine ⟨y, rfl, sz (by rw [cs_len]; have := nm.most; omega), ?_⟩
    rw [nm_iff.mpr nm]
    walk_at "go"
    refine w_inTxt (xs := ts) (same_l (e1.trans e3) ht) ?_
    rw [decide_eq_false (hd y ym)]
    walk_at "go"
    refine w_inTxt (xs := ns.take i) (SqL.of hp3) ?_
    rw [decide_eq_false ny]
    walk_at "go"
    unfold t_need_names_j1
    walk_at "go"
    refine w_app hp3 (Nat.lt_of_le_of_lt (by rw [List.length_map, List.length_take]; omega : _ ≤ 1000) (by decide)) ?_
    exact ⟨same_mut e3 hp, by rw [upd_same, tk, List.map_append] <;> rfl, _, rfl⟩
  · rintro σ H' ⟨e3, hp3, w, rfl⟩
    rw [List.length_map, List.take_length] at hp3
    walk_at "go"
    exact q p H' (e1.trans e3) hpH hp3
theorem sum_cast {α : Type} {f : α → Nat} : ∀ {l : List α}, ((l.map fun x => ((f x : Nat) : Int)).sum) = (((l.map f).sum : Nat) : Int)
  | [] => rfl
  | x :: l => by
    rw [List.map_cons, List.map_cons, List.sum_cons, List.sum_cons, sum_cast (l := l)]
    omega
theorem szs_sum : ∀ b : List Rw, szs b = (b.map Rw.size).sum
  | [] => rfl
  | r :: b => by
    show r.size + szs b = _
    rw [List.map_cons, List.sum_cons, szs_sum b]
theorem eq_map {α : Type} {f : α → V} : ∀ {ys : List V} {xs : List α}, ys.length = xs.length → (∀ (i : Nat) y, ys[i]? = some y → ∃ x, xs[i]? = some x ∧ y = f x) → ys = xs.map f
  | [], [], _, _ => rfl
  | [], _ :: _, h, _ => nomatch h
  | _ :: _, [], h, _ => nomatch h
  | y :: ys, x :: xs, h, hR => by
    obtain ⟨z, h1, h2⟩ := hR 0 y rfl
    obtain rfl : x = z := Option.some.inj h1
    rw [h2, List.map_cons, eq_map (Nat.succ.inj h) fun i y hy => hR (i + 1) y hy]
theorem w_sum {K : PySem.W.Frag} {H : Hp} {Q : VK} {a : Addr} {ns : List Int} (h : SqL K H a (ns.map V.int)) (q : Q (.int ns.sum) H) : rSum K [.ref a] H Q := ⟨a, ns, rfl, h, q⟩
theorem no_size_of {K : PySem.W.Frag} : ∀ vs H Q E, ¬ sp_size_of K 0 vs H Q E := by
  rintro vs H Q E ⟨v, r, _, _, h, _⟩
  have := nest_pos r
  omega
theorem pure_size_of (K : PySem.W.Frag) (n : Nat) (vs : List V) (H : Hp) (Q : VK) (E : XK) (h : sp_size_of K (n + 1) vs H Q E) :
    t_size_of K n { nx := fun _ H' => Q .non H', rt := Q } (start N_size_of vs) H := by
  obtain ⟨v, r, rfl, hr, hn, hz, q⟩ := h
  unfold t_size_of
  walk_at "go"
  refine w_lc ?_
  walk_at "go"
  refine ⟨_, r, _, rfl, hr, fun p H2 ws e2 hp hp2 hb => ?_⟩
  have wl : ws.length ≤ 2 := by rw [hb.len]; exact parts_len
  refine lc_se (xs := ws) (fun i y H' => ∃ b, r.parts[i]? = some b ∧ y = .int (szs b : Nat)) (.inl (SqL.of hp2)) (by omega) (fun i y H1 H2 h _ => h) ?_ ?_
  · rintro D i x H3 Nx hx e3 ⟨zs, hzs⟩ k
    obtain ⟨b, t, ys, hb1, rfl, hs1, hk1⟩ := hb.get hx
    have bm : b ∈ r.parts := List.mem_of_getElem? hb1
    have pn := parts_nest b bm
    have ps := part_size bm
    have e23 := e2.trans e3
    refine ⟨rfl, ?_⟩
    walk_at "go"
    refine ⟨t, ys, b, rfl, se_same e23 hs1, hk1.monoE e23, by omega, by omega, fun H4 e4 => ?_⟩
    exact k _ H4 e4 ⟨b, hb1, rfl⟩
  · intro D H3 ys e3 hD hD3 hyl hR
    rw [hb.len] at hyl
    have hy := eq_map (f := fun b => V.int (szs b : Nat)) hyl hR
    walk_at "go"
    refine w_sum (ns := r.parts.map fun b => ((szs b : Nat) : Int)) (SqL.of (by rw [hD3, hy, List.map_map] <;> rfl)) ?_
    walk_at "go"
    have e : 1 + (r.parts.map fun b => ((szs b : Nat) : Int)).sum = ((r.size : Nat) : Int) := by
      rw [sum_cast (f := szs), parts_size]
      omega
    rw [e]
    exact q _ (e2.trans e3)
theorem pure_many_in (K : PySem.W.Frag) (n : Nat) (vs : List V) (H : Hp) (Q : VK) (E : XK) (h : sp_many_in K n vs H Q E) :
    t_many_in K n { nx := fun _ H' => Q .non H', rt := Q } (start N_many_in vs) H := by
  obtain ⟨a, xs, b, rfl, hs, hb, hn, hz, q⟩ := h
  unfold t_many_in
  have bl := szs_len b
  have xl := hb.len
  walk_at "go"
  refine w_lc ?_
  walk_at "go"
  refine lc_se (xs := xs) (fun i y H' => ∃ r, b[i]? = some r ∧ y = .int (r.size : Nat)) hs (by omega) (fun i y H1 H2 h _ => h) ?_ ?_
  · rintro D i x H3 Nx hx e3 ⟨zs, hzs⟩ k
    obtain ⟨r, hr1, hr2⟩ := hb.get hx
    have rm : r ∈ b := List.mem_of_getElem? hr1
    have rn := nest_mem rm
    have rz := sz_mem rm
    refine ⟨rfl, ?_⟩
    walk_at "go"
    refine ⟨x, r, rfl, hr2.monoE e3, by omega, by omega, fun H4 e4 => ?_⟩
    exact k _ H4 e4 ⟨r, hr1, rfl⟩
  · intro D H3 ys e3 hD hD3 hyl hR
    rw [xl] at hyl
    have hy := eq_map (f := fun r => V.int (r.size : Nat)) hyl hR
    walk_at "go"
    refine w_sum (ns := b.map fun r => ((r.size : Nat) : Int)) (SqL.of (by rw [hD3, hy, List.map_map] <;> rfl)) ?_
    have e : (b.map fun r => ((r.size : Nat) : Int)).sum = ((szs b : Nat) : Int) := by
      rw [sum_cast (f := Rw.size), szs_sum]
    rw [e]
    exact q _ e3
def IsSort (xs ys : List Str) : Prop := sortedS ys = true ∧ ys.Nodup ∧ ∀ y, y ∈ ys ↔ y ∈ xs
noncomputable def sortU (xs : List Str) : List Str := Classical.epsilon (IsSort xs)
theorem sortU_eq {xs ys zs : List Str} (h : IsSort xs ys) (m : ∀ y, y ∈ xs ↔ y ∈ zs) : ys = sortU zs := by
  have h' : IsSort zs ys := ⟨h.1, h.2.1, fun y => (h.2.2 y).trans (m y)⟩
  have e : IsSort zs (sortU zs) := Classical.epsilon_spec (p := IsSort zs) ⟨ys, h'⟩
  exact sort_one h'.1 h'.2.1 e.1 e.2.1 fun z => (h'.2.2 z).trans (e.2.2 z).symm
theorem sortU_is {xs ys : List Str} (h : IsSort xs ys) : IsSort xs (sortU xs) := Classical.epsilon_spec (p := IsSort xs) ⟨ys, h⟩
abbrev as_Program : List Str := ["opened", "hidden", "inner"]
def prF (o h q : Addr) : List (Str × V) := [("opened", .ref o), ("hidden", .ref h), ("inner", .ref q)]
structure PrIn (K : PySem.W.Frag) (H : Hp) (a : Addr) (os ss : List Str) (b : List Rw) (C dx o h q : Addr) (ys : List V) : Prop where
  ha : H a = some (.ins C dx (prF o h q))
  cc : CC K "Program" as_Program C
  ho : H o = some (.lst (os.map V.str))
  hh : H h = some (.lst (ss.map V.str))
  hq : SqT K H q ys
  hb : BkAt K (SqT K) H ys b
def PrAt (K : PySem.W.Frag) (H : Hp) (a : Addr) (os ss : List Str) (b : List Rw) : Prop := ∃ C dx o h q ys, PrIn K H a os ss b C dx o h q ys
theorem PrAt.mono {K : PySem.W.Frag} {H H' : Hp} {a : Addr} {os ss : List Str} {b : List Rw} (e : Same H H') (h : PrAt K H a os ss b) : PrAt K H' a os ss b := by
  obtain ⟨C, dx, o, hh, q, ys, h⟩ := h
  exact ⟨C, dx, o, hh, q, ys, e _ _ h.ha, h.cc, e _ _ h.ho, e _ _ h.hh, same_t e h.hq, h.hb.monoT (SameT.of e)⟩
def sp_Program___init__ (K : PySem.W.Frag) : Sp := fun vs H Q _ => ∃ (p x y z C dx : Addr) (os ss : List Str) (xs : List V) (b : List Rw), vs = [.ref p, .ref x, .ref y, .ref z] ∧ H p = some (.ins C dx []) ∧ CC K "Program" as_Program C ∧
  SE K H x (os.map V.str) ∧ SE K H y (ss.map V.str) ∧ SE K H z xs ∧ BkAt K (SE K) H xs b ∧ (∃ ns, oks ns b ∧ ∀ x ∈ ns, Nm x) ∧ (∀ x ∈ os ++ ss, Nm x) ∧ (os ++ ss).Nodup ∧ os.length ≤ 1000 ∧ ss.length ≤ 1000 ∧ nests b ≤ 8 ∧ szs b ≤ 100000 ∧
  ∀ (H' : Hp), SameX p H H' → PrAt K H' p os ss b → Q .non H'
def sp_Program_block (K : PySem.W.Frag) : Sp := fun vs H Q _ => ∃ (a : Addr) (os ss : List Str) (b : List Rw), vs = [.ref a] ∧ PrAt K H a os ss b ∧ ∀ q ys, SqT K H q ys → BkAt K (SqT K) H ys b → Q (.ref q) H
abbrev N_Program___init__ : List Str := ["self", "opens", "secrets", "block"]
def t_Program___init__ (K : PySem.W.Frag) : TS :=
  (tSeq (sFld K (tVar 0) (tF (sp_need_names K) (tCons (tVar 1) (tCons (tLst tNil) tNil))) "opened") (tSeq (sFld K (tVar 0) (tF (sp_need_names K) (tCons (tVar 2) (tCons (tFld K (tVar 0) "opened") tNil))) "hidden") (sFld K (tVar 0) (tF (sp_need_block K 8) (tCons (tVar 3) (tCons (tC (.int 1)) tNil))) "inner")))
abbrev N_Program_block : List Str := ["self"]
def t_Program_block (K : PySem.W.Frag) : TS :=
  (tRet (tFld K (tVar 0) "inner"))
theorem se_ins {K : PySem.W.Frag} {H : Hp} {p C dx : Addr} {fs : List (Str × V)} {o : HO} (h : H p = some (.ins C dx fs)) {a : Addr} {xs : List V} (s : SE K H a xs) : SE K (upd H p o) a xs := by
  have ne : ∀ {u : HO}, H a = some u → (∀ C dx fs, u ≠ .ins C dx fs) → a ≠ p := fun hu hn e => by
    rw [e, h] at hu
    exact hn _ _ _ (Option.some.inj hu).symm
  rcases s with ((s | ⟨u, s⟩) | s) | ((s | ⟨u, s⟩) | s)
  · exact .inl (.inl (.inl ((upd_ne (ne s (fun _ _ _ e => nomatch e))).trans s)))
  · exact .inl (.inl (.inr ⟨u, (upd_ne (ne s (fun _ _ _ e => nomatch e))).trans s⟩))
  · exact .inl (.inr s)
  · exact .inr (.inl (.inl ((upd_ne (ne s (fun _ _ _ e => nomatch e))).trans s)))
  · exact .inr (.inl (.inr ⟨u, (upd_ne (ne s (fun _ _ _ e => nomatch e))).trans s⟩))
  · exact .inr (.inr s)
theorem put1 {v : V} : putF "opened" v [] = ([("opened", v)] : List (Str × V)) := rfl
theorem put2 {u v : V} : putF "hidden" v ([("opened", u)] : List (Str × V)) = ([("opened", u), ("hidden", v)] : List (Str × V)) := rfl
theorem put3 {u w v : V} : putF "inner" v ([("opened", u), ("hidden", w)] : List (Str × V)) = ([("opened", u), ("hidden", w), ("inner", v)] : List (Str × V)) := rfl
theorem pure_Program___init__ (K : PySem.W.Frag) (vs : List V) (H : Hp) (Q : VK) (E : XK) (h : sp_Program___init__ K vs H Q E) :
    t_Program___init__ K { nx := fun _ H' => Q .non H', rt := Q } (start N_Program___init__ vs) H := by
  obtain ⟨p, x, y, z, C, dx, os, ss, xs, b, rfl, hp, cc, hx, hy, hz, hb, ⟨ns, ho, hN⟩, hNm, nd, lo, ls, hn, hsz, q⟩ := h
  obtain ⟨nd1, nd2, nd3⟩ := List.nodup_append.mp nd
  unfold t_Program___init__
  walk_at "go"
  refine w_new (by walk_at "sz") (fun t0 ht0 => ?_)
  have e1 := same_new (o := .lst []) ht0
  refine ⟨x, t0, os, [], rfl, se_same e1 hx, SqL.of upd_same, (fun x hx => hNm x (List.mem_append_left _ hx)), nd1, (fun x _ => List.not_mem_nil), lo, fun o H2 e2 no ho2 => ?_⟩
  have e12 := e1.trans e2
  have po : p ≠ o := ne_of_none (e1 _ _ hp) no
  have hp2 := e12 _ _ hp
  walk_at "go"
  refine w_sfldAt hp2 cc (by simp) (by simp) ?_
  rw [put1]
  have h3p : upd H2 p (.ins C dx [("opened", .ref o)]) p = _ := upd_same
  have h3o : upd H2 p (.ins C dx [("opened", .ref o)]) o = _ := (upd_ne po.symm).trans ho2
  have x3 : SameX p H (upd H2 p (.ins C dx [("opened", .ref o)])) := fun a u na ha => by rw [upd_ne na]; exact e12 a u ha
  have y3 := se_ins (o := .ins C dx [("opened", .ref o)]) hp2 (se_same e12 hy)
  have z3 := se_ins (o := .ins C dx [("opened", .ref o)]) hp2 (se_same e12 hz)
  have b3 := (hb.monoE e12).go (S' := SE K) (SameT.upd (o' := .ins C dx [("opened", .ref o)]) hp2 rfl) (fun _ _ => se_ins hp2)
  generalize upd H2 p (.ins C dx [("opened", .ref o)]) = H3 at h3p h3o x3 y3 z3 b3
  walk_at "go"
  refine w_fldAt h3p cc (by simp) rfl ?_
  walk_at "go"
  refine ⟨y, o, ss, os, rfl, y3, SqL.of h3o, (fun x hx => hNm x (List.mem_append_right _ hx)), nd2, (fun x hx hxo => nd3 x hxo x hx rfl), ls, fun h' H4 e4 nh hh4 => ?_⟩
  have ph : p ≠ h' := ne_of_none h3p nh
  have oh : o ≠ h' := ne_of_none h3o nh
  have hp4 := e4 _ _ h3p
  walk_at "go"
  refine w_sfldAt hp4 cc (by simp) (by simp) ?_
  rw [put2]
  have h5p : upd H4 p (.ins C dx [("opened", .ref o), ("hidden", .ref h')]) p = _ := upd_same
  have h5o : upd H4 p (.ins C dx [("opened", .ref o), ("hidden", .ref h')]) o = _ := (upd_ne po.symm).trans (e4 _ _ h3o)
  have h5h : upd H4 p (.ins C dx [("opened", .ref o), ("hidden", .ref h')]) h' = _ := (upd_ne ph.symm).trans hh4
  have x5 : SameX p H (upd H4 p (.ins C dx [("opened", .ref o), ("hidden", .ref h')])) := fun a u na ha => by rw [upd_ne na]; exact e4 a u (x3 a u na ha)
  have z5 := se_ins (o := .ins C dx [("opened", .ref o), ("hidden", .ref h')]) hp4 (se_same e4 z3)
  have b5 := (b3.monoE e4).go (S' := SE K) (SameT.upd (o' := .ins C dx [("opened", .ref o), ("hidden", .ref h')]) hp4 rfl) (fun _ _ => se_ins hp4)
  generalize upd H4 p (.ins C dx [("opened", .ref o), ("hidden", .ref h')]) = H5 at h5p h5o h5h x5 z5 b5
  walk_at "go"
  refine ⟨z, xs, b, ns, 1, rfl, z5, b5, ho, hN, hn, by omega, by decide, hsz, fun q' H6 ys e6 hq6 hb6 => ?_⟩
  have hp6 := e6 _ _ h5p
  walk_at "go"
  refine w_sfldAt hp6 cc (by simp) (by simp) ?_
  rw [put3]
  refine q _ (fun a u na ha => by rw [upd_ne na]; exact e6 a u (x5 a u na ha)) ⟨C, dx, o, h', q', ys, upd_same, cc, (upd_ne po.symm).trans (e6 _ _ h5o), (upd_ne ph.symm).trans (e6 _ _ h5h), ?_, ?_⟩
  · exact sameT_t (SameT.upd hp6 rfl) hq6
  · exact hb6.monoT (SameT.upd hp6 rfl)
theorem pure_Program_block (K : PySem.W.Frag) (vs : List V) (H : Hp) (Q : VK) (E : XK) (h : sp_Program_block K vs H Q E) :
    t_Program_block K { nx := fun _ H' => Q .non H', rt := Q } (start N_Program_block vs) H := by
  obtain ⟨a, os, ss, b, rfl, ⟨C, dx, o, h, q', ys, hP⟩, q⟩ := h
  unfold t_Program_block
  walk_at "go"
  exact w_fldAt hP.ha hP.cc (by simp) rfl (q q' ys hP.hq hP.hb)
inductive All2 {α : Type} (R : V → α → Prop) : List V → List α → Prop where
  | nil : All2 R [] []
  | cons {v : V} {x : α} {vs : List V} {xs : List α} (h : R v x) (t : All2 R vs xs) : All2 R (v :: vs) (x :: xs)
namespace All2
variable {α : Type} {R S : V → α → Prop}
theorem imp (h : ∀ v x, R v x → S v x) : ∀ {vs : List V} {xs : List α}, All2 R vs xs → All2 S vs xs
  | _, _, .nil => .nil
  | _, _, .cons a t => .cons (h _ _ a) (t.imp h)
theorem app : ∀ {vs us : List V} {xs ys : List α}, All2 R vs xs → All2 R us ys → All2 R (vs ++ us) (xs ++ ys)
  | _, _, _, _, .nil, h => h
  | _, _, _, _, .cons a t, h => .cons a (t.app h)
theorem one {v : V} {x : α} (h : R v x) : All2 R [v] [x] := .cons h .nil
theorem len : ∀ {vs : List V} {xs : List α}, All2 R vs xs → vs.length = xs.length
  | _, _, .nil => rfl
  | _, _, .cons _ t => congrArg (· + 1) t.len
theorem get : ∀ {vs : List V} {xs : List α} {i : Nat} {v : V}, All2 R vs xs → vs[i]? = some v → ∃ x, xs[i]? = some x ∧ R v x
  | _, _, 0, _, .cons h _, e => ⟨_, rfl, by rw [← Option.some.inj e]; exact h⟩
  | _, _, i + 1, _, .cons _ t, e => t.get (i := i) e
  | _, _, _, _, .nil, e => by simp at e
theorem of_get : ∀ {vs : List V} {xs : List α}, vs.length = xs.length → (∀ (i : Nat) v, vs[i]? = some v → ∃ x, xs[i]? = some x ∧ R v x) → All2 R vs xs
  | [], [], _, _ => .nil
  | [], _ :: _, h, _ => nomatch h
  | _ :: _, [], h, _ => nomatch h
  | v :: vs, x :: xs, h, hR => by
    obtain ⟨y, h1, h2⟩ := hR 0 v rfl
    obtain rfl : x = y := Option.some.inj h1
    exact .cons h2 (of_get (Nat.succ.inj h) fun i v hv => hR (i + 1) v hv)
end All2
abbrev Ent := Nat × Rw × List Str
mutual
def Rw.ents (k : Nat) (A : List Str) : Rw → List Ent
  | .set x f => [(k, .set x f, A)]
  | .tell f => [(k, .tell f, A)]
  | .skip => [(k, .skip, A)]
  | .ite f a b => (k, .ite f a b, A) :: (entsB (k + 1) (A ++ f.names) a ++ entsB (k + 1 + szs a) (A ++ f.names) b)
  | .whl f a => (k, .whl f a, A) :: entsB (k + 1) (A ++ f.names) a
def entsB (k : Nat) (A : List Str) : List Rw → List Ent
  | [] => []
  | r :: l => r.ents k A ++ entsB (k + r.size) A l
end
def fnames : Option Fm → List Str
  | none => []
  | some f => f.names
def partsE (k : Nat) (A : List Str) : List (List Rw) → List Ent
  | [] => []
  | b :: l => entsB k A b ++ partsE (k + szs b) A l
theorem ents_parts (k : Nat) (A : List Str) : ∀ r : Rw, r.ents k A = (k, r, A) :: partsE (k + 1) (A ++ fnames r.fm) r.parts
  | .set x f => rfl
  | .tell f => rfl
  | .skip => rfl
  | .ite f a b => by
    show (k, Rw.ite f a b, A) :: (entsB (k + 1) (A ++ f.names) a ++ entsB (k + 1 + szs a) (A ++ f.names) b) = (k, Rw.ite f a b, A) :: (entsB (k + 1) (A ++ f.names) a ++ (entsB (k + 1 + szs a) (A ++ f.names) b ++ []))
    rw [List.append_nil]
  | .whl f a => by
    show (k, Rw.whl f a, A) :: entsB (k + 1) (A ++ f.names) a = (k, Rw.whl f a, A) :: (entsB (k + 1) (A ++ f.names) a ++ [])
    rw [List.append_nil]
theorem entsB_snoc (k : Nat) (A : List Str) (r : Rw) : ∀ l : List Rw, entsB k A (l ++ [r]) = entsB k A l ++ r.ents (k + szs l) A
  | [] => by
    show r.ents k A ++ [] = [] ++ r.ents (k + 0) A
    rw [List.append_nil, Nat.add_zero, List.nil_append]
  | s :: l => by
    show s.ents k A ++ entsB (k + s.size) A (l ++ [r]) = (s.ents k A ++ entsB (k + s.size) A l) ++ r.ents (k + (s.size + szs l)) A
    rw [entsB_snoc (k + s.size) A r l, List.append_assoc, Nat.add_assoc]
theorem partsE_snoc (k : Nat) (A : List Str) (b : List Rw) : ∀ l : List (List Rw), partsE k A (l ++ [b]) = partsE k A l ++ entsB (k + (l.map szs).sum) A b
  | [] => by
    show entsB k A b ++ [] = [] ++ entsB (k + 0) A b
    rw [List.append_nil, Nat.add_zero, List.nil_append]
  | c :: l => by
    show entsB k A c ++ partsE (k + szs c) A (l ++ [b]) = (entsB k A c ++ partsE (k + szs c) A l) ++ entsB (k + (szs c + (l.map szs).sum)) A b
    rw [partsE_snoc (k + szs c) A b l, List.append_assoc, Nat.add_assoc]
mutual
theorem ents_len (k : Nat) (A : List Str) : ∀ r : Rw, (r.ents k A).length = r.size
  | .set x f => rfl
  | .tell f => rfl
  | .skip => rfl
  | .ite f a b => by
    show (entsB (k + 1) (A ++ f.names) a ++ entsB (k + 1 + szs a) (A ++ f.names) b).length + 1 = 1 + (szs a + szs b)
    rw [List.length_append, entsB_len, entsB_len]
    omega
  | .whl f a => by
    show (entsB (k + 1) (A ++ f.names) a).length + 1 = 1 + szs a
    rw [entsB_len]
    omega
theorem entsB_len (k : Nat) (A : List Str) : ∀ l : List Rw, (entsB k A l).length = szs l
  | [] => rfl
  | r :: l => by
    show (r.ents k A ++ entsB (k + r.size) A l).length = r.size + szs l
    rw [List.length_append, ents_len, entsB_len]
end
theorem partsE_len (k : Nat) (A : List Str) : ∀ l : List (List Rw), (partsE k A l).length = (l.map szs).sum
  | [] => rfl
  | b :: l => by
    show (entsB k A b ++ partsE (k + szs b) A l).length = szs b + (l.map szs).sum
    rw [List.length_append, entsB_len, partsE_len]
mutual
theorem ents_num (k : Nat) (A : List Str) : ∀ (r : Rw) (i : Nat) (e : Ent), (r.ents k A)[i]? = some e → e.1 = k + i
  | .set x f, i, e, h => one_num h
  | .tell f, i, e, h => one_num h
  | .skip, i, e, h => one_num h
  | .ite f a b, 0, e, h => by rw [← Option.some.inj h] <;> rfl
  | .ite f a b, i + 1, e, h => by
    have h : (entsB (k + 1) (A ++ f.names) a ++ entsB (k + 1 + szs a) (A ++ f.names) b)[i]? = some e := h
    rcases Nat.lt_or_ge i (entsB (k + 1) (A ++ f.names) a).length with lt | ge
    · rw [List.getElem?_append_left lt] at h
      have := entsB_num _ _ a i e h
      omega
    · rw [List.getElem?_append_right ge] at h
      have := entsB_num _ _ b _ e h
      rw [entsB_len] at this ge
      omega
  | .whl f a, 0, e, h => by rw [← Option.some.inj h] <;> rfl
  | .whl f a, i + 1, e, h => by
    have := entsB_num _ _ a i e h
    omega
theorem entsB_num (k : Nat) (A : List Str) : ∀ (l : List Rw) (i : Nat) (e : Ent), (entsB k A l)[i]? = some e → e.1 = k + i
  | [], i, e, h => by simp [entsB] at h
  | r :: l, i, e, h => by
    have h : (r.ents k A ++ entsB (k + r.size) A l)[i]? = some e := h
    rcases Nat.lt_or_ge i (r.ents k A).length with lt | ge
    · rw [List.getElem?_append_left lt] at h
      exact ents_num _ _ r i e h
    · rw [List.getElem?_append_right ge] at h
      have := entsB_num _ _ l _ e h
      rw [ents_len] at this ge
      omega
theorem one_num {k : Nat} {r : Rw} {A : List Str} {i : Nat} {e : Ent} (h : [(k, r, A)][i]? = some e) : e.1 = k + i := by
  cases i with
  | zero => rw [← Option.some.inj h] <;> rfl
  | succ i => simp at h
end
/-- what holds of each row of a block: it is well formed, what stands around it are names of the block's -/
structure EntOk (ns : List Str) (A0 : List Str) (m : Nat) (e : Ent) : Prop where
  ok : e.2.1.ok ns
  sub : ∀ y ∈ e.2.2, y ∈ A0 ∨ y ∈ ns
  nest : e.2.1.nest ≤ m
mutual
theorem ents_ok {ns : List Str} {m : Nat} (k : Nat) (A : List Str) {A0 : List Str} (hA : ∀ y ∈ A, y ∈ A0 ∨ y ∈ ns) : ∀ r : Rw, r.ok ns → r.nest ≤ m → ∀ e ∈ r.ents k A, EntOk ns A0 m e
  | .set x f, h, hm, e, he => by rw [List.mem_singleton.mp he]; exact ⟨h, hA, hm⟩
  | .tell f, h, hm, e, he => by rw [List.mem_singleton.mp he]; exact ⟨h, hA, hm⟩
  | .skip, h, hm, e, he => by rw [List.mem_singleton.mp he]; exact ⟨h, hA, hm⟩
  | .ite f a b, h, hm, e, he => by
    have hm2 : 1 + max (nests a) (nests b) ≤ m := hm
    have hA2 : ∀ y ∈ A ++ f.names, y ∈ A0 ∨ y ∈ ns := fun y hy => (List.mem_append.mp hy).elim (hA y) fun hy => .inr (Fm.ok_names h.1.1 y hy)
    rcases List.mem_cons.mp he with e1 | he
    · rw [e1]; exact ⟨h, hA, hm⟩
    · rcases List.mem_append.mp he with he | he
      · exact entsB_ok _ _ hA2 a h.2.1 (by omega) e he
      · exact entsB_ok _ _ hA2 b h.2.2 (by omega) e he
  | .whl f a, h, hm, e, he => by
    have hm2 : 1 + nests a ≤ m := hm
    have hA2 : ∀ y ∈ A ++ f.names, y ∈ A0 ∨ y ∈ ns := fun y hy => (List.mem_append.mp hy).elim (hA y) fun hy => .inr (Fm.ok_names h.1.1 y hy)
    rcases List.mem_cons.mp he with e1 | he
    · rw [e1]; exact ⟨h, hA, hm⟩
    · exact entsB_ok _ _ hA2 a h.2 (by omega) e he
theorem entsB_ok {ns : List Str} {m : Nat} (k : Nat) (A : List Str) {A0 : List Str} (hA : ∀ y ∈ A, y ∈ A0 ∨ y ∈ ns) : ∀ l : List Rw, oks ns l → nests l ≤ m → ∀ e ∈ entsB k A l, EntOk ns A0 m e
  | [], _, _, _, he => nomatch he
  | r :: l, h, hm, e, he => by
    have hm2 : max r.nest (nests l) ≤ m := hm
    rcases List.mem_append.mp he with he | he
    · exact ents_ok _ _ hA r h.1 (by omega) e he
    · exact entsB_ok _ _ hA l h.2 (by omega) e he
end
/-- an entry of rows_in's list at p -/
def EntP (K : PySem.W.Frag) (H : Hp) (p : Addr) (v : V) (e : Ent) : Prop := ∃ (t : Addr) (vr : V) (al : Addr) (xs : List Str), v = .ref t ∧ SqT K H t [.int (e.1 : Nat), vr, .ref al] ∧ RwAt K (SqT K) H vr e.2.1 ∧ H al = some (.lst (xs.map V.str)) ∧ al ≠ p ∧ (∀ y, y ∈ xs ↔ y ∈ e.2.2) ∧ xs.length ≤ 1000000
theorem EntP.mono {K : PySem.W.Frag} {H H' : Hp} {p : Addr} {v : V} {e : Ent} (s : Same H H') (h : EntP K H p v e) : EntP K H' p v e := by
  obtain ⟨t, vr, al, xs, h1, h2, h3, h4, h5⟩ := h
  exact ⟨t, vr, al, xs, h1, same_t s h2, h3.monoT (SameT.of s), s _ _ h4, h5⟩
theorem EntP.upd {K : PySem.W.Frag} {H : Hp} {p : Addr} {v : V} {e : Ent} {zs : List V} {o : HO} (hp : H p = some (.lst zs)) (h : EntP K H p v e) : EntP K (L2.upd H p o) p v e := by
  obtain ⟨t, vr, al, xs, h1, h2, h3, h4, h5, h6⟩ := h
  have s : SameT H (L2.upd H p o) := SameT.upd hp rfl
  exact ⟨t, vr, al, xs, h1, sameT_t s h2, h3.monoT s, (upd_ne h5).trans h4, h5, h6⟩
theorem EntP.other {K : PySem.W.Frag} {H : Hp} {p q : Addr} {v : V} {e : Ent} (hq : H q = none) (h : EntP K H p v e) : EntP K H q v e := by
  obtain ⟨t, vr, al, xs, h1, h2, h3, h4, h5, h6⟩ := h
  exact ⟨t, vr, al, xs, h1, h2, h3, h4, ne_of_none h4 hq, h6⟩
noncomputable def sp_rows_in (K : PySem.W.Frag) (n : Nat) : Sp := fun vs H Q _ => ∃ (a : Addr) (xs : List V) (b : List Rw) (k : Nat) (ar : Addr) (rs A ns : List Str), vs = [.ref a, .int (k : Nat), .ref ar] ∧ SqT K H a xs ∧ BkAt K (SqT K) H xs b ∧ oks ns b ∧ ns.length ≤ 1000 ∧ nests b < n ∧ nests b ≤ 8 ∧ szs b ≤ 100000 ∧
  H ar = some (.lst (rs.map V.str)) ∧ (∀ y, y ∈ rs ↔ y ∈ A) ∧ rs.length + 1000 * nests b ≤ 100000 ∧
  ∀ (p : Addr) (H' : Hp) (vs : List V), Same H H' → H p = none → H' p = some (.lst vs) → All2 (EntP K H' p) vs (entsB k A b) → Q (.ref p) H'
noncomputable def sp_sources_of (K : PySem.W.Frag) : Sp := fun vs H Q _ => ∃ (v : V) (r : Rw) (al : Addr) (xs ns : List Str), vs = [v, .ref al] ∧ RwAt K (SqT K) H v r ∧ H al = some (.lst (xs.map V.str)) ∧ r.ok ns ∧ (∀ y ∈ xs, y ∈ ns) ∧ ns.length ≤ 1000 ∧ xs.length ≤ 1000000 ∧
  ∀ (p : Addr) (H' : Hp), Same H H' → H p = none → H' p = some (.lst ((sortU (xs ++ fnames r.fm)).map V.str)) → IsSort (xs ++ fnames r.fm) (sortU (xs ++ fnames r.fm)) → Q (.ref p) H'
abbrev Flo := Nat × Str × Str
noncomputable def Ent.flo (e : Ent) : List Flo := match e.2.1 with
  | .set x f => (sortU (e.2.2 ++ f.names)).map fun s => (e.1, s, x)
  | _ => []
noncomputable def flowsB (b : List Rw) : List Flo := (entsB 1 [] b).flatMap Ent.flo
def FlAt (K : PySem.W.Frag) (H : Hp) (v : V) (f : Flo) : Prop := ∃ t, v = .ref t ∧ SqT K H t [.int (f.1 : Nat), .str f.2.1, .str f.2.2]
theorem FlAt.monoT {K : PySem.W.Frag} {H H' : Hp} (e : SameT H H') {v : V} {f : Flo} (h : FlAt K H v f) : FlAt K H' v f := by
  obtain ⟨t, h1, h2⟩ := h
  exact ⟨t, h1, sameT_t e h2⟩
noncomputable def sp_flows (K : PySem.W.Frag) : Sp := fun vs H Q _ => ∃ (a : Addr) (os ss ns : List Str) (b : List Rw), vs = [.ref a] ∧ PrAt K H a os ss b ∧ oks ns b ∧ ns.length ≤ 1000 ∧ nests b ≤ 8 ∧ szs b ≤ 1000 ∧
  ∀ (p : Addr) (H' : Hp) (vs : List V), Same H H' → H p = none → H' p = some (.lst vs) → All2 (FlAt K H') vs (flowsB b) → (∀ f ∈ flowsB b, f.2.1 ∈ ns ∧ f.2.2 ∈ ns) → (flowsB b).length ≤ 1000000 → Q (.ref p) H'
abbrev N_rows_in : List Str := ["block", "number", "around", "rows", "row", "inner", "part", "more"]
noncomputable def t_rows_in (K : PySem.W.Frag) (n : Nat) : TS :=
  (tSeq (tAsg (tLst tNil) (gName 3)) (tSeq (tFor (iSeq K (tVar 0)) (gName 4) (tSeq (tDrop (tBM K "list" rAppend (tVar 3) (tCons (tTup (tCons (tVar 1) (tCons (tVar 4) (tCons (tVar 2) tNil)))) tNil))) (tSeq (tAsg (tOp (rAdd K) (tVar 1) (tC (.int 1))) (gName 5)) (tSeq (tFor (iSeq K (tF (sp_blocks_of K) (tCons (tVar 4) tNil))) (gName 6) (tSeq (tAsg (tF (sp_rows_in K n) (tCons (tVar 6) (tCons (tVar 5) (tCons (tOp (rAdd K) (tVar 2) (tF (sp_names_in K) (tCons (tF (sp_formula_of K) (tCons (tVar 4) tNil)) tNil))) tNil)))) (gName 7)) (tSeq (tAsg (tOp (rAdd K) (tVar 3) (tVar 7)) (gName 3)) (tAsg (tOp (rAdd K) (tVar 5) (tCB (rLenA K) (tCons (tVar 7) tNil))) (gName 5))))) (tAsg (tOp (rAdd K) (tVar 1) (tF (sp_size_of K 8) (tCons (tVar 4) tNil))) (gName 1)))))) (tRet (tVar 3))))
abbrev N_sources_of : List Str := ["row", "around", "found"]
noncomputable def t_sources_of_j1 (K : PySem.W.Frag) : TS :=
  (tRet (tSortSet K (tVar 2)))
noncomputable def t_sources_of (K : PySem.W.Frag) : TS :=
  (tSeq (tAsg (tCB (rList K) (tCons (tVar 1) tNil)) (gName 2)) (tSeq (tIfS (tTest (tOp (rNe2 K) (tOp (rIx K) (tVar 0) (tC (.int 0))) (tC (.str "skip")))) (tAsg (tOp (rAdd K) (tVar 2) (tF (sp_names_in K) (tCons (tF (sp_formula_of K) (tCons (tVar 0) tNil)) tNil))) (gName 2)) tNext) (t_sources_of_j1 K)))
abbrev N_flows : List Str := ["program", "found", "number", "row", "around", "source"]
noncomputable def t_flows (K : PySem.W.Frag) : TS :=
  (tSeq (tAsg (tLst tNil) (gName 1)) (tSeq (tFor (iSeq K (tF (sp_rows_in K 9) (tCons (tM K "Program" as_Program "block" (sp_Program_block K) (tVar 0) tNil) (tCons (tC (.int 1)) (tCons (tLst tNil) tNil))))) (gTup K 3 (gCons (gName 2) (gCons (gName 3) (gCons (gName 4) gNil)))) (tIfS (tTest (tOp (rEq2 K) (tOp (rIx K) (tVar 3) (tC (.int 0))) (tC (.str "set")))) (tAsg (tOp (rAdd K) (tVar 1) (tLc (iSeq K (tF (sp_sources_of K) (tCons (tVar 3) (tCons (tVar 4) tNil)))) (gName 5) tYes (tTup (tCons (tVar 2) (tCons (tVar 5) (tCons (tOp (rIx K) (tVar 3) (tC (.int 1))) tNil)))) [5])) (gName 1)) tNext)) (tRet (tVar 1))))
theorem no_rows_in {K : PySem.W.Frag} : ∀ vs H Q E, ¬ sp_rows_in K 0 vs H Q E := by
  rintro vs H Q E ⟨a, xs, b, k, ar, rs, A, ns, _, _, _, _, _, h, _⟩
  omega
theorem take_snoc {α : Type} {l : List α} {i : Nat} {x : α} (h : l[i]? = some x) : l.take (i + 1) = l.take i ++ [x] := by rw [List.take_succ, h] <;> rfl
theorem szs_take {l : List Rw} {i : Nat} : szs (l.take i) ≤ szs l := by
  have := szs_app (l.take i) (l.drop i)
  rw [List.take_append_drop] at this
  omega
theorem sum_take {l : List Nat} {i : Nat} : (l.take i).sum ≤ l.sum := by
  have : (l.take i ++ l.drop i).sum = l.sum := by rw [List.take_append_drop]
  rw [List.sum_append] at this
  omega
theorem pure_rows_in (K : PySem.W.Frag) (n : Nat) (vs : List V) (H : Hp) (Q : VK) (E : XK) (h : sp_rows_in K (n + 1) vs H Q E) :
    t_rows_in K n { nx := fun _ H' => Q .non H', rt := Q } (start N_rows_in vs) H := by
  obtain ⟨a, xs, b, k, ar, rs, A, ns, rfl, hs, hb, ho, nl, hn, hn8, hz, har, hA, hrs, q⟩ := h
  unfold t_rows_in
  walk_at "go"
  refine w_new (by walk_at "sz") (fun r0 hr0 => ?_)
  have e1 := same_new (o := .lst []) hr0
  have hr1 : upd H r0 (.lst []) r0 = _ := upd_same
  generalize upd H r0 (.lst []) = H1 at e1 hr1
  walk_at "go"
  refine w_isT (same_t e1 hs) ?_
  refine for_tup (xs := xs) (fun i σ H' => Same H H' ∧ ∃ (r : Addr) (vs : List V) (w4 w5 w6 w7 : Option V), σ = [some (.ref a), some (.int ((k + szs (b.take i) : Nat) : Int)), some (.ref ar), some (.ref r), w4, w5, w6, w7] ∧ H r = none ∧ H' r = some (.lst vs) ∧ All2 (EntP K H' r) vs (entsB k A (b.take i)))
    ⟨e1, r0, [], _, _, _, _, rfl, hr0, hr1, .nil⟩ (fun i σ H' _ h => same_t h.1 hs) ?_ ?_
  · rintro i x σ H2 hx ⟨e2, r, us, w4, w5, w6, w7, rfl, hr, hr2, hE⟩
    obtain ⟨rw, hrw, hrow⟩ := hb.get hx
    have rm : rw ∈ b := List.mem_of_getElem? hrw
    have rn := nest_mem rm
    have rok := oks_mem ho rw rm
    have tk := take_snoc hrw
    have zt : szs (b.take (i + 1)) ≤ szs b := szs_take
    rw [tk, szs_app] at zt
    have z1 : szs [rw] = rw.size := by show rw.size + 0 = _; omega
    rw [z1] at zt
    have hrow2 := hrow.monoT (SameT.of e2)
    have arr : ar ≠ r := ne_of_none har hr
    have ul := hE.len
    rw [entsB_len] at ul
    walk_at "go"
    refine w_new (by walk_at "sz") (fun T hT => ?_)
    have e3 := same_new (o := .tup [.int ((k + szs (b.take i) : Nat) : Int), x, .ref ar]) hT
    have hr3 := e3 _ _ hr2
    walk_at "go"
    refine w_app hr3 (Nat.lt_of_le_of_lt (by omega : us.length ≤ 100000) (by decide)) ?_
    have ent : EntP K (upd H2 T (.tup [.int ((k + szs (b.take i) : Nat) : Int), x, .ref ar])) r (.ref T) (k + szs (b.take i), rw, A) :=
      ⟨T, x, ar, rs, rfl, SqT.of upd_same, hrow2.monoT (SameT.of e3), (e2.trans e3) _ _ har, arr, hA, by omega⟩
    have hE3 : All2 (EntP K (upd (upd H2 T (.tup [.int ((k + szs (b.take i) : Nat) : Int), x, .ref ar])) r (.lst (us ++ [.ref T]))) r) (us ++ [.ref T]) (entsB k A (b.take i) ++ [(k + szs (b.take i), rw, A)]) :=
      ((hE.imp fun _ _ h => (h.mono e3)).app (All2.one ent)).imp fun _ _ h => h.upd hr3
    have e23 := e2.trans e3
    have e4 : Same H (upd (upd H2 T (.tup [.int ((k + szs (b.take i) : Nat) : Int), x, .ref ar])) r (.lst (us ++ [.ref T]))) := same_mut e23 hr
    have hr4 : upd (upd H2 T (.tup [.int ((k + szs (b.take i) : Nat) : Int), x, .ref ar])) r (.lst (us ++ [.ref T])) r = _ := upd_same
    generalize upd (upd H2 T (.tup [.int ((k + szs (b.take i) : Nat) : Int), x, .ref ar])) r (.lst (us ++ [.ref T])) = H4 at hE3 e4 hr4
    have hrow4 := hrow.monoT (SameT.of e4)
    walk_at "go"
    refine ⟨_, rw, _, rfl, hrow4, fun pb H5 ws e5 hpb hpb5 hws => ?_⟩
    have hE5 := hE3.imp fun _ _ h => h.mono e5
    have hr5 := e5 _ _ hr4
    have e05 := e4.trans e5
    have hrow5 := hrow4.monoT (SameT.of e5)
    refine w_isL (SqL.of hpb5) ?_
    generalize hk' : k + szs (b.take i) = k' at *
    refine for_list (xs := ws) (fun j σ H' => Same H5 H' ∧ ∃ (r : Addr) (vs : List V) (w6 w7 : Option V), σ = [some (.ref a), some (.int (k' : Nat)), some (.ref ar), some (.ref r), some x, some (.int ((k' + 1 + ((rw.parts.take j).map szs).sum : Nat) : Int)), w6, w7] ∧ H r = none ∧ H' r = some (.lst vs) ∧
        All2 (EntP K H' r) vs ((entsB k A (b.take i) ++ [(k', rw, A)]) ++ partsE (k' + 1) (A ++ fnames rw.fm) (rw.parts.take j))) ⟨Same.refl _, r, _, _, _, rfl, hr, hr5, ?_⟩ (fun j σ H' _ h => SqL.of (h.1 _ _ hpb5)) ?_ ?_
    · have : partsE (k' + 1) (A ++ fnames rw.fm) (rw.parts.take 0) = [] := rfl
      rw [this, List.append_nil]
      exact hE5
    · rintro j y σ H6 hy ⟨e6, r6, vs6, w6, w7, rfl, hr6, hr66, hE6⟩
      obtain ⟨bl, t, ys, hbl, rfl, hts, htb⟩ := hws.get hy
      have bm : bl ∈ rw.parts := List.mem_of_getElem? hbl
      have pn := parts_nest bl bm
      have ps := part_size bm
      have tkj := take_snoc hbl
      obtain ⟨f, hf⟩ : ∃ f, rw.fm = some f := by
        cases rw with
        | ite f _ _ => exact ⟨f, rfl⟩
        | whl f _ => exact ⟨f, rfl⟩
        | set _ _ => exact nomatch bm
        | tell _ => exact nomatch bm
        | skip => exact nomatch bm
      have ff := fm_ok rok hf
      have e06 := e05.trans e6
      have hrow6 := hrow5.monoT (SameT.of e6)
      walk_at "go"
      refine ⟨x, rw, rfl, hrow6.toE, fun u hu => ?_⟩
      rw [hf] at hu
      walk_at "go"
      refine ⟨u, f, ns, rfl, hu, ff.1, nl, Nat.le_trans ff.2 (by decide), fun p7 H7 zs z1 z2 z3 e7 hp7 hp77 => ?_⟩
      have zl : zs.length ≤ ns.length := nodup_le z2 fun y hy => Fm.ok_names ff.1 y ((z3 y).mp hy)
      have e07 := e06.trans e7
      refine w_addL (e07 _ _ har) hp77 (sz (by rw [List.length_map, List.length_map]; omega)) (fun p8 hp8 => ?_)
      rw [← List.map_append]
      have e8 := same_new (o := .lst ((rs ++ zs).map V.str)) hp8
      have hp88 : upd H7 p8 (.lst ((rs ++ zs).map V.str)) p8 = _ := upd_same
      generalize upd H7 p8 (.lst ((rs ++ zs).map V.str)) = H8 at e8 hp88
      have e68 := e7.trans e8
      have e58 := e6.trans e68
      walk_at "go"
      have tT := same_t (e5.trans e58) hts
      refine ⟨t, ys, bl, _, p8, rs ++ zs, A ++ f.names, ns, rfl, tT, htb.monoT (SameT.of (e5.trans e58)), parts_ok rok bl bm, nl, by omega, by omega, by omega, hp88, ?_, by rw [List.length_append]; omega, fun p9 H9 ms e9 hp9 hp99 hE9 => ?_⟩
      · intro y
        rw [List.mem_append, List.mem_append, hA y, z3 y]
      · have e69 := e68.trans e9
        have hr9 := e69 _ _ hr66
        have hE69 := hE6.imp fun _ _ h => h.mono e69
        have ml := hE9.len
        rw [entsB_len] at ml
        have vl := hE6.len
        rw [List.length_append, List.length_append, entsB_len, partsE_len] at vl
        have pz : ((rw.parts.take j).map szs).sum ≤ rw.size := by
          rw [parts_size (r := rw), List.map_take]
          have := sum_take (l := rw.parts.map szs) (i := j)
          omega
        have vl2 : vs6.length ≤ 300000 := by rw [vl]; simp only [List.length_singleton]; omega
        walk_at "go"
        refine w_addL hr9 hp99 (sz (by omega)) (fun p10 hp10 => ?_)
        have e10 := same_new (o := .lst (vs6 ++ ms)) hp10
        have hp1010 : upd H9 p10 (.lst (vs6 ++ ms)) p10 = _ := upd_same
        have hE10 : All2 (EntP K (upd H9 p10 (.lst (vs6 ++ ms))) p10) (vs6 ++ ms) (((entsB k A (b.take i) ++ [(k', rw, A)]) ++ partsE (k' + 1) (A ++ fnames rw.fm) (rw.parts.take j)) ++ entsB (k' + 1 + ((rw.parts.take j).map szs).sum) (A ++ f.names) bl) :=
          (hE69.imp fun _ _ h => (h.other hp10).mono e10).app (hE9.imp fun _ _ h => (h.other hp10).mono e10)
        generalize upd H9 p10 (.lst (vs6 ++ ms)) = H10 at e10 hp1010 hE10
        have hp910 := e10 _ _ hp99
        walk_at "go"
        have num : ((k' + 1 + ((rw.parts.take j).map szs).sum : Nat) : Int) + (ms.length : Nat) = ((k' + 1 + ((rw.parts.take (j + 1)).map szs).sum : Nat) : Int) := by
          rw [tkj, List.map_append, List.sum_append, ml]
          simp only [List.map_cons, List.map_nil, List.sum_cons, List.sum_nil]
          omega
        rw [num]
        refine ⟨e6.trans (e69.trans e10), p10, _, _, _, rfl, none_of (e05.trans (e6.trans e69)) hp10, hp1010, ?_⟩
        rw [tkj, partsE_snoc, ← List.append_assoc, hf]
        rw [hf] at hE10
        exact hE10
    · rintro σ H6 ⟨e6, r6, vs6, w6, w7, rfl, hr6, hr66, hE6⟩
      have wl := hws.len
      rw [wl, List.take_length] at hE6
      have e06 := e05.trans e6
      walk_at "go"
      refine ⟨x, rw, rfl, (hrow5.monoT (SameT.of e6)).toE, by omega, by omega, fun H7 e7 => ?_⟩
      walk_at "go"
      have num : ((k' : Nat) : Int) + (rw.size : Nat) = ((k + szs (b.take (i + 1)) : Nat) : Int) := by
        rw [tk, szs_app, z1, ← hk']
        omega
      rw [num]
      refine ⟨e06.trans e7, r6, vs6, _, _, _, _, rfl, hr6, e7 _ _ hr66, ?_⟩
      rw [tk, entsB_snoc, hk', ents_parts]
      rw [List.append_assoc] at hE6
      exact hE6.imp fun _ _ h => h.mono e7
  · rintro σ H2 ⟨e2, r, us, w4, w5, w6, w7, rfl, hr, hr2, hE⟩
    rw [hb.len, List.take_length] at hE
    walk_at "go"
    exact q r H2 us e2 hr hr2 hE
theorem skip_isN (r : Rw) : (!decide (r.word = ("skip" : Str))) = r.fm.isSome := by
  cases r with
  | set x f => exact (show (!decide (("set" : Str) = "skip")) = true by decide +kernel)
  | tell f => exact (show (!decide (("tell" : Str) = "skip")) = true by decide +kernel)
  | skip => decide +kernel
  | ite f a b => exact (show (!decide (("if" : Str) = "skip")) = true by decide +kernel)
  | whl f a => exact (show (!decide (("while" : Str) = "skip")) = true by decide +kernel)
theorem pure_sources_of (K : PySem.W.Frag) (vs : List V) (H : Hp) (Q : VK) (E : XK) (h : sp_sources_of K vs H Q E) :
    t_sources_of K { nx := fun _ H' => Q .non H', rt := Q } (start N_sources_of vs) H := by
  obtain ⟨v, r, al, xs, ns, rfl, hr, hal, ho, hx, nl, xl, q⟩ := h
  obtain ⟨a, ws, rfl, hs, _⟩ := hr.head
  have j1 : ∀ (H1 : Hp) (p : Addr) (ys : List Str), Same H H1 → H1 p = some (.lst (ys.map V.str)) → (∀ y, y ∈ ys ↔ y ∈ xs ++ fnames r.fm) → t_sources_of_j1 K { nx := fun _ H' => Q .non H', rt := Q } [some (.ref a), some (.ref al), some (.ref p)] H1 := by
    intro H1 p ys e1 hp hy
    unfold t_sources_of_j1
    walk_at "go"
    refine w_sortSet ?_
    walk_at "go"
    refine ⟨p, ys, ns, rfl, SqL.of hp, fun y hm => ?_, by omega, fun us p2 H2 u1 u2 u3 e2 hp2 hp22 => ?_⟩
    · rcases List.mem_append.mp ((hy y).mp hm) with h | h
      · exact hx y h
      · cases hf : r.fm with
        | none => rw [hf] at h; exact nomatch h
        | some f => rw [hf] at h; exact Fm.ok_names (fm_ok ho hf).1 y h
    · have is : IsSort ys us := ⟨u1, u2, u3⟩
      have e := sortU_eq is hy
      rw [e] at hp22
      have is2 : IsSort (xs ++ fnames r.fm) us := ⟨u1, u2, fun y => (u3 y).trans (hy y)⟩
      exact q p2 H2 (e1.trans e2) (none_of e1 hp2) hp22 (sortU_is is2)
  unfold t_sources_of
  walk_at "go"
  refine w_listL (SqL.of hal) (fun p hp => ?_)
  have e1 := same_new (o := .lst (xs.map V.str)) hp
  have hp1 : upd H p (.lst (xs.map V.str)) p = _ := upd_same
  generalize upd H p (.lst (xs.map V.str)) = H1 at e1 hp1
  have hs1 := same_t e1 hs
  have hr1 := hr.monoT (SameT.of e1)
  walk_at "go"
  refine w_ixT hs1 at0 ?_
  walk_at "go"
  rw [skip_isN]
  cases hf : r.fm with
  | none =>
    refine w_no rfl ?_
    walk_at "go"
    exact j1 H1 p xs e1 hp1 (fun y => by rw [hf, fnames, List.append_nil])
  | some f =>
    have ff := fm_ok ho hf
    refine w_yes rfl ?_
    walk_at "go"
    refine ⟨_, r, rfl, hr1.toE, fun u hu => ?_⟩
    rw [hf] at hu
    walk_at "go"
    refine ⟨u, f, ns, rfl, hu, ff.1, nl, Nat.le_trans ff.2 (by decide), fun p7 H7 zs z1 z2 z3 e7 hp7 hp77 => ?_⟩
    have zl : zs.length ≤ ns.length := nodup_le z2 fun y hy => Fm.ok_names ff.1 y ((z3 y).mp hy)
    refine w_addL (e7 _ _ hp1) hp77 (sz (by rw [List.length_map, List.length_map]; omega)) (fun p8 hp8 => ?_)
    rw [← List.map_append]
    walk_at "go"
    exact j1 _ p8 (xs ++ zs) (e1.trans (e7.trans (same_new hp8))) upd_same (fun y => by rw [List.mem_append, List.mem_append, z3 y, hf, fnames])
theorem set_is (r : Rw) : decide (r.word = ("set" : Str)) = (match r with | .set _ _ => true | _ => false) := by
  cases r with
  | set x f => exact (show decide (("set" : Str) = "set") = true by decide +kernel)
  | tell f => exact (show decide (("tell" : Str) = "set") = false by decide +kernel)
  | skip => decide +kernel
  | ite f a b => exact (show decide (("if" : Str) = "set") = false by decide +kernel)
  | whl f a => exact (show decide (("while" : Str) = "set") = false by decide +kernel)
theorem flat_snoc {α β : Type} (f : α → List β) (l : List α) (x : α) : (l ++ [x]).flatMap f = l.flatMap f ++ f x := by
  rw [List.flatMap_append, List.flatMap_cons, List.flatMap_nil, List.append_nil]
theorem pure_flows (K : PySem.W.Frag) (vs : List V) (H : Hp) (Q : VK) (E : XK) (h : sp_flows K vs H Q E) :
    t_flows K { nx := fun _ H' => Q .non H', rt := Q } (start N_flows vs) H := by
  obtain ⟨a, os, ss, ns, b, rfl, hP, ho, nl, hn, hz, q⟩ := h
  unfold t_flows
  walk_at "go"
  refine w_new (by walk_at "sz") (fun p0 hp0 => ?_)
  have e1 := same_new (o := .lst []) hp0
  have hp01 : upd H p0 (.lst []) p0 = _ := upd_same
  generalize upd H p0 (.lst []) = H1 at e1 hp01
  have hP1 := hP.mono e1
  have hP1' := hP1
  obtain ⟨C, dx, o, hh, q0, ys0, hI⟩ := hP1'
  walk_at "go"
  refine w_mAt hI.ha hI.cc rfl ?_
  walk_at "go"
  refine ⟨a, os, ss, b, rfl, hP1, fun q1 ys hq1 hb1 => ?_⟩
  walk_at "go"
  refine w_new (by walk_at "sz") (fun p1 hp1 => ?_)
  have e2 := same_new (o := .lst []) hp1
  refine ⟨q1, ys, b, 1, p1, [], [], ns, rfl, same_t e2 hq1, hb1.monoT (SameT.of e2), ho, nl, by omega, hn, by omega, upd_same, (fun _ => Iff.rfl), by simp; omega, fun p2 H3 us e3 hp2 hp22 hE => ?_⟩
  have e13 := e2.trans e3
  have e03 := e1.trans e13
  have hp03 := e13 _ _ hp01
  have EO := entsB_ok (ns := ns) (m := 8) 1 [] (A0 := []) (fun _ h => nomatch h) b ho hn
  refine w_isL (SqL.of hp22) ?_
  have ul := hE.len
  rw [entsB_len] at ul
  refine for_list (xs := us) (fun i σ H' => Same H3 H' ∧ ∃ (p : Addr) (vs : List V) (w2 w3 w4 w5 : Option V), σ = [some (.ref a), some (.ref p), w2, w3, w4, w5] ∧ H p = none ∧ H' p = some (.lst vs) ∧ All2 (FlAt K H') vs (((entsB 1 [] b).take i).flatMap Ent.flo) ∧
      (((entsB 1 [] b).take i).flatMap Ent.flo).length ≤ 1000 * i ∧ (∀ f ∈ ((entsB 1 [] b).take i).flatMap Ent.flo, f.2.1 ∈ ns ∧ f.2.2 ∈ ns))
    ⟨Same.refl _, p0, [], _, _, _, _, rfl, hp0, hp03, .nil, Nat.zero_le _, fun f hf => nomatch hf⟩ (fun i σ H' _ h => SqL.of (h.1 _ _ hp22)) ?_ ?_
  · rintro i x σ H4 hx ⟨e4, p, vs, w2, w3, w4, w5, rfl, hpn, hp4, hF, hl, hm⟩
    obtain ⟨en, hen, t, vr, al, xs, rfl, ht, hr, hal, nal, hxs, xl⟩ := hE.get hx
    have ht4 := same_t e4 ht
    have hr4 := hr.monoT (SameT.of e4)
    have hal4 := e4 _ _ hal
    have em : en ∈ entsB 1 [] b := List.mem_of_getElem? hen
    have eo := EO en em
    have tk := take_snoc hen
    have hi : i < 1000 := by have := (List.getElem?_eq_some_iff.mp hen).1; rw [entsB_len] at this; omega
    obtain ⟨ar, ws, hvr, hs, _⟩ := hr4.head
    subst hvr
    walk_at "go"
    refine w_ixT hs at0 ?_
    walk_at "go"
    rw [set_is]
    obtain ⟨k, r, A⟩ := en
    have skip : r.parts = r.parts → Ent.flo (k, r, A) = [] → ({ nx := fun σ H' => Same H3 H' ∧ ∃ (p : Addr) (vs : List V) (w2 w3 w4 w5 : Option V), σ = [some (.ref a), some (.ref p), w2, w3, w4, w5] ∧ H p = none ∧ H' p = some (.lst vs) ∧ All2 (FlAt K H') vs (((entsB 1 [] b).take (i + 1)).flatMap Ent.flo) ∧
      (((entsB 1 [] b).take (i + 1)).flatMap Ent.flo).length ≤ 1000 * (i + 1) ∧ (∀ f ∈ ((entsB 1 [] b).take (i + 1)).flatMap Ent.flo, f.2.1 ∈ ns ∧ f.2.2 ∈ ns), rt := Q } : Ends).nx [some (.ref a), some (.ref p), some (.int (k : Nat)), some (.ref ar), some (.ref al), w5] H4 := by
      intro _ hf
      refine ⟨e4, p, vs, _, _, _, _, rfl, hpn, hp4, ?_, ?_, ?_⟩
      · rw [tk, flat_snoc, hf, List.append_nil]; exact hF
      · rw [tk, flat_snoc, hf, List.append_nil]; omega
      · rw [tk, flat_snoc, hf, List.append_nil]; exact hm
    cases r with
    | tell g => walk_at "go"; exact skip rfl rfl
    | skip => walk_at "go"; exact skip rfl rfl
    | ite g c d => walk_at "go"; exact skip rfl rfl
    | whl g c => walk_at "go"; exact skip rfl rfl
    | set z g =>
      have ff := eo.ok.2
      have hr5 := hr4
      cases hr5 with
      | set hrow hg =>
        walk_at "go"
        refine w_lc ?_
        walk_at "go"
        refine ⟨_, .set z g, al, xs, ns, rfl, hr4, hal4, eo.ok, fun y hy => (eo.sub y ((hxs y).mp hy)).resolve_left List.not_mem_nil, nl, xl, fun p5 H5 e5 hp5 hp55 is => ?_⟩
        have mem : ∀ y, y ∈ xs ++ fnames (Rw.set z g).fm ↔ y ∈ A ++ g.names := fun y => by
          rw [List.mem_append, List.mem_append, hxs y]
          rfl
        have se := sortU_eq is mem
        have isn : ∀ y ∈ sortU (xs ++ fnames (Rw.set z g).fm), y ∈ ns := fun y hy => by
          rcases List.mem_append.mp ((mem y).mp ((is.2.2 y).mp hy)) with h1 | h1
          · exact (eo.sub y h1).resolve_left List.not_mem_nil
          · exact Fm.ok_names ff.1 y h1
        have sl := Nat.le_trans (nodup_le is.2.1 isn) nl
        generalize hS : sortU (xs ++ fnames (Rw.set z g).fm) = S at *
        refine lc_se (xs := S.map V.str) (fun i y H' => ∃ s, S[i]? = some s ∧ FlAt K H' y (k, s, z)) (.inl (SqL.of hp55)) (by rw [List.length_map]; omega) (fun i y H1 H2 ⟨s, h1, h2⟩ e => ⟨s, h1, h2.monoT e⟩) ?_ ?_
        · rintro D j y H6 Nx hy e6 ⟨zs, hzs⟩ kk
          obtain ⟨s, hs2, rfl⟩ : ∃ s, S[j]? = some s ∧ V.str s = y := by
            rw [List.getElem?_map] at hy
            cases d : S[j]? with
            | none => rw [d] at hy; exact nomatch hy
            | some y => rw [d] at hy; exact ⟨y, rfl, Option.some.inj hy⟩
          have hrow6 := same_t (e5.trans e6) hrow
          refine ⟨rfl, ?_⟩
          walk_at "go"
          refine w_new (by walk_at "sz") (fun T hT => ?_)
          exact kk _ _ (same_new hT) ⟨s, hs2, T, rfl, SqT.of upd_same⟩
        · intro D H6 ys e6 hD hD6 hyl hR
          have hA : All2 (FlAt K H6) ys (S.map fun s => (k, s, z)) := by
            refine All2.of_get (by rw [hyl, List.length_map, List.length_map]) fun i v hv => ?_
            obtain ⟨s, h1, h2⟩ := hR i v hv
            exact ⟨(k, s, z), by rw [List.getElem?_map, h1] <;> rfl, h2⟩
          have e46 := e5.trans e6
          have hp6 := e46 _ _ hp4
          have vl := hF.len
          rw [List.length_map] at hyl
          refine w_addL hp6 hD6 (sz (by omega)) (fun p9 hp9 => ?_)
          have e9 := same_new (o := .lst (vs ++ ys)) hp9
          have e39 := e4.trans (e46.trans e9)
          have hflo : Ent.flo (k, .set z g, A) = S.map fun s => (k, s, z) := by rw [se] <;> rfl
          walk_at "go"
          refine ⟨e39, p9, vs ++ ys, _, _, _, _, rfl, none_of (e03.trans (e4.trans e46)) hp9, upd_same, ?_, ?_, ?_⟩
          · rw [tk, flat_snoc, hflo]
            exact ((hF.imp fun _ _ h => h.monoT (SameT.of (e46.trans e9))).app (hA.imp fun _ _ h => h.monoT (SameT.of e9)))
          · rw [tk, flat_snoc, hflo, List.length_append, List.length_map]
            omega
          · rw [tk, flat_snoc, hflo]
            intro f hf
            rcases List.mem_append.mp hf with h1 | h1
            · exact hm f h1
            · obtain ⟨s, hs3, rfl⟩ := List.mem_map.mp h1
              exact ⟨isn s hs3, eo.ok.1⟩
  · rintro σ H4 ⟨e4, p, vs, w2, w3, w4, w5, rfl, hpn, hp4, hF, hl, hm⟩
    have : us.length = (entsB 1 [] b).length := hE.len
    rw [this, List.take_length] at hF hm hl
    walk_at "go"
    rw [entsB_len] at hl
    exact q p H4 vs (e03.trans e4) hpn hp4 hF hm (show ((entsB 1 [] b).flatMap Ent.flo).length ≤ 1000000 by omega)
def sp_law_blocks (K : PySem.W.Frag) : Sp := fun vs H Q _ => ∃ (v : V) (r : Rw), vs = [v] ∧ RwAt K (SqT K) H v r ∧ ∀ (p : Addr) (H' : Hp) (ws : List V), Same H H' → H p = none → H' p = some (.lst ws) → BlksAt K (SqT K) H' ws r.parts → Q (.ref p) H'
def fmOr : Option Fm → Fm
  | none => .num 0
  | some f => f
theorem fmOr_names (r : Rw) : (fmOr r.fm).names = fnames r.fm := by cases r <;> rfl
theorem fmOr_ok {ns : List Str} {r : Rw} (h : r.ok ns) : (fmOr r.fm).fine ns := by
  cases hf : r.fm with
  | none => exact ⟨⟨by decide, by decide⟩, show 1 ≤ 12 from by decide⟩
  | some f => exact fm_ok h hf
def sp_law_formula (K : PySem.W.Frag) : Sp := fun vs H Q _ => ∃ (v : V) (r : Rw), vs = [v] ∧ RwAt K (SqT K) H v r ∧ ∀ (u : V) (H' : Hp), Same H H' → FmAt K H' u (fmOr r.fm) → Q u H'
/-- an entry of the law's list at p -/
def EntL (K : PySem.W.Frag) (H : Hp) (p : Addr) (v : V) (e : Ent) : Prop := ∃ (t : Addr) (vr : V) (al : Addr), v = .ref t ∧ SqT K H t [vr, .ref al] ∧ RwAt K (SqT K) H vr e.2.1 ∧ H al = some (.lst (e.2.2.map V.str)) ∧ al ≠ p ∧ e.2.2.length ≤ 1000000
theorem SameX.T {p : Addr} {H H' : Hp} {zs : List V} (h : SameX p H H') (hp : H p = some (.lst zs)) : SameT H H' := fun a o ha hf => h a o (fun e => by rw [e, hp] at ha; rw [← Option.some.inj ha] at hf; exact nomatch hf) ha
theorem SameX.of {p : Addr} {H H' : Hp} (h : Same H H') : SameX p H H' := fun a u _ ha => h a u ha
theorem SameX.trans {p : Addr} {H H1 H2 : Hp} (h : SameX p H H1) (h2 : SameX p H1 H2) : SameX p H H2 := fun a u n ha => h2 a u n (h a u n ha)
theorem SameX.upd {p : Addr} {H : Hp} {o : HO} : SameX p H (L2.upd H p o) := fun a u n ha => by rw [upd_ne n]; exact ha
theorem SameX.same {p : Addr} {H0 H H' : Hp} (h0 : Same H0 H) (hp : H0 p = none) (h : SameX p H H') : Same H0 H' := fun a u ha => h a u (ne_of_none ha hp) (h0 a u ha)
theorem EntL.monoX {K : PySem.W.Frag} {H H' : Hp} {p : Addr} {v : V} {e : Ent} {zs : List V} (s : SameX p H H') (hp : H p = some (.lst zs)) (h : EntL K H p v e) : EntL K H' p v e := by
  obtain ⟨t, vr, al, h1, h2, h3, h4, h5, h6⟩ := h
  exact ⟨t, vr, al, h1, sameT_t (s.T hp) h2, h3.monoT (s.T hp), s _ _ h5 h4, h5, h6⟩
def SXq (K : PySem.W.Frag) (H : Hp) (p : Addr) (a : Addr) (xs : List V) : Prop := (∀ H', SameX p H H' → SqL K H' a xs) ∨ ∀ H', SameX p H H' → SqT K H' a xs
theorem sxq_t {K : PySem.W.Frag} {H : Hp} {p a : Addr} {xs zs : List V} (hp : H p = some (.lst zs)) (h : SqT K H a xs) : SXq K H p a xs := .inr fun H' e => sameT_t (e.T hp) h
theorem for_sx {K : PySem.W.Frag} {a p : Addr} {xs : List V} {g : TG} {tb : TS} {D : Ends} {σ : L2.St} {Hb H0 : Hp} (Pv : Nat → L2.St → Hp → Prop) (hq : SXq K Hb p a xs) (h0 : Pv 0 σ H0) (hl : ∀ i σ H, Pv i σ H → SameX p Hb H)
    (hs : ∀ i x σ H, xs[i]? = some x → Pv i σ H → g x σ H fun σ2 H2 => tb { D with nx := Pv (i + 1), ct := Pv (i + 1), bk := D.nx } σ2 H2) (hd : ∀ σ H, Pv xs.length σ H → D.nx σ H) :
    ∃ b, V.ref a = .ref b ∧ (((∃ xs, SqL K H0 b xs) ∧ ∃ W : Nat → Nat → L2.St → Hp → Prop, (∃ m, W 0 m σ H0) ∧ ∀ i m σ H, W i m σ H →
      ((Itl K b).stop i H ∧ D.nx σ H) ∨ ((Itl K b).go i H ∧ ∃ N : L2.St → Hp → Prop, (∀ σ' H', N σ' H' → ∃ m', m' < m ∧ W (i + 1) m' σ' H') ∧ ∀ x H', (Itl K b).yld i H x H' → g x σ H' fun σ2 H2 => tb { D with nx := N, ct := N, bk := D.nx } σ2 H2)) ∨
      ((∃ xs, SqT K H0 b xs) ∧ ∃ W : Nat → Nat → L2.St → Hp → Prop, (∃ m, W 0 m σ H0) ∧ ∀ i m σ H, W i m σ H →
      ((Itt K b).stop i H ∧ D.nx σ H) ∨ ((Itt K b).go i H ∧ ∃ N : L2.St → Hp → Prop, (∀ σ' H', N σ' H' → ∃ m', m' < m ∧ W (i + 1) m' σ' H') ∧ ∀ x H', (Itt K b).yld i H x H' → g x σ H' fun σ2 H2 => tb { D with nx := N, ct := N, bk := D.nx } σ2 H2))) := by
  refine ⟨a, rfl, ?_⟩
  rcases hq with hq | hq
  · exact .inl ⟨⟨xs, hq _ (hl 0 σ H0 h0)⟩, for_list (xs := xs) Pv h0 (fun i σ H _ p => hq _ (hl i σ H p)) hs hd⟩
  · exact .inr ⟨⟨xs, hq _ (hl 0 σ H0 h0)⟩, for_tup (xs := xs) Pv h0 (fun i σ H _ p => hq _ (hl i σ H p)) hs hd⟩
def sp_law_listed (K : PySem.W.Frag) (n : Nat) : Sp := fun vs H Q _ => ∃ (a : Addr) (xs : List V) (b : List Rw) (k : Nat) (ar p : Addr) (A ns : List Str) (us : List V) (es : List Ent), vs = [.ref a, .ref ar, .ref p] ∧ SXq K H p a xs ∧ BkAt K (SqT K) H xs b ∧ oks ns b ∧ nests b < n ∧
  szs b + us.length ≤ 100000 ∧ H ar = some (.lst (A.map V.str)) ∧ ar ≠ p ∧ A.length + 5000 * nests b ≤ 1000000 ∧ H p = some (.lst us) ∧ All2 (EntL K H p) us es ∧
  ∀ (H' : Hp) (vs : List V), SameX p H H' → H' p = some (.lst vs) → All2 (EntL K H' p) vs (es ++ entsB k A b) → Q (.ref p) H'
abbrev N_law_blocks : List Str := ["_law_row"]
def t_law_blocks (K : PySem.W.Frag) : TS :=
  (tSeq (tIfS (tTest (tOp (rEq2 K) (tOp (rIx K) (tVar 0) (tC (.int 0))) (tC (.str "set")))) (tRet (tLst tNil)) tNext) (tRet (tCB (rList K) (tCons (tSl (rSl K) (tVar 0) (tPart (tC (.int 2))) tNoPart) tNil))))
abbrev N_law_formula : List Str := ["_law_row"]
def t_law_formula (K : PySem.W.Frag) : TS :=
  (tSeq (tIfS (tTest (tOp (rEq2 K) (tOp (rIx K) (tVar 0) (tC (.int 0))) (tC (.str "skip")))) (tRet (tTup (tCons (tC (.str "number")) (tCons (tC (.int 0)) tNil)))) tNext) (tRet (tOp (rIx K) (tVar 0) (tOp (rAdd K) (tC (.int 1)) (tCB rInt (tCons (tOp (rEq2 K) (tOp (rIx K) (tVar 0) (tC (.int 0))) (tC (.str "set"))) tNil))))))
abbrev N_law_listed : List Str := ["_law_block", "_law_around", "_law_rows", "_law_row", "_law_inner"]
def t_law_listed (K : PySem.W.Frag) (n : Nat) : TS :=
  (tSeq (tFor (iSeq K (tVar 0)) (gName 3) (tSeq (tDrop (tBM K "list" rAppend (tVar 2) (tCons (tTup (tCons (tVar 3) (tCons (tVar 1) tNil))) tNil))) (tFor (iSeq K (tF (sp_law_blocks K) (tCons (tVar 3) tNil))) (gName 4) (tDrop (tF (sp_law_listed K n) (tCons (tVar 4) (tCons (tOp (rAdd K) (tVar 1) (tF (sp_law_all_names K 18) (tCons (tF (sp_law_formula K) (tCons (tVar 3) tNil)) tNil))) (tCons (tVar 2) tNil)))))))) (tRet (tVar 2)))
theorem w_slT2 {K : PySem.W.Frag} {H : Hp} {Q : VK} {a : Addr} {x y : V} {xs : List V} (h : SqT K H a (x :: y :: xs)) (q : ∀ p, H p = none → Q (.ref p) (upd H p (.tup xs))) : rSl K (.ref a) (some 2) none H Q := by
  have e : HT.sIx (x :: y :: xs).length 0 (some 2) = 2 := by
    refine (show HT.sIx (x :: y :: xs).length 0 (some 2) = min 2 (x :: y :: xs).length from HT.sIx_nat _ _ 2).trans ?_
    simp only [List.length_cons]
    omega
  refine .inr (.inl ⟨a, _, rfl, h, fun c => absurd c.1 (by rw [e]; decide), fun _ p hp => ?_⟩)
  have : cutV (x :: y :: xs) (some 2) none = xs := by
    unfold cutV
    rw [HT.sIx_none, e]
    simp
  rw [this]
  exact q p hp
theorem w_slT1 {K : PySem.W.Frag} {H : Hp} {Q : VK} {a : Addr} {x : V} (h : SqT K H a [x]) (q : ∀ p, H p = none → Q (.ref p) (upd H p (.tup []))) : rSl K (.ref a) (some 2) none H Q := by
  have e : HT.sIx [x].length 0 (some 2) = 1 := by
    exact (show HT.sIx [x].length 0 (some 2) = min 2 [x].length from HT.sIx_nat _ _ 2)
  refine .inr (.inl ⟨a, _, rfl, h, fun c => absurd c.1 (by rw [e]; decide), fun _ p hp => ?_⟩)
  have : cutV [x] (some 2) none = [] := by
    unfold cutV
    rw [HT.sIx_none, e]
    simp
  rw [this]
  exact q p hp
theorem pure_law_blocks (K : PySem.W.Frag) (vs : List V) (H : Hp) (Q : VK) (E : XK) (h : sp_law_blocks K vs H Q E) :
    t_law_blocks K { nx := fun _ H' => Q .non H', rt := Q } (start N_law_blocks vs) H := by
  obtain ⟨v, r, rfl, hr, q⟩ := h
  unfold t_law_blocks
  have fin : ∀ (p : Addr) (ws : List V), H p = none → BlksAt K (SqT K) H ws r.parts → rList K [.ref p] (upd H p (.tup ws)) (fun v H' => Q v H') := fun p ws hp hb =>
    w_listT (SqT.of upd_same) fun l hl => q l _ ws ((same_new hp).trans (same_new hl)) (none_of (same_new hp) hl) upd_same (hb.go (SameT.of ((same_new hp).trans (same_new hl))) fun _ _ h => same_t ((same_new hp).trans (same_new hl)) h)
  cases hr with
  | set h hf => walk_at "go"; exact w_new (by walk_at "sz") fun p hp => q p _ _ (same_new hp) hp upd_same .nil
  | tell h hf =>
    walk_at "go"
    refine w_slT2 h (fun p hp => ?_)
    exact fin p [] hp .nil
  | skip h =>
    walk_at "go"
    refine w_slT1 h (fun p hp => ?_)
    exact fin p [] hp .nil
  | ite h hf hp hb hq hc =>
    walk_at "go"
    refine w_slT2 h (fun p hp0 => ?_)
    exact fin p _ hp0 (.cons hp hb (.cons hq hc .nil))
  | whl h hf hp hb =>
    walk_at "go"
    refine w_slT2 h (fun p hp0 => ?_)
    exact fin p _ hp0 (.cons hp hb .nil)
theorem pure_law_formula (K : PySem.W.Frag) (vs : List V) (H : Hp) (Q : VK) (E : XK) (h : sp_law_formula K vs H Q E) :
    t_law_formula K { nx := fun _ H' => Q .non H', rt := Q } (start N_law_formula vs) H := by
  obtain ⟨v, r, rfl, hr, q⟩ := h
  unfold t_law_formula
  cases hr with
  | set h hf => walk_at "go"; exact q _ _ (Same.refl _) hf
  | tell h hf => walk_at "go"; exact q _ _ (Same.refl _) hf
  | skip h => walk_at "go"; exact w_new (by walk_at "sz") fun p hp => q _ _ (same_new hp) (.num (SqT.of upd_same))
  | ite h hf _ _ _ _ => walk_at "go"; exact q _ _ (Same.refl _) hf
  | whl h hf _ _ => walk_at "go"; exact q _ _ (Same.refl _) hf
theorem no_law_listed {K : PySem.W.Frag} : ∀ vs H Q E, ¬ sp_law_listed K 0 vs H Q E := by
  rintro vs H Q E ⟨a, xs, b, k, ar, p, A, ns, us, es, _, _, _, _, _, h, _⟩
  omega
theorem pure_law_listed (K : PySem.W.Frag) (n : Nat) (vs : List V) (H : Hp) (Q : VK) (E : XK) (h : sp_law_listed K (n + 1) vs H Q E) :
    t_law_listed K n { nx := fun _ H' => Q .non H', rt := Q } (start N_law_listed vs) H := by
  obtain ⟨a, xs, b, k, ar, p, A, ns, us, es, rfl, hs, hb, ho, hn, hz, har, nap, hA, hp, hE, q⟩ := h
  unfold t_law_listed
  walk_at "go"
  refine for_sx (xs := xs) (fun i σ H' => SameX p H H' ∧ ∃ (vs : List V) (w3 w4 : Option V), σ = [some (.ref a), some (.ref ar), some (.ref p), w3, w4] ∧ H' p = some (.lst vs) ∧ All2 (EntL K H' p) vs (es ++ entsB k A (b.take i))) hs
    ⟨fun _ _ _ h => h, us, _, _, rfl, hp, by rw [show entsB k A (b.take 0) = [] from rfl, List.append_nil]; exact hE⟩ (fun i σ H' h => h.1) ?_ ?_
  · rintro i x σ H2 hx ⟨x2, vs, w3, w4, rfl, hp2, hE2⟩
    obtain ⟨rw, hrw, hrow⟩ := hb.get hx
    have rm : rw ∈ b := List.mem_of_getElem? hrw
    have rn := nest_mem rm
    have rok := oks_mem ho rw rm
    have tk := take_snoc hrw
    have zt : szs (b.take (i + 1)) ≤ szs b := szs_take
    rw [tk, szs_app] at zt
    have z1 : szs [rw] = rw.size := by show rw.size + 0 = _; omega
    rw [z1] at zt
    have ul := hE2.len
    rw [List.length_append, entsB_len, ← hE.len] at ul
    walk_at "go"
    refine w_new (by walk_at "sz") (fun T hT => ?_)
    have e3 := same_new (o := .tup [x, .ref ar]) hT
    have hp3 := e3 _ _ hp2
    walk_at "go"
    refine w_app hp3 (Nat.lt_of_le_of_lt (by omega : vs.length ≤ 100000) (by decide)) ?_
    have x3 : SameX p H (upd H2 T (.tup [x, .ref ar])) := x2.trans (.of e3)
    have ent : EntL K (upd H2 T (.tup [x, .ref ar])) p (.ref T) (k + szs (b.take i), rw, A) :=
      ⟨T, x, ar, rfl, SqT.of upd_same, hrow.monoT (x3.T hp), x3 _ _ nap har, nap, show A.length ≤ 1000000 by omega⟩
    have hE4 : All2 (EntL K (upd (upd H2 T (.tup [x, .ref ar])) p (.lst (vs ++ [.ref T]))) p) (vs ++ [.ref T]) (es ++ (entsB k A (b.take i) ++ [(k + szs (b.take i), rw, A)])) := by
      rw [← List.append_assoc]
      exact (((hE2.imp fun _ _ h => h.monoX (.of e3) hp2).app (All2.one ent)).imp fun _ _ h => h.monoX SameX.upd hp3)
    have x4 : SameX p H (upd (upd H2 T (.tup [x, .ref ar])) p (.lst (vs ++ [.ref T]))) := x3.trans SameX.upd
    have hp4 : upd (upd H2 T (.tup [x, .ref ar])) p (.lst (vs ++ [.ref T])) p = _ := upd_same
    generalize upd (upd H2 T (.tup [x, .ref ar])) p (.lst (vs ++ [.ref T])) = H4 at hE4 x4 hp4
    have hrow4 := hrow.monoT (x4.T hp)
    walk_at "go"
    refine ⟨_, rw, rfl, hrow4, fun pb H5 ws e5 hpb hpb5 hws => ?_⟩
    have hp5 := e5 _ _ hp4
    have hE5 := hE4.imp fun _ _ h => h.monoX (.of e5) hp4
    have x5 := x4.trans (.of e5)
    have pbp : pb ≠ p := (ne_of_none hp4 hpb).symm
    have hrow5 := hrow4.monoT (SameT.of e5)
    refine w_isL (SqL.of hpb5) ?_
    generalize hk' : k + szs (b.take i) = k' at *
    refine for_list (xs := ws) (fun j σ H' => SameX p H5 H' ∧ ∃ (vs : List V) (w4 : Option V), σ = [some (.ref a), some (.ref ar), some (.ref p), some x, w4] ∧ H' p = some (.lst vs) ∧
        All2 (EntL K H' p) vs (es ++ ((entsB k A (b.take i) ++ [(k', rw, A)]) ++ partsE (k' + 1) (A ++ fnames rw.fm) (rw.parts.take j)))) ⟨fun _ _ _ h => h, _, _, rfl, hp5, ?_⟩ (fun j σ H' _ h => SqL.of (h.1 _ _ pbp hpb5)) ?_ ?_
    · have : partsE (k' + 1) (A ++ fnames rw.fm) (rw.parts.take 0) = [] := rfl
      rw [this, List.append_nil]
      exact hE5
    · rintro j y σ H6 hy ⟨x6, vs6, w6, rfl, hp6, hE6⟩
      obtain ⟨bl, t, ys, hbl, rfl, hts, htb⟩ := hws.get hy
      have bm : bl ∈ rw.parts := List.mem_of_getElem? hbl
      have pn := parts_nest bl bm
      have ps := part_size bm
      have tkj := take_snoc hbl
      have x06 := x5.trans x6
      have hrow6 := hrow5.monoT (x6.T hp5)
      have vl := hE6.len
      rw [List.length_append, List.length_append, List.length_append, entsB_len, partsE_len, ← hE.len] at vl
      have pz : 1 + ((rw.parts.take j).map szs).sum + szs bl ≤ rw.size := by
        have q1 := sum_take (l := rw.parts.map szs) (i := j + 1)
        rw [← List.map_take, tkj, List.map_append, List.sum_append] at q1
        simp only [List.map_cons, List.map_nil, List.sum_cons, List.sum_nil] at q1
        rw [parts_size (r := rw)]
        omega
      walk_at "go"
      refine ⟨x, rw, rfl, hrow6, fun u H7 e7 hu => ?_⟩
      have ff := fmOr_ok rok
      walk_at "go"
      refine ⟨u, fmOr rw.fm, rfl, hu, Nat.le_trans ff.2 (by decide), Nat.le_trans ff.2 (by decide), fun p8 H8 e8 hp8 hp88 => ?_⟩
      rw [fmOr_names] at hp88
      have fl : (fnames rw.fm).length ≤ 4096 := by
        rw [← fmOr_names]
        exact Nat.le_trans (fmOr rw.fm).names_len (Nat.pow_le_pow_right (by decide) ff.2)
      have x08 := x06.trans (.of (e7.trans e8))
      refine w_addL (x08 _ _ nap har) hp88 (sz (by rw [List.length_map, List.length_map]; omega)) (fun p9 hp9 => ?_)
      rw [← List.map_append]
      have e9 := same_new (o := .lst ((A ++ fnames rw.fm).map V.str)) hp9
      have hp99 : upd H8 p9 (.lst ((A ++ fnames rw.fm).map V.str)) p9 = _ := upd_same
      have n9 : p9 ≠ p := (ne_of_none ((e7.trans e8) _ _ hp6) hp9).symm
      generalize upd H8 p9 (.lst ((A ++ fnames rw.fm).map V.str)) = H9 at e9 hp99
      have e69 := e7.trans (e8.trans e9)
      have hp69 := e69 _ _ hp6
      have x59 := x6.trans (.of e69)
      walk_at "go"
      refine ⟨t, ys, bl, k' + 1 + ((rw.parts.take j).map szs).sum, p9, p, A ++ fnames rw.fm, ns, vs6, _, rfl, sxq_t hp69 (sameT_t (x59.T hp5) hts), htb.monoT (x59.T hp5), parts_ok rok bl bm, by omega, ?_, hp99, n9, by rw [List.length_append]; omega, hp69, hE6.imp fun _ _ h => h.monoX (.of e69) hp6, fun H10 vs10 x10 hp10 hE10 => ?_⟩
      · rw [vl]
        simp only [List.length_singleton]
        omega
      · walk_at "go"
        refine ⟨x59.trans x10, vs10, _, rfl, hp10, ?_⟩
        rw [tkj, partsE_snoc, ← List.append_assoc, ← List.append_assoc]
        rw [← List.append_assoc] at hE10
        exact hE10
    · rintro σ H6 ⟨x6, vs6, w6, rfl, hp6, hE6⟩
      rw [hws.len, List.take_length] at hE6
      refine ⟨x5.trans x6, vs6, _, _, rfl, hp6, ?_⟩
      rw [tk, entsB_snoc, hk', ents_parts]
      rw [List.append_assoc (entsB k A (b.take i))] at hE6
      exact hE6
  · rintro σ H2 ⟨x2, vs, w3, w4, rfl, hp2, hE2⟩
    rw [hb.len, List.take_length] at hE2
    walk_at "go"
    exact q H2 vs x2 hp2 hE2
def rMax2 : List V → Hp → VK → Prop := fun xs H Q => ∃ i j, xs = [.int i, .int j] ∧ Q (.int (if j > i then j else i)) H
theorem o_max {X : Cx} (hc : X.calm = true) : CallR X (.builtin "max") rMax2 := call_max2 hc
theorem w_max {H : Hp} {Q : VK} {i j : Int} (q : Q (.int (if j > i then j else i)) H) : rMax2 [.int i, .int j] H Q := ⟨i, j, rfl, q⟩
theorem w_str {H : Hp} {Q : VK} {i : Int} (h : i.natAbs.log2 < 1920) (q : Q (.str (toString i)) H) : rStr [.int i] H Q := ⟨i, rfl, h, q⟩
def yoN (k : Nat) : Str := ("yo" : Str) ++ (Str.ofString (toString ((0 : Int) + (k : Int))))
def ysN (k : Nat) : Str := ("ys" : Str) ++ (Str.ofString (toString ((0 : Int) + (k : Int))))
theorem y_nm : ∀ k ∈ List.range 21, nmB (yoN k) = true ∧ nmB (ysN k) = true := by decide +kernel
theorem y_nd : ((List.range 21).map yoN ++ (List.range 21).map ysN).Nodup := by decide +kernel
theorem y_len : ∀ k ∈ List.range 21, ("yo" : Str).length + (Str.ofString (toString ((0 : Int) + (k : Int)))).length ≤ sizeLine ∧ ("ys" : Str).length + (Str.ofString (toString ((0 : Int) + (k : Int)))).length ≤ sizeLine := by decide +kernel
structure More (ns us ws : List Str) : Prop where
  nm : ∀ x ∈ us ++ ws, Nm x
  nd : (us ++ ws).Nodup
  out : ∀ x ∈ us ++ ws, x ∉ ns
  l1 : us.length ≤ 21
  l2 : ws.length ≤ 21
def sp_law_more (K : PySem.W.Frag) : Sp := fun vs H Q _ => ∃ (a : Addr) (ns : List Str) (c : Int), vs = [.ref a, .int c] ∧ SqL K H a (ns.map V.str) ∧
  ∀ (p r1 r2 : Addr) (us ws : List Str) (H' : Hp), Same H H' → H p = none → H' p = some (.lst [.ref r1, .ref r2]) → H' r1 = some (.lst (us.map V.str)) → H' r2 = some (.lst (ws.map V.str)) → More ns us ws → Q (.ref p) H'
structure Told (os ss : List Str) : Prop where
  nm : ∀ x ∈ os ++ ss, Nm x
  nd : (os ++ ss).Nodup
  l1 : os.length ≤ 26
  l2 : ss.length ≤ 26
def sp_law_told (K : PySem.W.Frag) : Sp := fun vs H Q _ => ∃ (a m r1 r2 : Addr) (ns us ws : List Str) (c : Int), vs = [.ref a, .ref m, .int c] ∧ SqL K H a (ns.map V.str) ∧ Ten ns ∧ H m = some (.lst [.ref r1, .ref r2]) ∧ H r1 = some (.lst (us.map V.str)) ∧ H r2 = some (.lst (ws.map V.str)) ∧ More ns us ws ∧
  ∀ (p x y : Addr) (os ss : List Str) (H' : Hp), Same H H' → H p = none → H x = none → H y = none → H' p = some (.lst [.ref x, .ref y]) → H' x = some (.lst (os.map V.str)) → H' y = some (.lst (ss.map V.str)) → x ≠ y → Told os ss → Q (.ref p) H'
abbrev N_law_more : List Str := ["_law_names_here", "_law_cell", "_law_many", "_law_found", "_law_k", "_law_row", "_law_name"]
def t_law_more (K : PySem.W.Frag) : TS :=
  (tSeq (tAsg (tOp (rIx K) (tLst (tCons (tC (.int 0)) (tCons (tOp rMod (tOp rDiv (tVar 1) (tC (.int 4))) (tC (.int 3))) (tCons (tOp rMod (tOp rDiv (tVar 1) (tC (.int 4))) (tC (.int 20))) (tCons (tC (.int 0)) tNil))))) (tOp rMod (tVar 1) (tC (.int 4)))) (gName 2)) (tSeq (tAsg (tLst (tCons (tLc (iRng1 (tCons (tVar 2) tNil)) (gName 4) tYes (tOp (rAdd K) (tC (.str "yo")) (tCB rStr (tCons (tVar 4) tNil))) [4]) (tCons (tLc (iRng1 (tCons (tOp (rAdd K) (tVar 2) (tOp rMod (tOp rDiv (tVar 1) (tC (.int 4))) (tC (.int 2)))) tNil)) (gName 4) tYes (tOp (rAdd K) (tC (.str "ys")) (tCB rStr (tCons (tVar 4) tNil))) [4]) tNil))) (gName 3)) (tRet (tLc (iSeq K (tVar 3)) (gName 5) tYes (tLc (iSeq K (tVar 5)) (gName 6) (tTest (tOp (rIn2 K true) (tVar 6) (tVar 0))) (tVar 6) [6]) [5]))))
abbrev N_law_told : List Str := ["_law_names_here", "_law_more_here", "_law_cell", "_law_rows", "_law_number", "_law_k", "_law_name", "_law_at"]
def t_law_told_j1 (K : PySem.W.Frag) : TS :=
  (tAsg (tOp rDiv (tVar 4) (tC (.int 3))) (gName 4))
def t_law_told (K : PySem.W.Frag) : TS :=
  (tSeq (tAsg (tLst (tCons (tCB (rList K) (tCons (tOp (rIx K) (tVar 1) (tC (.int 0))) tNil)) (tCons (tCB (rList K) (tCons (tOp (rIx K) (tVar 1) (tC (.int 1))) tNil)) tNil))) (gName 3)) (tSeq (tAsg (tVar 2) (gName 4)) (tSeq (tFor (iEnum K (tCons (tVar 0) tNil)) (gTup K 2 (gCons (gName 5) (gCons (gName 6) gNil))) (tSeq (tIfS (tTest (tOp rGt (tOp rMod (tVar 4) (tC (.int 3))) (tC (.int 0)))) (tDrop (tBM K "list" rAppend (tOp (rIx K) (tVar 3) (tOp rDiv (tVar 5) (tC (.int 5)))) (tCons (tVar 6) tNil))) tNext) (t_law_told_j1 K))) (tSeq (tAsg (tLst (tCons (tOp rMod (tOp rDiv (tVar 2) (tC (.int 27))) (tCB rMax2 (tCons (tC (.int 1)) (tCons (tCB (rLenA K) (tCons (tOp (rIx K) (tVar 3) (tC (.int 0))) tNil)) tNil)))) (tCons (tOp rMod (tOp rDiv (tVar 2) (tC (.int 189))) (tCB rMax2 (tCons (tC (.int 1)) (tCons (tCB (rLenA K) (tCons (tOp (rIx K) (tVar 3) (tC (.int 1))) tNil)) tNil)))) tNil))) (gName 7)) (tRet (tLst (tCons (tOp (rAdd K) (tSl (rSl K) (tOp (rIx K) (tVar 3) (tC (.int 0))) (tPart (tOp (rIx K) (tVar 7) (tC (.int 0)))) tNoPart) (tSl (rSl K) (tOp (rIx K) (tVar 3) (tC (.int 0))) tNoPart (tPart (tOp (rIx K) (tVar 7) (tC (.int 0)))))) (tCons (tOp (rAdd K) (tSl (rSl K) (tOp (rIx K) (tVar 3) (tC (.int 1))) (tPart (tOp (rIx K) (tVar 7) (tC (.int 1)))) tNoPart) (tSl (rSl K) (tOp (rIx K) (tVar 3) (tC (.int 1))) tNoPart (tPart (tOp (rIx K) (tVar 7) (tC (.int 1)))))) tNil))))))))
theorem pure_law_more (K : PySem.W.Frag) (vs : List V) (H : Hp) (Q : VK) (E : XK) (h : sp_law_more K vs H Q E) :
    t_law_more K { nx := fun _ H' => Q .non H', rt := Q } (start N_law_more vs) H := by
  obtain ⟨a, ns, c, rfl, hA, q⟩ := h
  unfold t_law_more
  walk_at "go"
  refine w_new (by walk_at "sz") (fun p0 hp0 => ?_)
  walk_at "go"
  have m3 := mod_in (c / 4) (show (0 : Int) < 3 by decide)
  have m20 := mod_in (c / 4) (show (0 : Int) < 20 by decide)
  have m4 := mod_in c (show (0 : Int) < 4 by decide)
  have m2 := mod_in (c / 4) (show (0 : Int) < 2 by decide)
  obtain ⟨z, zm, _, hz⟩ := at_map (f := V.int) (xs := [0, c / 4 % 3, c / 4 % 20, 0]) m4.1 m4.2
  have z20 : 0 ≤ z ∧ z < 20 := by
    rcases List.mem_cons.mp zm with h | zm
    · omega
    · rcases List.mem_cons.mp zm with h | zm
      · omega
      · rcases List.mem_cons.mp zm with h | zm
        · omega
        · have := List.mem_singleton.mp zm; omega
  refine w_ixL (SqL.of upd_same) hz ?_
  have e0 := same_new (o := .lst [.int 0, .int (c / 4 % 3), .int (c / 4 % 20), .int 0]) hp0
  generalize upd H p0 (.lst [.int 0, .int (c / 4 % 3), .int (c / 4 % 20), .int 0]) = H1 at e0
  walk_at "go"
  refine w_lc ?_
  walk_at "go"
  have lg : ∀ i : Nat, i < 21 → ((0 : Int) + (i : Int)).natAbs.log2 < 1920 := fun i hi => Nat.lt_of_le_of_lt (Nat.log2_le_self _) (by omega)
  have rsn : ∀ i : Nat, List.range (i + 1) = List.range i ++ [i] := fun i => List.range_succ
  refine ⟨z, rfl, by omega, by omega, fun D hD => lc_range (lo := 0) (n := z.toNat) (fun i H' => Same H1 H' ∧ H' D = some (.lst (((List.range i).map yoN).map V.str))) ⟨same_new hD, upd_same⟩ ?_ ?_⟩
  · rintro i H2 hi ⟨e2, hD2⟩
    have i21 : i < 21 := by omega
    have yl := y_len i (List.mem_range.mpr i21)
    refine ⟨rfl, ?_⟩
    walk_at "go"
    refine w_str (lg i i21) ?_
    refine w_addT yl.1 ?_
    refine ⟨_, hD2, Nat.lt_of_le_of_lt (by rw [List.length_map, List.length_map, List.length_range]; omega : _ ≤ 21) (by decide), same_mut e2 hD, ?_⟩
    rw [upd_same, rsn, List.map_append, List.map_append] <;> rfl
  · rintro H2 ⟨e2, hD2⟩
    walk_at "go"
    refine w_lc ?_
    walk_at "go"
    refine ⟨_, rfl, by omega, by omega, fun D3 hD3 => lc_range (lo := 0) (n := (z + c / 4 % 2).toNat) (fun i H' => Same H2 H' ∧ H' D3 = some (.lst (((List.range i).map ysN).map V.str))) ⟨same_new hD3, upd_same⟩ ?_ ?_⟩
    · rintro i H3 hi ⟨e3, hD33⟩
      have i21 : i < 21 := by omega
      have yl := y_len i (List.mem_range.mpr i21)
      refine ⟨rfl, ?_⟩
      walk_at "go"
      refine w_str (lg i i21) ?_
      refine w_addT yl.2 ?_
      refine ⟨_, hD33, Nat.lt_of_le_of_lt (by rw [List.length_map, List.length_map, List.length_range]; omega : _ ≤ 21) (by decide), same_mut e3 hD3, ?_⟩
      rw [upd_same, rsn, List.map_append, List.map_append] <;> rfl
    · rintro H3 ⟨e3, hD33⟩
      have n1 : z.toNat ≤ 21 := by omega
      have n2 : (z + c / 4 % 2).toNat ≤ 21 := by omega
      generalize z.toNat = k1 at *
      generalize (z + c / 4 % 2).toNat = k2 at *
      walk_at "go"
      refine w_new (by walk_at "sz") (fun F hF => ?_)
      have e4 := same_new (o := .lst [.ref D, .ref D3]) hF
      have hF4 : upd H3 F (.lst [.ref D, .ref D3]) F = _ := upd_same
      have hD4 := e4 _ _ (e3 _ _ hD2)
      have hD34 := e4 _ _ hD33
      have e04 := e0.trans (e2.trans (e3.trans e4))
      generalize upd H3 F (.lst [.ref D, .ref D3]) = H4 at e4 hF4 hD4 hD34 e04
      have hA4 := same_l e04 hA
      walk_at "go"
      refine w_lc ?_
      walk_at "go"
      refine w_isL (SqL.of hF4) (fun R hR => ?_)
      refine lc_each (xs := [.ref D, .ref D3]) (fun i y H' => ∃ t, y = .ref t ∧ t ≠ R ∧ H' t = some (.lst (((if i = 0 then (List.range k1).map yoN else (List.range k2).map ysN).filter fun x => !decide (x ∈ ns)).map V.str))) (SqL.of hF4) (by walk_at "sz1") hR
        (fun i y H1 H2 ⟨t, h1, h2, h3⟩ sx => ⟨t, h1, h2, sx t _ h2 h3⟩) ?_ ?_
      · rintro i x H5 Nx hx e5 ⟨acc, hacc⟩ k
        refine ⟨rfl, ?_⟩
        have fin : ∀ (d : Addr) (ls : List Str), x = .ref d → H5 d = some (.lst (ls.map V.str)) → ls.length ≤ 21 → ls = (if i = 0 then (List.range k1).map yoN else (List.range k2).map ysN) →
            tLc (iSeq K (tVar 5)) (gName 6) (tTest (tOp (rIn2 K true) (tVar 6) (tVar 0))) (tVar 6) [6] [some (.ref a), some (.int c), some (.int z), some (.ref F), none, some x, none] H5 (fun y H4 => ∃ acc, H4 R = some (.lst acc) ∧ acc.length < sizeLine ∧ Nx (upd H4 R (.lst (acc ++ [y])))) := by
          rintro d ls rfl hd hl hls
          refine w_lc ?_
          walk_at "go"
          refine w_isL (SqL.of hd) (fun R2 hR2 => ?_)
          refine lc_filter (ys := ls) (fun x => !decide (x ∈ ns)) V.str (SqL.of hd) (by omega) hR2 ?_ ?_
          · rintro y H6 Nx2 hy e6 ⟨zs, hzs⟩ yes no
            refine ⟨rfl, ?_⟩
            walk_at "go"
            refine w_ninTxt (xs := ns) (same_l (e5.trans e6) hA4) ?_
            walk_at "go"
            refine w_two (fun b => ?_) (fun b => ?_)
            · walk_at "go"
              exact yes b _ (Same.refl _)
            · exact no b _ (Same.refl _)
          · intro H6 e6 hR6
            exact k _ H6 e6 ⟨R2, rfl, (ne_of_none hacc hR2).symm, by rw [← hls]; exact hR6⟩
        rcases i with _ | _ | i
        · exact fin D _ (Option.some.inj hx).symm (e5 _ _ hD4) (by rw [List.length_map, List.length_range]; exact n1) rfl
        · exact fin D3 _ (Option.some.inj hx).symm (e5 _ _ hD34) (by rw [List.length_map, List.length_range]; exact n2) rfl
        · simp at hx
      · intro H5 us e5 hR5 hl5 hRR
        obtain ⟨u1, u2, rfl⟩ := list_two hl5
        obtain ⟨t1, rfl, _, h1⟩ := hRR 0 _ rfl
        obtain ⟨t2, rfl, _, h2⟩ := hRR 1 _ rfl
        refine q R t1 t2 _ _ H5 (e04.trans e5) (none_of e04 hR) hR5 h1 h2 ?_
        have s1 : List.Sublist ((List.range k1).map yoN) ((List.range 21).map yoN) := by
          refine List.Sublist.map _ ?_
          have : List.range k1 = (List.range 21).take k1 := by rw [List.take_range, Nat.min_eq_left n1]
          rw [this]
          exact List.take_sublist _ _
        have s2 : List.Sublist ((List.range k2).map ysN) ((List.range 21).map ysN) := by
          refine List.Sublist.map _ ?_
          have : List.range k2 = (List.range 21).take k2 := by rw [List.take_range, Nat.min_eq_left n2]
          rw [this]
          exact List.take_sublist _ _
        have f1 := (List.filter_sublist (p := fun x => !decide (x ∈ ns)) (l := (List.range k1).map yoN)).trans s1
        have f2 := (List.filter_sublist (p := fun x => !decide (x ∈ ns)) (l := (List.range k2).map ysN)).trans s2
        have sub := List.Sublist.append f1 f2
        have nm : ∀ x ∈ (List.range 21).map yoN ++ (List.range 21).map ysN, Nm x := by
          intro x hx
          rcases List.mem_append.mp hx with h | h
          · obtain ⟨j, hj, rfl⟩ := List.mem_map.mp h
            exact nm_iff.mp (y_nm j hj).1
          · obtain ⟨j, hj, rfl⟩ := List.mem_map.mp h
            exact nm_iff.mp (y_nm j hj).2
        refine ⟨fun x hx => nm x (sub.subset hx), List.Sublist.nodup sub y_nd, fun x hx => ?_, ?_, ?_⟩
        · rcases List.mem_append.mp hx with h | h
          · have := (List.mem_filter.mp h).2; simpa using this
          · have := (List.mem_filter.mp h).2; simpa using this
        · exact Nat.le_trans f1.length_le (by rw [List.length_map, List.length_range]; exact Nat.le_refl _)
        · exact Nat.le_trans f2.length_le (by rw [List.length_map, List.length_range]; exact Nat.le_refl _)
theorem rot_perm {l : List Str} {n : Nat} : (l.drop n ++ l.take n).Perm l := by
  have : (l.take n ++ l.drop n).Perm l := by rw [List.take_append_drop]
  exact List.perm_append_comm.trans this
theorem rot_cut {l : List Str} {i : Int} (h : 0 ≤ i) : cutV (l.map V.str) (some i) none ++ cutV (l.map V.str) none (some i) = (l.drop i.toNat ++ l.take i.toNat).map V.str := by
  obtain ⟨n, rfl⟩ := Int.eq_ofNat_of_zero_le h
  rw [cut_hi, cut_lo, List.map_append, Int.toNat_natCast]
theorem pure_law_told (K : PySem.W.Frag) (vs : List V) (H : Hp) (Q : VK) (E : XK) (h : sp_law_told K vs H Q E) :
    t_law_told K { nx := fun _ H' => Q .non H', rt := Q } (start N_law_told vs) H := by
  obtain ⟨a, m, r1, r2, ns, us, ws, c, rfl, hA, hT, hm, hr1, hr2, hM, q⟩ := h
  unfold t_law_told
  walk_at "go"
  refine w_listL (SqL.of hr1) (fun x hx => ?_)
  have e1 := same_new (o := .lst (us.map V.str)) hx
  have hx1 : upd H x (.lst (us.map V.str)) x = _ := upd_same
  generalize upd H x (.lst (us.map V.str)) = H1 at e1 hx1
  have hm1 := e1 _ _ hm
  have hr21 := e1 _ _ hr2
  walk_at "go"
  refine w_listL (SqL.of hr21) (fun y hy => ?_)
  have e2 := same_new (o := .lst (ws.map V.str)) hy
  have hy2 : upd H1 y (.lst (ws.map V.str)) y = _ := upd_same
  have hx2 := e2 _ _ hx1
  have xy : x ≠ y := ne_of_none hx1 hy
  generalize upd H1 y (.lst (ws.map V.str)) = H2 at e2 hy2 hx2
  walk_at "go"
  refine w_new (by walk_at "sz") (fun R hR => ?_)
  have e3 := same_new (o := .lst [.ref x, .ref y]) hR
  have hR3 : upd H2 R (.lst [.ref x, .ref y]) R = _ := upd_same
  have hx3 := e3 _ _ hx2
  have hy3 := e3 _ _ hy2
  have xR : x ≠ R := ne_of_none hx2 hR
  have yR : y ≠ R := ne_of_none hy2 hR
  have e03 := e1.trans (e2.trans e3)
  have y0 : H y = none := none_of e1 hy
  generalize upd H2 R (.lst [.ref x, .ref y]) = H3 at e03 hR3 hx3 hy3
  walk_at "go"
  refine ⟨a, ns.map V.str, rfl, same_l e03 hA, for_enum (xs := ns.map V.str) (fun i σ H' => Same H H' ∧ ∃ (o : Int) (c1 c2 : List Str) (w5 w6 w7 : Option V), σ = [some (.ref a), some (.ref m), some (.int c), some (.ref R), some (.int o), w5, w6, w7] ∧
      H' R = some (.lst [.ref x, .ref y]) ∧ H' x = some (.lst ((us ++ c1).map V.str)) ∧ H' y = some (.lst ((ws ++ c2).map V.str)) ∧ List.Sublist c1 ((ns.take i).take 5) ∧ List.Sublist c2 ((ns.take i).drop 5))
    ⟨e03, c, [], [], _, _, _, rfl, hR3, by rw [List.append_nil]; exact hx3, by rw [List.append_nil]; exact hy3, List.nil_sublist _, List.nil_sublist _⟩ (fun i σ H' _ h => same_l h.1 hA) ?_ ?_⟩
  · rintro i v σ H4 T hv hT0 ⟨e4, o, c1, c2, w5, w6, w7, rfl, hR4, hx4, hy4, s1, s2⟩
    have hi : i < ns.length := by have := (List.getElem?_eq_some_iff.mp hv).1; rw [List.length_map] at this; exact this
    rw [hT.len] at hi
    obtain ⟨z, hz, rfl⟩ : ∃ z, ns[i]? = some z ∧ V.str z = v := by
      rw [List.getElem?_map] at hv
      cases d : ns[i]? with
      | none => rw [d] at hv; exact nomatch hv
      | some z => rw [d] at hv; exact ⟨z, rfl, Option.some.inj hv⟩
    have tk := take_snoc hz
    have e5 := e4.trans (same_new (o := .tup [.int (i : Nat), .str z]) hT0)
    have s5 := same_new (o := .tup [.int (i : Nat), .str z]) hT0
    have hR5 := s5 _ _ hR4
    have hx5 := s5 _ _ hx4
    have hy5 := s5 _ _ hy4
    have l1 := s1.length_le
    have l2 := s2.length_le
    rw [List.length_take, List.length_take, hT.len] at l1
    rw [List.length_drop, List.length_take, hT.len] at l2
    have s1' : List.Sublist c1 ((ns.take (i + 1)).take 5) := by
      refine s1.trans ?_
      rw [tk, List.take_append]
      exact List.sublist_append_left _ _
    have s2' : List.Sublist c2 ((ns.take (i + 1)).drop 5) := by
      refine s2.trans ?_
      rw [tk, List.drop_append]
      exact List.sublist_append_left _ _
    have j1 : ∀ (H6 : Hp) (c1 c2 : List Str), Same H H6 → H6 R = some (.lst [.ref x, .ref y]) → H6 x = some (.lst ((us ++ c1).map V.str)) → H6 y = some (.lst ((ws ++ c2).map V.str)) → List.Sublist c1 ((ns.take (i + 1)).take 5) → List.Sublist c2 ((ns.take (i + 1)).drop 5) →
        t_law_told_j1 K ⟨fun σ H' => Same H H' ∧ ∃ (o : Int) (c1 c2 : List Str) (w5 w6 w7 : Option V), σ = [some (.ref a), some (.ref m), some (.int c), some (.ref R), some (.int o), w5, w6, w7] ∧
      H' R = some (.lst [.ref x, .ref y]) ∧ H' x = some (.lst ((us ++ c1).map V.str)) ∧ H' y = some (.lst ((ws ++ c2).map V.str)) ∧ List.Sublist c1 ((ns.take (i + 1)).take 5) ∧ List.Sublist c2 ((ns.take (i + 1)).drop 5), Q, fun _ _ => False, fun _ _ => False⟩
          [some (.ref a), some (.ref m), some (.int c), some (.ref R), some (.int o), some (.int (i : Nat)), some (.str z), w7] H6 := by
      intro H6 c1 c2 h1 h2 h3 h4 h5 h6
      unfold t_law_told_j1
      walk_at "go"
      exact ⟨h1, _, c1, c2, _, _, _, rfl, h2, h3, h4, h5, h6⟩
    walk_at "go"
    refine w_two (fun _ => ?_) (fun _ => ?_)
    · walk_at "go"
      rcases Nat.lt_or_ge i 5 with lt | ge
      · have at1 : atI [V.ref x, V.ref y] (((i : Nat) : Int) / 5) = some (.ref x) := by
          rw [show ((i : Nat) : Int) / 5 = 0 by omega] <;> rfl
        refine w_ixL (SqL.of hR5) at1 ?_
        walk_at "go"
        refine w_app hx5 (Nat.lt_of_le_of_lt (by rw [List.length_map, List.length_append]; have := hM.l1; omega : _ ≤ 100) (by decide)) ?_
        refine j1 _ (c1 ++ [z]) c2 (same_mut e5 hx) ((upd_ne xR.symm).trans hR5) (by rw [upd_same, ← List.append_assoc, List.map_append (l₁ := us ++ c1)] <;> rfl) ((upd_ne xy.symm).trans hy5) ?_ s2'
        rw [tk, List.take_append]
        refine List.Sublist.append s1 ?_
        have : (ns.take i).length = i := by rw [List.length_take, hT.len]; omega
        rw [this]
        obtain ⟨d, hd⟩ : ∃ d, 5 - i = d + 1 := ⟨4 - i, by omega⟩
        rw [hd, List.take_of_length_le (by simp)]
        exact List.Sublist.refl _
      · have at1 : atI [V.ref x, V.ref y] (((i : Nat) : Int) / 5) = some (.ref y) := by
          rw [show ((i : Nat) : Int) / 5 = 1 by omega] <;> rfl
        refine w_ixL (SqL.of hR5) at1 ?_
        walk_at "go"
        refine w_app hy5 (Nat.lt_of_le_of_lt (by rw [List.length_map, List.length_append]; have := hM.l2; omega : _ ≤ 100) (by decide)) ?_
        refine j1 _ c1 (c2 ++ [z]) (same_mut e5 y0) ((upd_ne yR.symm).trans hR5) ((upd_ne xy).trans hx5) (by rw [upd_same, ← List.append_assoc, List.map_append (l₁ := ws ++ c2)] <;> rfl) s1' ?_
        rw [tk, List.drop_append]
        refine List.Sublist.append s2 ?_
        have : (ns.take i).length = i := by rw [List.length_take, hT.len]; omega
        rw [this, show 5 - i = 0 by omega]
        exact List.Sublist.refl _
    · walk_at "go"
      exact j1 _ c1 c2 e5 hR5 hx5 hy5 s1' s2'
  · rintro σ H4 ⟨e4, o, c1, c2, w5, w6, w7, rfl, hR4, hx4, hy4, s1, s2⟩
    rw [List.length_map, List.take_length] at s1 s2
    have l1 := s1.length_le
    have l2 := s2.length_le
    rw [List.length_take, hT.len] at l1
    rw [List.length_drop, hT.len] at l2
    have all : Told (us ++ c1) (ws ++ c2) := by
      have cs : List.Sublist (c1 ++ c2) ns := by
        have := List.Sublist.append s1 s2
        rw [List.take_append_drop] at this
        exact this
      have pm : ((us ++ c1) ++ (ws ++ c2)).Perm ((us ++ ws) ++ (c1 ++ c2)) := by
        rw [List.append_assoc, List.append_assoc]
        refine List.Perm.append_left _ ?_
        rw [← List.append_assoc, ← List.append_assoc]
        exact List.Perm.append_right _ List.perm_append_comm
      refine ⟨fun z hz => ?_, ?_, by rw [List.length_append]; have := hM.l1; omega, by rw [List.length_append]; have := hM.l2; omega⟩
      · rcases List.mem_append.mp (pm.mem_iff.mp hz) with h | h
        · exact hM.nm z h
        · exact hT.nm z (cs.subset h)
      · refine pm.nodup_iff.mpr (List.nodup_append.mpr ⟨hM.nd, List.Sublist.nodup cs hT.nd, fun u hu w hw e => ?_⟩)
        exact hM.out u hu (e ▸ cs.subset hw)
    generalize us ++ c1 = L1 at *
    generalize ws ++ c2 = L2 at *
    walk_at "go"
    refine w_max ?_
    have mx : ∀ n : Nat, 0 < (if (n : Int) > 1 then (n : Int) else 1) := fun n => by split <;> omega
    have p1 := mx (L1.map V.str).length
    have p2 := mx (L2.map V.str).length
    refine w_mod p1 ?_
    walk_at "go"
    refine w_max ?_
    refine w_mod p2 ?_
    walk_at "go"
    have n1 := (mod_in (c / 27) p1).1
    have n2 := (mod_in (c / 189) p2).1
    generalize c / 27 % (if ((L1.map V.str).length : Int) > 1 then ((L1.map V.str).length : Int) else 1) = i1 at *
    generalize c / 189 % (if ((L2.map V.str).length : Int) > 1 then ((L2.map V.str).length : Int) else 1) = i2 at *
    refine w_new (by walk_at "sz") (fun W hW => ?_)
    have e5 := same_new (o := .lst [.int i1, .int i2]) hW
    have hW5 : upd H4 W (.lst [.int i1, .int i2]) W = _ := upd_same
    have hR5 := e5 _ _ hR4
    have hx5 := e5 _ _ hx4
    have hy5 := e5 _ _ hy4
    have e05 := e4.trans e5
    generalize upd H4 W (.lst [.int i1, .int i2]) = H5 at e05 hW5 hR5 hx5 hy5
    have q1 := rot_perm (l := L1) (n := i1.toNat)
    have q2 := rot_perm (l := L2) (n := i2.toNat)
    have k1 : (cutV (L1.map V.str) (some i1) none).length + (cutV (L1.map V.str) none (some i1)).length ≤ 100 := by
      rw [← List.length_append, rot_cut n1, List.length_map, q1.length_eq]
      have := all.l1
      omega
    have k2 : (cutV (L2.map V.str) (some i2) none).length + (cutV (L2.map V.str) none (some i2)).length ≤ 100 := by
      rw [← List.length_append, rot_cut n2, List.length_map, q2.length_eq]
      have := all.l2
      omega
    walk_at "go"
    refine w_slL (SqL.of hx5) (fun p6 hp6 => ?_)
    have e6 := same_new (o := .lst (cutV (L1.map V.str) (some i1) none)) hp6
    have hp66 : upd H5 p6 (.lst (cutV (L1.map V.str) (some i1) none)) p6 = _ := upd_same
    have hW6 := e6 _ _ hW5
    have hR6 := e6 _ _ hR5
    have hx6 := e6 _ _ hx5
    have hy6 := e6 _ _ hy5
    generalize upd H5 p6 (.lst (cutV (L1.map V.str) (some i1) none)) = H6 at e6 hp66 hW6 hR6 hx6 hy6
    walk_at "go"
    refine w_slL (SqL.of hx6) (fun p7 hp7 => ?_)
    have e7 := same_new (o := .lst (cutV (L1.map V.str) none (some i1))) hp7
    have hp77 : upd H6 p7 (.lst (cutV (L1.map V.str) none (some i1))) p7 = _ := upd_same
    have hp67 := e7 _ _ hp66
    have hW7 := e7 _ _ hW6
    have hR7 := e7 _ _ hR6
    have hy7 := e7 _ _ hy6
    generalize upd H6 p7 (.lst (cutV (L1.map V.str) none (some i1))) = H7 at e7 hp77 hp67 hW7 hR7 hy7
    refine w_addL hp67 hp77 (sz (by omega)) (fun p8 hp8 => ?_)
    rw [rot_cut n1]
    have e8 := same_new (o := .lst ((L1.drop i1.toNat ++ L1.take i1.toNat).map V.str)) hp8
    have hp88 : upd H7 p8 (.lst ((L1.drop i1.toNat ++ L1.take i1.toNat).map V.str)) p8 = _ := upd_same
    have hW8 := e8 _ _ hW7
    have hR8 := e8 _ _ hR7
    have hy8 := e8 _ _ hy7
    have e08 := e05.trans (e6.trans (e7.trans e8))
    have n8 : H p8 = none := none_of (e05.trans (e6.trans e7)) hp8
    generalize upd H7 p8 (.lst ((L1.drop i1.toNat ++ L1.take i1.toNat).map V.str)) = H8 at e08 hp88 hW8 hR8 hy8
    walk_at "go"
    refine w_slL (SqL.of hy8) (fun p9 hp9 => ?_)
    have e9 := same_new (o := .lst (cutV (L2.map V.str) (some i2) none)) hp9
    have hp99 : upd H8 p9 (.lst (cutV (L2.map V.str) (some i2) none)) p9 = _ := upd_same
    have hW9 := e9 _ _ hW8
    have hR9 := e9 _ _ hR8
    have hy9 := e9 _ _ hy8
    have hp89 := e9 _ _ hp88
    generalize upd H8 p9 (.lst (cutV (L2.map V.str) (some i2) none)) = H9 at e9 hp99 hW9 hR9 hy9 hp89
    walk_at "go"
    refine w_slL (SqL.of hy9) (fun p10 hp10 => ?_)
    have e10 := same_new (o := .lst (cutV (L2.map V.str) none (some i2))) hp10
    have hp1010 : upd H9 p10 (.lst (cutV (L2.map V.str) none (some i2))) p10 = _ := upd_same
    have hp910 := e10 _ _ hp99
    have hp810 := e10 _ _ hp89
    generalize upd H9 p10 (.lst (cutV (L2.map V.str) none (some i2))) = H10 at e10 hp1010 hp910 hp810
    refine w_addL hp910 hp1010 (sz (by omega)) (fun p11 hp11 => ?_)
    rw [rot_cut n2]
    have e11 := same_new (o := .lst ((L2.drop i2.toNat ++ L2.take i2.toNat).map V.str)) hp11
    have hp1111 : upd H10 p11 (.lst ((L2.drop i2.toNat ++ L2.take i2.toNat).map V.str)) p11 = _ := upd_same
    have hp811 := e11 _ _ hp810
    have e011 := e08.trans (e9.trans (e10.trans e11))
    have n11 : H p11 = none := none_of (e08.trans (e9.trans e10)) hp11
    have ne : p8 ≠ p11 := ne_of_none hp810 hp11
    generalize upd H10 p11 (.lst ((L2.drop i2.toNat ++ L2.take i2.toNat).map V.str)) = H11 at e011 hp1111 hp811
    walk_at "go"
    refine w_new (by walk_at "sz") (fun p12 hp12 => ?_)
    have e12 := same_new (o := .lst [.ref p8, .ref p11]) hp12
    have pp := q1.append q2
    refine q p12 p8 p11 _ _ _ (e011.trans e12) (none_of e011 hp12) n8 n11 upd_same (e12 _ _ hp811) (e12 _ _ hp1111) ne ⟨fun z hz => all.nm z (pp.mem_iff.mp hz), pp.nodup_iff.mpr all.nd, by rw [q1.length_eq]; exact all.l1, by rw [q2.length_eq]; exact all.l2⟩
def Rw.own : Rw → List Str
  | .set x f => x :: f.names
  | r => fnames r.fm
def sp_Program_told (K : PySem.W.Frag) : Sp := fun vs H Q _ => ∃ (a : Addr) (os ss : List Str) (b : List Rw), vs = [.ref a] ∧ PrAt K H a os ss b ∧
  ∀ (p x y : Addr) (H' : Hp), Same H H' → H x = none → H y = none → x ≠ y → SqT K H' p [.ref x, .ref y] → H' x = some (.lst (os.map V.str)) → H' y = some (.lst (ss.map V.str)) → Q (.ref p) H'
def kindT (os ss : List Str) (x : Str) : Str := if x ∈ os then "open" else if x ∈ ss then "secret" else "free"
def sp_Program_kind (K : PySem.W.Frag) : Sp := fun vs H Q _ => ∃ (a : Addr) (os ss : List Str) (b : List Rw) (x : Str), vs = [.ref a, .str x] ∧ PrAt K H a os ss b ∧ Q (.str (kindT os ss x)) H
abbrev N_Program_told : List Str := ["self"]
def t_Program_told (K : PySem.W.Frag) : TS :=
  (tRet (tTup (tCons (tCB (rList K) (tCons (tFld K (tVar 0) "opened") tNil)) (tCons (tCB (rList K) (tCons (tFld K (tVar 0) "hidden") tNil)) tNil))))
abbrev N_Program_kind : List Str := ["self", "name"]
def t_Program_kind (K : PySem.W.Frag) : TS :=
  (tSeq (tIfS (tTest (tOp (rIn2 K false) (tVar 1) (tFld K (tVar 0) "opened"))) (tRet (tC (.str "open"))) tNext) (tSeq (tIfS (tTest (tOp (rIn2 K false) (tVar 1) (tFld K (tVar 0) "hidden"))) (tRet (tC (.str "secret"))) tNext) (tRet (tC (.str "free")))))
theorem pure_Program_told (K : PySem.W.Frag) (vs : List V) (H : Hp) (Q : VK) (E : XK) (h : sp_Program_told K vs H Q E) :
    t_Program_told K { nx := fun _ H' => Q .non H', rt := Q } (start N_Program_told vs) H := by
  obtain ⟨a, os, ss, b, rfl, hP, q⟩ := h
  obtain ⟨C, dx, o, hh, q', ys, hI⟩ := hP
  unfold t_Program_told
  walk_at "go"
  refine w_fldAt hI.ha hI.cc (by simp) rfl ?_
  walk_at "go"
  refine w_listL (SqL.of hI.ho) (fun x hx => ?_)
  have e1 := same_new (o := .lst (os.map V.str)) hx
  have hx1 : upd H x (.lst (os.map V.str)) x = _ := upd_same
  have ha1 := e1 _ _ hI.ha
  have hh1 := e1 _ _ hI.hh
  generalize upd H x (.lst (os.map V.str)) = H1 at e1 hx1 ha1 hh1
  walk_at "go"
  refine w_fldAt ha1 hI.cc (by simp) rfl ?_
  walk_at "go"
  refine w_listL (SqL.of hh1) (fun y hy => ?_)
  have e2 := same_new (o := .lst (ss.map V.str)) hy
  have hy2 : upd H1 y (.lst (ss.map V.str)) y = _ := upd_same
  have hx2 := e2 _ _ hx1
  have xy : x ≠ y := ne_of_none hx1 hy
  generalize upd H1 y (.lst (ss.map V.str)) = H2 at e2 hy2 hx2
  walk_at "go"
  refine w_new (by walk_at "sz") (fun p hp => ?_)
  have e3 := same_new (o := .tup [.ref x, .ref y]) hp
  exact q p x y _ (e1.trans (e2.trans e3)) hx (none_of e1 hy) xy (SqT.of upd_same) (e3 _ _ hx2) (e3 _ _ hy2)
theorem pure_Program_kind (K : PySem.W.Frag) (vs : List V) (H : Hp) (Q : VK) (E : XK) (h : sp_Program_kind K vs H Q E) :
    t_Program_kind K { nx := fun _ H' => Q .non H', rt := Q } (start N_Program_kind vs) H := by
  obtain ⟨a, os, ss, b, x, rfl, hP, q⟩ := h
  obtain ⟨C, dx, o, hh, q', ys, hI⟩ := hP
  unfold t_Program_kind
  walk_at "go"
  refine w_fldAt hI.ha hI.cc (by simp) rfl ?_
  refine w_inTxt (xs := os) (SqL.of hI.ho) ?_
  walk_at "go"
  unfold kindT at q
  refine w_two (fun c => ?_) (fun c => ?_)
  · walk_at "go"
    rw [if_pos (of_decide_eq_true c)] at q
    exact q
  · rw [if_neg (of_decide_eq_false c)] at q
    walk_at "go"
    refine w_fldAt hI.ha hI.cc (by simp) rfl ?_
    refine w_inTxt (xs := ss) (SqL.of hI.hh) ?_
    walk_at "go"
    refine w_two (fun c => ?_) (fun c => ?_)
    · walk_at "go"
      rw [if_pos (of_decide_eq_true c)] at q
      exact q
    · walk_at "go"
      rw [if_neg (of_decide_eq_false c)] at q
      exact q
abbrev Chn := List (Nat × Str)
abbrev Chs := List (Str × Chn)
def Chs.keys (ch : Chs) : List Str := ch.map (·.1)
def chGet (ch : Chs) (x : Str) : Option Chn := (ch.find? fun p => decide (p.1 = x)).map (·.2)
theorem chGet_mem {ch : Chs} {x : Str} {c : Chn} (h : chGet ch x = some c) : (x, c) ∈ ch := by
  unfold chGet at h
  cases e : ch.find? (fun p : Str × Chn => decide (p.1 = x)) with
  | none => rw [e] at h; exact nomatch h
  | some p =>
    rw [e] at h
    have hp := of_decide_eq_true (List.find?_some (p := fun p : Str × Chn => decide (p.1 = x)) e)
    have hm := List.mem_of_find?_eq_some e
    have hc : p.2 = c := Option.some.inj h
    rw [← hp, ← hc]
    exact hm
theorem chGet_key {ch : Chs} {x : Str} (h : x ∈ Chs.keys ch) : ∃ c, chGet ch x = some c := by
  obtain ⟨p, hp, e⟩ := List.mem_map.mp h
  unfold chGet
  cases q : ch.find? (fun p : Str × Chn => decide (p.1 = x)) with
  | none => exact absurd (decide_eq_true e) (by have := List.find?_eq_none.mp q p hp; simpa using this)
  | some r => exact ⟨r.2, rfl⟩
theorem key_of {ch : Chs} {x : Str} {c : Chn} (h : (x, c) ∈ ch) : x ∈ Chs.keys ch := List.mem_map.mpr ⟨_, h, rfl⟩
theorem key_one {ch : Chs} (nd : (Chs.keys ch).Nodup) {x : Str} {c d : Chn} (h1 : (x, c) ∈ ch) (h2 : (x, d) ∈ ch) : c = d := by
  induction ch with
  | nil => exact nomatch h1
  | cons p r ih =>
    obtain ⟨n1, n2⟩ := List.nodup_cons.mp (show (p.1 :: Chs.keys r).Nodup from nd)
    rcases List.mem_cons.mp h1 with e1 | h1
    · rcases List.mem_cons.mp h2 with e2 | h2
      · exact (Prod.mk.inj (e1.trans e2.symm)).2
      · exact absurd (key_of h2) (by rw [show p.1 = x from congrArg Prod.fst e1.symm] at n1; exact n1)
    · rcases List.mem_cons.mp h2 with e2 | h2
      · exact absurd (key_of h1) (by rw [show p.1 = x from congrArg Prod.fst e2.symm] at n1; exact n1)
      · exact ih n2 h1 h2
theorem keys_app (a b : Chs) : Chs.keys (a ++ b) = Chs.keys a ++ Chs.keys b := List.map_append
/-- what ways_to tells: rs the flows into free names, ss the names told secret -/
structure Ways (ss : List Str) (rs : List Flo) (ch : Chs) : Prop where
  nd : (Chs.keys ch).Nodup
  base : ∀ s ∈ ss, (s, [(0, s)]) ∈ ch
  closed : ∀ f ∈ rs, f.2.1 ∈ Chs.keys ch → f.2.2 ∈ Chs.keys ch
  each : ∀ x c, (x, c) ∈ ch → (x ∈ ss ∧ c = [(0, x)]) ∨ ∃ f ∈ rs, ∃ d, (f.2.1, d) ∈ ch ∧ f.2.2 = x ∧ c = d ++ [(f.1, x)]
  short : ∀ f ∈ rs, ∀ c d, (f.2.1, c) ∈ ch → (f.2.2, d) ∈ ch → d.length ≤ c.length + 1
/-- at the head of the loop: kn the names whose rows are still to be looked at, all at the end of chains of j + 1 pairs -/
structure WayI (ss : List Str) (rs : List Flo) (ch : Chs) (kn : List Str) (j : Nat) : Prop where
  nd : (Chs.keys ch).Nodup
  base : ∀ s ∈ ss, (s, [(0, s)]) ∈ ch
  each : ∀ x c, (x, c) ∈ ch → (x ∈ ss ∧ c = [(0, x)]) ∨ ∃ f ∈ rs, ∃ d, (f.2.1, d) ∈ ch ∧ f.2.2 = x ∧ c = d ++ [(f.1, x)]
  most : ∀ x c, (x, c) ∈ ch → c.length ≤ j + 1
  now : ∀ k ∈ kn, ∃ c, (k, c) ∈ ch ∧ c.length = j + 1
  past : ∀ f ∈ rs, f.2.1 ∈ Chs.keys ch → f.2.1 ∉ kn → f.2.2 ∈ Chs.keys ch ∧ ∀ c d, (f.2.1, c) ∈ ch → (f.2.2, d) ∈ ch → d.length ≤ c.length + 1
theorem WayI.ends {ss : List Str} {rs : List Flo} {ch : Chs} {j : Nat} (h : WayI ss rs ch [] j) : Ways ss rs ch :=
  ⟨h.nd, h.base, fun f hf hk => (h.past f hf hk List.not_mem_nil).1, h.each, fun f hf c d hc hd => (h.past f hf (key_of hc) List.not_mem_nil).2 c d hc hd⟩
/-- within the pass over the rows: ps those looked at -/
structure WayP (rs ps : List Flo) (ch0 : Chs) (kn : List Str) (j : Nat) (ch : Chs) (fr : List Str) : Prop where
  nd : (Chs.keys ch).Nodup
  ext : ∃ e, ch = ch0 ++ e ∧ fr = Chs.keys e ∧ ∀ x c, (x, c) ∈ e → ∃ f ∈ rs, ∃ d, (f.2.1, d) ∈ ch0 ∧ f.2.2 = x ∧ c = d ++ [(f.1, x)] ∧ d.length = j + 1
  seen : ∀ f ∈ ps, f.2.1 ∈ kn → f.2.2 ∈ Chs.keys ch
theorem WayP.init {ss : List Str} {rs : List Flo} {ch : Chs} {kn : List Str} {j : Nat} (h : WayI ss rs ch kn j) : WayP rs [] ch kn j ch [] :=
  ⟨h.nd, ⟨[], (List.append_nil _).symm, rfl, fun _ _ h => nomatch h⟩, fun _ h => nomatch h⟩
theorem WayP.skip {rs ps : List Flo} {ch0 ch : Chs} {kn fr : List Str} {j : Nat} {f : Flo} (h : WayP rs ps ch0 kn j ch fr) (hf : ¬ (f.2.1 ∈ kn ∧ f.2.2 ∉ Chs.keys ch)) : WayP rs (ps ++ [f]) ch0 kn j ch fr :=
  ⟨h.nd, h.ext, fun g hg hk => (List.mem_append.mp hg).elim (fun hg => h.seen g hg hk) fun hg => by
    rw [List.mem_singleton.mp hg] at hk ⊢
    exact Decidable.byContradiction fun c => hf ⟨hk, c⟩⟩
theorem WayP.take {ss : List Str} {rs ps : List Flo} {ch0 ch : Chs} {kn fr : List Str} {j : Nat} {f : Flo} {d : Chn} (I : WayI ss rs ch0 kn j) (h : WayP rs ps ch0 kn j ch fr) (hm : f ∈ rs) (hk : f.2.1 ∈ kn) (hx : f.2.2 ∉ Chs.keys ch) (hd : (f.2.1, d) ∈ ch) :
    WayP rs (ps ++ [f]) ch0 kn j (ch ++ [(f.2.2, d ++ [(f.1, f.2.2)])]) (fr ++ [f.2.2]) := by
  obtain ⟨e, he, hfr, hall⟩ := h.ext
  obtain ⟨c, hc, hl⟩ := I.now _ hk
  have hc2 : (f.2.1, c) ∈ ch := by rw [he]; exact List.mem_append_left _ hc
  have hcd : d = c := key_one h.nd hd hc2
  refine ⟨?_, ⟨e ++ [(f.2.2, d ++ [(f.1, f.2.2)])], by rw [he, List.append_assoc], by rw [keys_app, hfr] <;> rfl, fun x c' hxc => ?_⟩, fun g hg hk => ?_⟩
  · rw [keys_app, List.nodup_append]
    refine ⟨h.nd, List.nodup_cons.mpr ⟨List.not_mem_nil, List.nodup_nil⟩, fun a ha b hb e => ?_⟩
    rw [List.mem_singleton.mp hb] at e
    have e : a = f.2.2 := e
    exact hx (e ▸ ha)
  · rcases List.mem_append.mp hxc with h1 | h1
    · exact hall x c' h1
    · have h1 := List.mem_singleton.mp h1
      obtain ⟨rfl, rfl⟩ := Prod.mk.inj h1
      exact ⟨f, hm, d, by rw [hcd]; exact hc, rfl, rfl, by rw [hcd]; exact hl⟩
  · rw [keys_app, List.mem_append]
    rcases List.mem_append.mp hg with hg | hg
    · exact .inl (h.seen g hg hk)
    · rw [List.mem_singleton.mp hg]; exact .inr (List.mem_singleton.mpr rfl)
theorem WayP.next {ss : List Str} {rs : List Flo} {ch0 ch : Chs} {kn fr : List Str} {j : Nat} (I : WayI ss rs ch0 kn j) (h : WayP rs rs ch0 kn j ch fr) : WayI ss rs ch fr (j + 1) := by
  obtain ⟨e, rfl, rfl, hall⟩ := h.ext
  refine ⟨h.nd, fun s hs => List.mem_append_left _ (I.base s hs), fun x c hx => ?_, fun x c hx => ?_, fun k hk => ?_, fun f hf hk hn => ?_⟩
  · rcases List.mem_append.mp hx with hx | hx
    · rcases I.each x c hx with h1 | ⟨f, hf, d, h1, h2⟩
      · exact .inl h1
      · exact .inr ⟨f, hf, d, List.mem_append_left _ h1, h2⟩
    · obtain ⟨f, hf, d, h1, h2, h3, _⟩ := hall x c hx
      exact .inr ⟨f, hf, d, List.mem_append_left _ h1, h2, h3⟩
  · rcases List.mem_append.mp hx with hx | hx
    · have := I.most x c hx; omega
    · obtain ⟨f, hf, d, h1, h2, rfl, h4⟩ := hall x c hx
      rw [List.length_append, List.length_singleton]
      omega
  · obtain ⟨p, hp, rfl⟩ := List.mem_map.mp hk
    obtain ⟨f, hf, d, h1, h2, h3, h4⟩ := hall p.1 p.2 hp
    exact ⟨p.2, List.mem_append_right _ hp, by rw [h3, List.length_append, List.length_singleton]; omega⟩
  · rw [keys_app] at hk
    have hk0 : f.2.1 ∈ Chs.keys ch0 := (List.mem_append.mp hk).resolve_right hn
    have old : ∀ c, (f.2.1, c) ∈ ch0 ++ e → (f.2.1, c) ∈ ch0 := fun c hc => (List.mem_append.mp hc).resolve_right fun q => hn (key_of q)
    by_cases hkn : f.2.1 ∈ kn
    · refine ⟨h.seen f hf hkn, fun c d hc hd => ?_⟩
      obtain ⟨c2, hc2, l2⟩ := I.now _ hkn
      have ec : c = c2 := key_one I.nd (old c hc) hc2
      have : d.length ≤ j + 2 := by
        rcases List.mem_append.mp hd with hd | hd
        · have := I.most _ d hd; omega
        · obtain ⟨g, hg, d2, h1, h2, rfl, h4⟩ := hall _ d hd
          rw [List.length_append, List.length_singleton]
          omega
      rw [ec, l2]
      omega
    · obtain ⟨p1, p2⟩ := I.past f hf hk0 hkn
      refine ⟨by rw [keys_app]; exact List.mem_append_left _ p1, fun c d hc hd => ?_⟩
      obtain ⟨d2, hd2⟩ := chGet_key p1
      have := chGet_mem hd2
      have ed : d = d2 := key_one h.nd hd (List.mem_append_left _ this)
      rw [ed]
      exact p2 c d2 (old c hc) this
def PaAt (K : PySem.W.Frag) (H : Hp) (v : V) (p : Nat × Str) : Prop := ∃ t, v = .ref t ∧ SqT K H t [.int (p.1 : Nat), .str p.2]
theorem PaAt.monoT {K : PySem.W.Frag} {H H' : Hp} (e : SameT H H') {v : V} {p : Nat × Str} (h : PaAt K H v p) : PaAt K H' v p := by
  obtain ⟨t, h1, h2⟩ := h
  exact ⟨t, h1, sameT_t e h2⟩
def ChAt (K : PySem.W.Frag) (H : Hp) (v : V) (c : Chn) : Prop := ∃ l us, v = .ref l ∧ H l = some (.lst us) ∧ All2 (PaAt K H) us c ∧ c ≠ []
/-- lists of pairs stay -/
def SameP (H H' : Hp) : Prop := SameT H H' ∧ ∀ (l t : Addr) (us : List V), H l = some (.lst (.ref t :: us)) → H' l = some (.lst (.ref t :: us))
theorem SameP.of {H H' : Hp} (e : Same H H') : SameP H H' := ⟨SameT.of e, fun l t us h => e l _ h⟩
theorem SameP.trans {H H1 H2 : Hp} (a : SameP H H1) (b : SameP H1 H2) : SameP H H2 := ⟨a.1.trans b.1, fun l t us h => b.2 l t us (a.2 l t us h)⟩
theorem SameP.dict {H : Hp} {D : Addr} {kvs : List (Key × V)} {o : HO} (h : H D = some (.dK kvs)) : SameP H (upd H D o) :=
  ⟨SameT.upd h rfl, fun l t us hl => by
    rw [upd_ne (fun e => by rw [e, h] at hl; exact nomatch Option.some.inj hl)]
    exact hl⟩
theorem SameP.strs {H : Hp} {p : Addr} {xs : List Str} {o : HO} (h : H p = some (.lst (xs.map V.str))) : SameP H (upd H p o) :=
  ⟨SameT.upd h rfl, fun l t us hl => by
    rw [upd_ne (fun e => by
      rw [e, h] at hl
      have := HO.lst.inj (Option.some.inj hl)
      cases xs with
      | nil => exact nomatch this
      | cons x r => exact nomatch (List.cons.inj this).1)]
    exact hl⟩
theorem ChAt.go {K : PySem.W.Frag} {H H' : Hp} (e : SameP H H') {v : V} {c : Chn} (h : ChAt K H v c) : ChAt K H' v c := by
  obtain ⟨l, us, rfl, h2, h3, h4⟩ := h
  refine ⟨l, us, rfl, ?_, h3.imp fun _ _ q => q.monoT e.1, h4⟩
  cases h3 with
  | nil => exact absurd rfl h4
  | cons q t =>
    obtain ⟨t', rfl, _⟩ := q
    exact e.2 _ _ _ h2
inductive KvAll (K : PySem.W.Frag) (H : Hp) : List (Key × V) → Chs → Prop where
  | nil : KvAll K H [] []
  | cons {x : Str} {v : V} {c : Chn} {kvs : List (Key × V)} {ch : Chs} (h : ChAt K H v c) (t : KvAll K H kvs ch) : KvAll K H ((.inr x, v) :: kvs) ((x, c) :: ch)
theorem KvAll.go {K : PySem.W.Frag} {H H' : Hp} (e : SameP H H') : ∀ {kvs : List (Key × V)} {ch : Chs}, KvAll K H kvs ch → KvAll K H' kvs ch
  | _, _, .nil => .nil
  | _, _, .cons h t => .cons (h.go e) (t.go e)
theorem KvAll.snoc {K : PySem.W.Frag} {H : Hp} {x : Str} {v : V} {c : Chn} (h : ChAt K H v c) : ∀ {kvs : List (Key × V)} {ch : Chs}, KvAll K H kvs ch → KvAll K H (kvs ++ [(.inr x, v)]) (ch ++ [(x, c)])
  | _, _, .nil => .cons h .nil
  | _, _, .cons h2 t => .cons h2 (t.snoc h)
theorem KvAll.keys {K : PySem.W.Frag} {H : Hp} : ∀ {kvs : List (Key × V)} {ch : Chs}, KvAll K H kvs ch → kvs.map (·.1) = (Chs.keys ch).map Sum.inr
  | _, _, .nil => rfl
  | _, _, .cons _ t => congrArg (_ :: ·) t.keys
theorem KvAll.len {K : PySem.W.Frag} {H : Hp} {kvs : List (Key × V)} {ch : Chs} (h : KvAll K H kvs ch) : kvs.length = ch.length := by
  have := congrArg List.length h.keys
  simpa [Chs.keys] using this
theorem KvAll.at_ {K : PySem.W.Frag} {H : Hp} {x : Str} {c : Chn} : ∀ {kvs : List (Key × V)} {ch : Chs}, KvAll K H kvs ch → chGet ch x = some c → ∃ v, valV kvs (.inr x) = some v ∧ ChAt K H v c
  | _, _, .nil, h => nomatch h
  | _, _, .cons (x := y) (v := v) (c := d) (ch := ch) hd t, h => by
    by_cases e : y = x
    · subst e
      have : chGet ((y, d) :: ch) y = some d := by simp [chGet]
      rw [this] at h
      rw [← Option.some.inj h]
      exact ⟨v, valV_pos rfl, hd⟩
    · have : chGet ((y, d) :: ch) x = chGet ch x := by simp [chGet, e]
      rw [this] at h
      obtain ⟨w, h1, h2⟩ := t.at_ h
      exact ⟨w, (valV_neg (p := ((Sum.inr y : Key), v)) (fun z => e (Sum.inr.inj z))).trans h1, h2⟩
theorem valV_none {kvs : List (Key × V)} {x : Key} (h : x ∉ kvs.map (·.1)) : valV kvs x = none := by
  induction kvs with
  | nil => rfl
  | cons p r ih =>
    rw [List.map_cons, List.mem_cons, not_or] at h
    exact (valV_neg (fun e => h.1 e.symm)).trans (ih h.2)
theorem valV_some {kvs : List (Key × V)} {x : Key} (h : x ∈ kvs.map (·.1)) : (valV kvs x).isSome = true := by
  rw [← valV_any]
  obtain ⟨p, hp, e⟩ := List.mem_map.mp h
  exact List.any_eq_true.mpr ⟨p, hp, decide_eq_true e⟩
theorem KvAll.has {K : PySem.W.Frag} {H : Hp} {x : Str} {kvs : List (Key × V)} {ch : Chs} (h : KvAll K H kvs ch) : (valV kvs (.inr x)).isSome = decide (x ∈ Chs.keys ch) := by
  by_cases c : x ∈ Chs.keys ch
  · rw [decide_eq_true c]
    exact valV_some (by rw [h.keys]; exact List.mem_map.mpr ⟨x, c, rfl⟩)
  · rw [decide_eq_false c, valV_none (by rw [h.keys]; exact fun q => by obtain ⟨y, hy, e⟩ := List.mem_map.mp q; exact c (Sum.inr.inj e ▸ hy))] <;> rfl
theorem w_din {neg : Bool} {H : Hp} {Q : VK} {D : Addr} {kvs : List (Key × V)} {x : Str} (h : H D = some (.dK kvs)) (q : Q (.bl (if neg then !(valV kvs (.inr x)).isSome else (valV kvs (.inr x)).isSome)) H) : rDIn neg (.str x) (.ref D) H Q := ⟨D, _, rfl, DGet.k (k := .inr x) h, q⟩
noncomputable def freeR (os ss : List Str) (b : List Rw) : List Flo := (flowsB b).filter fun f => decide (kindT os ss f.2.2 = "free")
noncomputable def sp_ways_to (K : PySem.W.Frag) : Sp := fun vs H Q _ => ∃ (a : Addr) (os ss ns : List Str) (b : List Rw), vs = [.ref a] ∧ PrAt K H a os ss b ∧ oks ns b ∧ ns.length ≤ 1000 ∧ nests b ≤ 8 ∧ szs b ≤ 1000 ∧ ss.Nodup ∧ ss.length ≤ 60 ∧ (∀ x ∈ ss ++ ns, Nm x) ∧
  ∀ (D : Addr) (H' : Hp) (kvs : List (Key × V)) (ch : Chs), Same H H' → H D = none → H' D = some (.dK kvs) → KvAll K H' kvs ch → Ways ss (freeR os ss b) ch → (∀ x ∈ Chs.keys ch, x ∈ ss ++ ns) → Q (.ref D) H'
def rDictP (K : PySem.W.Frag) : List V → Hp → VK → Prop := fun xs H Q => ∃ (a : Addr) (ps : List Addr) (kvs : List (Key × V)), xs = [.ref a] ∧ SqL K H a (ps.map V.ref) ∧ Paired (fun p kv => SqT K H p [kV kv.1, kv.2]) ps kvs ∧ ∀ p, H p = none → Q (.ref p) (upd H p (.dK (mergeK [] kvs)))
theorem o_dictP {X : Cx} (hc : X.calm = true) : CallR X (.type "dict") (rDictP X.K) := call_dictP hc
theorem w_sortS {K : PySem.W.Frag} {H : Hp} {Q : VK} {a : Addr} {xs : List Str} (h : SqL K H a (xs.map V.str)) (l : xs.length < 64) (q : ∀ (ys : List Str) (p : Addr), ys.Perm xs → H p = none → Q (.ref p) (upd H p (.lst (ys.map V.str)))) : rSortedS K [.ref a] H Q := ⟨a, xs, rfl, h, l, fun ys p pm _ hp => q ys p pm hp⟩
theorem w_listD {K : PySem.W.Frag} {H : Hp} {Q : VK} {D : Addr} {kvs : List (Key × V)} (h : H D = some (.dK kvs)) (q : ∀ l, H l = none → Q (.ref l) (upd H l (.lst (kvs.map fun kv => kV kv.1)))) : rList K [.ref D] H Q := .inr ⟨D, kvs, rfl, .inl h, q⟩
theorem KvAll.names {K : PySem.W.Frag} {H : Hp} : ∀ {kvs : List (Key × V)} {ch : Chs}, KvAll K H kvs ch → (kvs.map fun kv => kV kv.1) = (Chs.keys ch).map V.str
  | _, _, .nil => rfl
  | _, _, .cons _ t => congrArg (_ :: ·) t.names
theorem putK_new' {κ : Type} [DecidableEq κ] {kvs : List (κ × V)} {k : κ} {v : V} (h : k ∉ kvs.map (·.1)) : putK kvs k v = kvs ++ [(k, v)] := by
  unfold putK
  rw [if_neg]
  intro c
  obtain ⟨p, hp, e⟩ := List.any_eq_true.mp c
  exact h (List.mem_map.mpr ⟨p, hp, of_decide_eq_true e⟩)
theorem merge_nd {kvs : List (Key × V)} : ∀ {acc : List (Key × V)}, (acc.map (·.1) ++ kvs.map (·.1)).Nodup → mergeK acc kvs = acc ++ kvs := by
  induction kvs with
  | nil => intro acc _; show acc = acc ++ []; rw [List.append_nil]
  | cons p r ih =>
    intro acc h
    have hp : p.1 ∉ acc.map (·.1) := fun c => by
      rw [List.nodup_append] at h
      exact h.2.2 _ c p.1 List.mem_cons_self rfl
    show mergeK (putK acc p.1 p.2) r = acc ++ p :: r
    rw [putK_new' hp, ih (by rw [List.map_append, List.append_assoc]; exact h), List.append_assoc] <;> rfl
theorem all2_zip {α : Type} {R : V → α → Prop} : ∀ {us : List V} {fs : List α}, All2 R us fs → (us.zip fs).map Prod.fst = us ∧ ∀ p : α → Bool, All2 R (((us.zip fs).filter fun q => p q.2).map Prod.fst) (fs.filter p)
  | _, _, .nil => ⟨rfl, fun _ => .nil⟩
  | _, _, .cons (v := v) (x := x) (vs := vs) (xs := xs) h t => by
    obtain ⟨h1, h2⟩ := all2_zip t
    refine ⟨by rw [List.zip_cons_cons, List.map_cons, h1], fun p => ?_⟩
    rw [List.zip_cons_cons]
    by_cases c : p x = true
    · rw [List.filter_cons_of_pos c, List.filter_cons_of_pos (by exact c), List.map_cons]
      exact .cons h (h2 p)
    · rw [List.filter_cons_of_neg c, List.filter_cons_of_neg (by exact c)]
      exact h2 p
def wmu (N : Nat) (ch : Chs) (kn : List Str) : Nat := 2 * (N - ch.length) + (if kn.length = 0 then 0 else 1)
theorem wmu_next {N : Nat} {rs : List Flo} {ch0 ch : Chs} {kn fr : List Str} {j : Nat} (h : WayP rs rs ch0 kn j ch fr) (hk : kn.length ≠ 0) (hN : ch.length ≤ N) : wmu N ch fr < wmu N ch0 kn := by
  obtain ⟨e, rfl, rfl, hall⟩ := h.ext
  unfold wmu
  rw [if_neg hk]
  rw [List.length_append] at hN ⊢
  have : (Chs.keys e).length = e.length := List.length_map _
  rw [this]
  split <;> omega
abbrev N_ways_to : List Str := ["program", "chains", "name", "rows", "flow", "known", "fresh", "number", "source"]
noncomputable def t_ways_to (K : PySem.W.Frag) : TS :=
  (tSeq (tAsg (tCB (rDictP K) (tCons (tLc (iSeq K (tCB (rSortedS K) (tCons (tOp (rIx K) (tM K "Program" as_Program "told" (sp_Program_told K) (tVar 0) tNil) (tC (.int 1))) tNil))) (gName 2) tYes (tTup (tCons (tVar 2) (tCons (tLst (tCons (tTup (tCons (tC (.int 0)) (tCons (tVar 2) tNil))) tNil)) tNil))) [2]) tNil)) (gName 1)) (tSeq (tAsg (tLc (iSeq K (tF (sp_flows K) (tCons (tVar 0) tNil))) (gName 4) (tTest (tOp (rEq2 K) (tM K "Program" as_Program "kind" (sp_Program_kind K) (tVar 0) (tCons (tOp (rIx K) (tVar 4) (tC (.int 2))) tNil)) (tC (.str "free")))) (tVar 4) [4]) (gName 3)) (tSeq (tAsg (tCB (rList K) (tCons (tVar 1) tNil)) (gName 5)) (tSeq (tWhile (tTest (tOp (rNe2 K) (tVar 5) (tLst tNil))) (tSeq (tAsg (tLst tNil) (gName 6)) (tSeq (tFor (iSeq K (tVar 3)) (gTup K 3 (gCons (gName 7) (gCons (gName 8) (gCons (gName 2) gNil)))) (tIfS (tAnd (tTest (tOp (rIn2 K false) (tVar 8) (tVar 5))) (tTest (tOp (rDIn true) (tVar 2) (tVar 1)))) (tSeq (sDPut (tVar 1) (tVar 2) (tOp (rAdd K) (tDGet (tVar 1) (tVar 8)) (tLst (tCons (tTup (tCons (tVar 7) (tCons (tVar 2) tNil))) tNil)))) (tDrop (tBM K "list" rAppend (tVar 6) (tCons (tVar 2) tNil)))) tNext)) (tAsg (tVar 6) (gName 5))))) (tRet (tVar 1))))))
theorem WayI.start {ss sk : List Str} {rs : List Flo} (pm : sk.Perm ss) (nd : sk.Nodup) : WayI ss rs (sk.map fun s => (s, [((0 : Nat), s)])) sk 0 := by
  have kk : Chs.keys (sk.map fun s => (s, [((0 : Nat), s)])) = sk := by
    unfold Chs.keys
    rw [List.map_map]
    exact List.map_id _
  refine ⟨by rw [kk]; exact nd, fun s hs => List.mem_map.mpr ⟨s, pm.mem_iff.mpr hs, rfl⟩, fun x c hx => ?_, fun x c hx => ?_, fun k hk => ⟨[(0, k)], List.mem_map.mpr ⟨k, hk, rfl⟩, rfl⟩, fun f _ hk hn => by rw [kk] at hk; exact absurd hk hn⟩
  · obtain ⟨s, hs, e⟩ := List.mem_map.mp hx
    obtain ⟨rfl, rfl⟩ := Prod.mk.inj e
    exact .inl ⟨pm.mem_iff.mp hs, rfl⟩
  · obtain ⟨s, hs, e⟩ := List.mem_map.mp hx
    obtain ⟨rfl, rfl⟩ := Prod.mk.inj e
    exact Nat.le_refl _
theorem all2_mem {α : Type} {R : V → α → Prop} : ∀ {us : List V} {fs : List α}, All2 R us fs → ∀ q ∈ us.zip fs, R q.1 q.2
  | _, _, .nil, _, hq => nomatch hq
  | _, _, .cons h t, q, hq => by
    rw [List.zip_cons_cons] at hq
    rcases List.mem_cons.mp hq with e | hq
    · rw [e]; exact h
    · exact all2_mem t q hq
theorem nodup_inr : ∀ {l : List Str}, l.Nodup → (l.map (Sum.inr : Str → Key)).Nodup
  | [], _ => List.nodup_nil
  | x :: r, h => by
    obtain ⟨h1, h2⟩ := List.nodup_cons.mp h
    refine List.nodup_cons.mpr ⟨fun c => ?_, nodup_inr h2⟩
    obtain ⟨y, hy, e⟩ := List.mem_map.mp c
    exact h1 (Sum.inr.inj e ▸ hy)
theorem pure_ways_to (K : PySem.W.Frag) (vs : List V) (H : Hp) (Q : VK) (E : XK) (h : sp_ways_to K vs H Q E) :
    t_ways_to K { nx := fun _ H' => Q .non H', rt := Q } (start N_ways_to vs) H := by
  obtain ⟨a, os, ss, ns, b, rfl, hP, ho, nl, hn, hz, nd, sl, hN, q⟩ := h
  have hP' := hP
  obtain ⟨C, dx, o, hh, q', ys0, hI⟩ := hP'
  unfold t_ways_to
  walk_at "go"
  refine w_lc ?_
  walk_at "go"
  refine w_mAt hI.ha hI.cc rfl ?_
  walk_at "go"
  refine ⟨a, os, ss, b, rfl, hP, fun pt x y H1 e1 _ _ _ hpt _ hy => ?_⟩
  walk_at "go"
  refine w_sortS (SqL.of hy) (by omega) (fun sk p1 pm hp1 => ?_)
  have e2 := same_new (o := .lst (sk.map V.str)) hp1
  have hp12 : upd H1 p1 (.lst (sk.map V.str)) p1 = _ := upd_same
  generalize upd H1 p1 (.lst (sk.map V.str)) = H2 at e2 hp12
  have skl : sk.length ≤ 60 := by rw [pm.length_eq]; exact sl
  have skn : sk.Nodup := pm.nodup_iff.mpr nd
  have e12 := e1.trans e2
  walk_at "go"
  refine w_isL (SqL.of hp12) (fun D hD => ?_)
  refine lc_each (xs := sk.map V.str) (fun i v H' => ∃ (s : Str) (t l t2 : Addr), sk[i]? = some s ∧ v = .ref t ∧ H' t = some (.tup [.str s, .ref l]) ∧ H' l = some (.lst [.ref t2]) ∧ H' t2 = some (.tup [.int 0, .str s]) ∧ t ≠ D ∧ l ≠ D ∧ t2 ≠ D) (SqL.of hp12) (by rw [List.length_map]; omega) hD
    (fun i v H1 H2 ⟨s, t, l, t2, h1, h2, h3, h4, h5, n1, n2, n3⟩ sx => ⟨s, t, l, t2, h1, h2, sx _ _ n1 h3, sx _ _ n2 h4, sx _ _ n3 h5, n1, n2, n3⟩) ?_ ?_
  · rintro i v H3 Nx hv e3 ⟨acc, hacc⟩ kk
    obtain ⟨s, hs, rfl⟩ : ∃ s, sk[i]? = some s ∧ V.str s = v := by
      rw [List.getElem?_map] at hv
      cases d : sk[i]? with
      | none => rw [d] at hv; exact nomatch hv
      | some y => rw [d] at hv; exact ⟨y, rfl, Option.some.inj hv⟩
    refine ⟨rfl, ?_⟩
    walk_at "go"
    refine w_new (by walk_at "sz") (fun t2 ht2 => ?_)
    have f1 := same_new (o := .tup [.int 0, .str s]) ht2
    have g1 : upd H3 t2 (.tup [.int 0, .str s]) t2 = _ := upd_same
    generalize upd H3 t2 (.tup [.int 0, .str s]) = H4 at f1 g1
    walk_at "go"
    refine w_new (by walk_at "sz") (fun l hl => ?_)
    have f2 := same_new (o := .lst [.ref t2]) hl
    have g2 : upd H4 l (.lst [.ref t2]) l = _ := upd_same
    have g12 := f2 _ _ g1
    generalize upd H4 l (.lst [.ref t2]) = H5 at f2 g2 g12
    walk_at "go"
    refine w_new (by walk_at "sz") (fun t ht => ?_)
    have f3 := same_new (o := .tup [.str s, .ref l]) ht
    exact kk _ _ (f1.trans (f2.trans f3)) ⟨s, t, l, t2, hs, rfl, upd_same, f3 _ _ g2, f3 _ _ g12, (ne_of_none ((f1.trans f2) _ _ hacc) ht).symm, (ne_of_none (f1 _ _ hacc) hl).symm, (ne_of_none hacc ht2).symm⟩
  · intro H3 vs e3 hD3 hvl hR
    rw [List.length_map] at hvl
    -- the dict's pairs
    have build : ∀ (vs : List V) (sk : List Str), vs.length = sk.length → (∀ (i : Nat) v, vs[i]? = some v → ∃ (s : Str) (t l t2 : Addr), sk[i]? = some s ∧ v = .ref t ∧ H3 t = some (.tup [.str s, .ref l]) ∧ H3 l = some (.lst [.ref t2]) ∧ H3 t2 = some (.tup [.int 0, .str s]) ∧ t ≠ D ∧ l ≠ D ∧ t2 ≠ D) →
        ∃ (ps : List Addr) (kvs : List (Key × V)), vs = ps.map V.ref ∧ Paired (fun p kv => SqT K H3 p [kV kv.1, kv.2]) ps kvs ∧ KvAll K H3 kvs (sk.map fun s => (s, [(0, s)])) := by
      intro vs
      induction vs with
      | nil =>
        intro sk hl _
        cases sk with
        | nil => exact ⟨[], [], rfl, .nil, .nil⟩
        | cons _ _ => exact nomatch hl
      | cons v r ih =>
        intro sk hl hR
        cases sk with
        | nil => exact nomatch hl
        | cons s0 sk =>
          obtain ⟨s, t, l, t2, h1, rfl, h3, h4, h5, _⟩ := hR 0 v rfl
          obtain rfl : s0 = s := Option.some.inj h1
          obtain ⟨ps, kvs, i1, i2, i3⟩ := ih sk (Nat.succ.inj hl) fun i v hv => hR (i + 1) v hv
          refine ⟨t :: ps, (.inr s0, .ref l) :: kvs, by rw [i1] <;> rfl, .cons (SqT.of h3) i2, .cons ⟨l, [.ref t2], rfl, h4, All2.one ⟨t2, rfl, SqT.of h5⟩, fun c => nomatch c⟩ i3⟩
    obtain ⟨ps, kvs, rfl, hpp, hkv⟩ := build vs sk hvl hR
    have knd : (Chs.keys (sk.map fun s => (s, [((0 : Nat), s)]))).Nodup := by
      have : Chs.keys (sk.map fun s => (s, [((0 : Nat), s)])) = sk := by
        unfold Chs.keys
        rw [List.map_map]
        exact List.map_id _
      rw [this]
      exact skn
    have kk : Chs.keys (sk.map fun s => (s, [((0 : Nat), s)])) = sk := by
      unfold Chs.keys
      rw [List.map_map]
      exact List.map_id _
    have mk : mergeK [] kvs = kvs := by
      refine merge_nd ?_
      rw [List.map_nil, List.nil_append, hkv.keys, kk]
      exact nodup_inr skn
    walk_at "go"
    refine ⟨D, ps, kvs, rfl, SqL.of hD3, hpp, fun Dd hDd => ?_⟩
    rw [mk]
    have e4 := same_new (o := .dK kvs) hDd
    have hDd4 : upd H3 Dd (.dK kvs) Dd = _ := upd_same
    have hkv4 := hkv.go (SameP.of e4)
    have Dd0 : H Dd = none := none_of (e12.trans e3) hDd
    have e04 := e12.trans (e3.trans e4)
    generalize upd H3 Dd (.dK kvs) = H4 at e04 hDd4 hkv4
    walk_at "go"
    refine w_lc ?_
    walk_at "go"
    refine ⟨a, os, ss, ns, b, rfl, hP.mono e04, ho, nl, hn, hz, fun pf H5 us e5 hpf hpf5 hF hFn hFl => ?_⟩
    have e05 := e04.trans e5
    have hF' := hF
    obtain ⟨z1, z2⟩ := all2_zip hF
    have ul := hF.len
    refine w_isL (SqL.of hpf5) (fun RL hRL => ?_)
    refine lc_filter (ys := us.zip (flowsB b)) (f := Prod.fst) (fun q => decide (kindT os ss q.2.2.2 = "free")) Prod.fst (by rw [z1]; exact SqL.of hpf5) (by rw [List.length_zip]; omega) hRL ?_ ?_
    · rintro ⟨v, f⟩ H6 Nx hq e6 ⟨zs, hzs⟩ yes no
      obtain ⟨t, rfl, ht⟩ := all2_mem hF _ hq
      have ht6 := same_t e6 ht
      have hP6 := hP.mono (e05.trans e6)
      have ha6 := (e05.trans e6) _ _ hI.ha
      refine ⟨rfl, ?_⟩
      walk_at "go"
      refine w_mAt ha6 hI.cc rfl ?_
      walk_at "go"
      refine ⟨a, os, ss, b, f.2.2, rfl, hP6, ?_⟩
      walk_at "go"
      refine w_two (fun c => ?_) (fun c => ?_)
      · walk_at "go"
        exact yes c _ (Same.refl _)
      · exact no c _ (Same.refl _)
    · intro H6 e6 hRL6
      have hRf := z2 fun f => decide (kindT os ss f.2.2 = "free")
      have hR6 : All2 (FlAt K H6) (((us.zip (flowsB b)).filter fun q => decide (kindT os ss q.2.2.2 = "free")).map Prod.fst) (freeR os ss b) := hRf.imp fun _ _ h => h.monoT (SameT.of e6)
      generalize ((us.zip (flowsB b)).filter fun q => decide (kindT os ss q.2.2.2 = "free")).map Prod.fst = vr at hRL6 hR6
      have e46 := e5.trans e6
      have hDd6 := e46 _ _ hDd4
      have hkv6 := hkv4.go (SameP.of e46)
      walk_at "go"
      refine w_listD hDd6 (fun pk hpk => ?_)
      rw [hkv6.names, kk]
      have e7 := same_new (o := .lst (sk.map V.str)) hpk
      have hpk7 : upd H6 pk (.lst (sk.map V.str)) pk = _ := upd_same
      have hDd7 := e7 _ _ hDd6
      have hkv7 := hkv6.go (SameP.of e7)
      have hRL7 := e7 _ _ hRL6
      have hR7 := hR6.imp fun _ _ h => h.monoT (SameT.of e7)
      have e07 := e04.trans (e46.trans e7)
      have RLD : RL ≠ Dd := (ne_of_none ((e5.trans (Same.refl _)) _ _ hDd4) hRL).symm
      generalize upd H6 pk (.lst (sk.map V.str)) = H7 at e07 hpk7 hDd7 hkv7 hRL7 hR7
      have kN : ∀ x ∈ sk, x ∈ ss ++ ns := fun x hx => List.mem_append_left _ (pm.mem_iff.mp hx)
      have clen : ∀ {ch : Chs}, (Chs.keys ch).Nodup → (∀ x ∈ Chs.keys ch, x ∈ ss ++ ns) → ch.length ≤ 1060 := fun {ch} n1 n2 => by
        have := nodup_le n1 n2
        rw [List.length_append] at this
        have e : (Chs.keys ch).length = ch.length := List.length_map _
        omega
      refine w_seq (w_while' (fun m σ H' => ∃ (ch : Chs) (kn : List Str) (j : Nat) (kvs : List (Key × V)) (pk : Addr) (w2 w4 w6 w7 w8 : Option V), σ = [some (.ref a), some (.ref Dd), w2, some (.ref RL), w4, some (.ref pk), w6, w7, w8] ∧ Same H H' ∧ SameT H7 H' ∧ H' Dd = some (.dK kvs) ∧ KvAll K H' kvs ch ∧
          H' RL = some (.lst vr) ∧ H' pk = some (.lst (kn.map V.str)) ∧ WayI ss (freeR os ss b) ch kn j ∧ (∀ x ∈ Chs.keys ch, x ∈ ss ++ ns) ∧ (∀ x ∈ kn, x ∈ ss ++ ns) ∧ (kn.length ≠ 0 → j ≤ ch.length) ∧ m = wmu 1060 ch kn) _
        ⟨_, sk, 0, kvs, pk, _, _, _, _, _, rfl, e07, SameT.refl _, hDd7, hkv7, hRL7, hpk7, WayI.start pm skn, by rw [kk]; exact kN, kN, fun _ => Nat.zero_le _, rfl⟩ ?_)
      rintro m σ H8 ⟨ch, kn, j, kvs8, pk8, w2, w4, w6, w7, w8, rfl, e8, t8, hD8, hkv8, hRL8, hpk8, I, cN, kN8, jl, rfl⟩
      walk_at "go"
      refine w_new (by walk_at "sz") (fun pe hpe => ?_)
      have e89 := same_new (o := .lst []) hpe
      refine w_neTxt (xs := kn) (ys := []) (SqL.of (e89 _ _ hpk8)) (SqL.of upd_same) (fun x hx => ok_txt (hN x (kN8 x hx))) (fun x hx => nomatch hx) ?_
      have hD9 := e89 _ _ hD8
      have hkv9 := hkv8.go (SameP.of e89)
      have hRL9 := e89 _ _ hRL8
      have hpk9 := e89 _ _ hpk8
      have e9 := e8.trans e89
      have t9 := t8.trans (SameT.of e89)
      generalize upd H8 pe (.lst []) = H9 at hD9 hkv9 hRL9 hpk9 e9 t9
      walk_at "go"
      refine w_two (fun c => ?_) (fun c => ?_)
      · have knz : kn.length ≠ 0 := fun e => by rw [List.length_eq_zero_iff.mp e] at c; simp at c
        refine ⟨_, fun _ _ h => h, ?_⟩
        walk_at "go"
        refine w_new (by walk_at "sz") (fun pf2 hpf2 => ?_)
        have e910 := same_new (o := .lst []) hpf2
        have hpf10 : upd H9 pf2 (.lst []) pf2 = _ := upd_same
        have hD10 := e910 _ _ hD9
        have hkv10 := hkv9.go (SameP.of e910)
        have hRL10 := e910 _ _ hRL9
        have hpk10 := e910 _ _ hpk9
        have e10 := e9.trans e910
        have t10 := t9.trans (SameT.of e910)
        have pfH : H pf2 = none := none_of e9 hpf2
        have nD : Dd ≠ pf2 := ne_of_none hD9 hpf2
        have nR : RL ≠ pf2 := ne_of_none hRL9 hpf2
        have nk : pk8 ≠ pf2 := ne_of_none hpk9 hpf2
        have RD : RL ≠ Dd := fun e => by rw [e, hD9] at hRL9; exact nomatch Option.some.inj hRL9
        have kD : pk8 ≠ Dd := fun e => by rw [e, hD9] at hpk9; exact nomatch Option.some.inj hpk9
        generalize upd H9 pf2 (.lst []) = H10 at hpf10 hD10 hkv10 hRL10 hpk10 e10 t10
        walk_at "go"
        refine w_isL (SqL.of hRL10) ?_
        refine for_list (xs := vr) (fun i σ H' => ∃ (ch2 : Chs) (fr : List Str) (kvs2 : List (Key × V)) (w2 w4 w7 w8 : Option V), σ = [some (.ref a), some (.ref Dd), w2, some (.ref RL), w4, some (.ref pk8), some (.ref pf2), w7, w8] ∧ Same H H' ∧ SameT H7 H' ∧ H' Dd = some (.dK kvs2) ∧ KvAll K H' kvs2 ch2 ∧
            H' RL = some (.lst vr) ∧ H' pk8 = some (.lst (kn.map V.str)) ∧ H' pf2 = some (.lst (fr.map V.str)) ∧ WayP (freeR os ss b) ((freeR os ss b).take i) ch kn j ch2 fr ∧ (∀ x ∈ Chs.keys ch2, x ∈ ss ++ ns) ∧ (∀ x ∈ fr, x ∈ ss ++ ns))
          ⟨ch, [], kvs8, _, _, _, _, rfl, e10, t10, hD10, hkv10, hRL10, hpk10, hpf10, WayP.init I, cN, fun x hx => nomatch hx⟩ (fun i σ H' _ h => by obtain ⟨_, _, _, _, _, _, _, _, _, _, _, _, h, _⟩ := h; exact SqL.of h) ?_ ?_
        · rintro i x σ H11 hx ⟨ch2, fr, kvs2, w2, w4, w7, w8, rfl, e11, t11, hD11, hkv11, hRL11, hpk11, hpf11, P, cN2, fN⟩
          obtain ⟨f, hf, T, rfl, hT⟩ := hR7.get hx
          have hT11 := sameT_t t11 hT
          have fm : f ∈ freeR os ss b := List.mem_of_getElem? hf
          have fl : f ∈ flowsB b := (List.mem_filter.mp fm).1
          have tkf := take_snoc hf
          have nm2 : f.2.2 ∈ ss ++ ns := List.mem_append_right _ (hFn f fl).2
          refine w_gTup hT11 rfl ?_
          walk_at "go"
          refine w_inTxt (xs := kn) (SqL.of hpk11) ?_
          walk_at "go"
          refine w_two (fun c1 => ?_) (fun c1 => ?_)
          · have c1 := of_decide_eq_true c1
            walk_at "go"
            refine w_din hD11 ?_
            rw [hkv11.has]
            walk_at "go"
            refine w_two (fun c2 => ?_) (fun c2 => ?_)
            · have c2 : f.2.2 ∉ Chs.keys ch2 := by simpa using c2
              obtain ⟨c0, hc0, l0⟩ := I.now _ c1
              have hc2 : (f.2.1, c0) ∈ ch2 := by
                obtain ⟨e, he, _⟩ := P.ext
                rw [he]
                exact List.mem_append_left _ hc0
              obtain ⟨d, hd⟩ := chGet_key (key_of hc2)
              have hdm := chGet_mem hd
              have dl : d.length ≤ 1061 := by
                rw [key_one P.nd hdm hc2, l0]
                have := jl knz
                have := clen I.nd cN
                omega
              obtain ⟨v, hv, l, us2, rfl, hl, hA, hne⟩ := hkv11.at_ hd
              have usl := hA.len
              walk_at "go"
              refine w_dgetAt hD11 hv ?_
              walk_at "go"
              refine w_new (by walk_at "sz") (fun t1 ht1 => ?_)
              have g1 := same_new (o := .tup [.int (f.1 : Nat), .str f.2.2]) ht1
              have k1 : upd H11 t1 (.tup [.int (f.1 : Nat), .str f.2.2]) t1 = _ := upd_same
              generalize upd H11 t1 (.tup [.int (f.1 : Nat), .str f.2.2]) = G1 at g1 k1
              walk_at "go"
              refine w_new (by walk_at "sz") (fun l1 hl1 => ?_)
              have g2 := same_new (o := .lst [.ref t1]) hl1
              have k2 : upd G1 l1 (.lst [.ref t1]) l1 = _ := upd_same
              have k12 := g2 _ _ k1
              generalize upd G1 l1 (.lst [.ref t1]) = G2 at g2 k2 k12
              refine w_addL ((g1.trans g2) _ _ hl) k2 (sz (by simp only [List.length_singleton]; omega)) (fun l2 hl2 => ?_)
              have g3 := same_new (o := .lst (us2 ++ [.ref t1])) hl2
              have k3 : upd G2 l2 (.lst (us2 ++ [.ref t1])) l2 = _ := upd_same
              have k13 := g3 _ _ k12
              have g13 := g1.trans (g2.trans g3)
              generalize upd G2 l2 (.lst (us2 ++ [.ref t1])) = G3 at g3 k3 k13 g13
              have hD3 := g13 _ _ hD11
              have kl := hkv11.len
              have cl2 := clen P.nd cN2
              have newc : ChAt K G3 (.ref l2) (d ++ [(f.1, f.2.2)]) := ⟨l2, _, rfl, k3, (hA.imp fun _ _ h => h.monoT (SameT.of g13)).app (All2.one ⟨t1, rfl, SqT.of k13⟩), by simp⟩
              have hkv3 := (hkv11.go (SameP.of g13)).snoc (x := f.2.2) newc
              have pk' : putK kvs2 (.inr f.2.2) (.ref l2) = kvs2 ++ [(.inr f.2.2, .ref l2)] := putK_new' (by rw [hkv11.keys]; exact fun q => by obtain ⟨y, hy, e⟩ := List.mem_map.mp q; exact c2 (Sum.inr.inj e ▸ hy))
              walk_at "go"
              refine w_dputAt hD3 (Nat.lt_of_le_of_lt (by omega : kvs2.length ≤ 1060) (by decide)) ?_
              rw [pk']
              have s4 : SameP G3 (upd G3 Dd (.dK (kvs2 ++ [(.inr f.2.2, .ref l2)]))) := SameP.dict hD3
              have hkv4' := hkv3.go s4
              have e14 : Same H (upd G3 Dd (.dK (kvs2 ++ [(.inr f.2.2, .ref l2)]))) := same_mut (e11.trans g13) Dd0
              have t14 := (t11.trans (SameT.of g13)).trans s4.1
              have hD4 : upd G3 Dd (.dK (kvs2 ++ [(.inr f.2.2, .ref l2)])) Dd = _ := upd_same
              have hRL4 := (upd_ne (o := .dK (kvs2 ++ [(.inr f.2.2, .ref l2)])) RD).trans (g13 _ _ hRL11)
              have hpk4 := (upd_ne (o := .dK (kvs2 ++ [(.inr f.2.2, .ref l2)])) kD).trans (g13 _ _ hpk11)
              have hpf4 := (upd_ne (o := .dK (kvs2 ++ [(.inr f.2.2, .ref l2)])) nD.symm).trans (g13 _ _ hpf11)
              generalize upd G3 Dd (.dK (kvs2 ++ [(.inr f.2.2, .ref l2)])) = G4 at hkv4' e14 t14 hD4 hRL4 hpk4 hpf4
              obtain ⟨ex, hex, hfr, _⟩ := P.ext
              have frl : fr.length ≤ 1060 := by
                have : (Chs.keys ex).length = ex.length := List.length_map _
                rw [← hfr] at this
                rw [hex, List.length_append] at cl2
                omega
              walk_at "go"
              refine w_app hpf4 (Nat.lt_of_le_of_lt (by rw [List.length_map]; exact frl) (by decide)) ?_
              have s5 : SameP G4 (upd G4 pf2 (.lst (fr.map V.str ++ [.str f.2.2]))) := SameP.strs hpf4
              refine ⟨ch2 ++ [(f.2.2, d ++ [(f.1, f.2.2)])], fr ++ [f.2.2], _, _, _, _, _, rfl, same_mut e14 pfH, t14.trans s5.1, (upd_ne nD).trans hD4, hkv4'.go s5, (upd_ne nR).trans hRL4, (upd_ne nk).trans hpk4, by rw [upd_same, List.map_append] <;> rfl, by rw [tkf]; exact P.take I fm c1 c2 hdm, fun x hx => ?_, fun x hx => ?_⟩
              · rw [keys_app] at hx
                rcases List.mem_append.mp hx with h | h
                · exact cN2 x h
                · rw [List.mem_singleton.mp h]; exact nm2
              · rcases List.mem_append.mp hx with h | h
                · exact fN x h
                · rw [List.mem_singleton.mp h]; exact nm2
            · have c2 : f.2.2 ∈ Chs.keys ch2 := by simpa using c2
              walk_at "go"
              exact ⟨ch2, fr, kvs2, _, _, _, _, rfl, e11, t11, hD11, hkv11, hRL11, hpk11, hpf11, by rw [tkf]; exact P.skip fun q => q.2 c2, cN2, fN⟩
          · have c1 := of_decide_eq_false c1
            walk_at "go"
            exact ⟨ch2, fr, kvs2, _, _, _, _, rfl, e11, t11, hD11, hkv11, hRL11, hpk11, hpf11, by rw [tkf]; exact P.skip fun q => c1 q.1, cN2, fN⟩
        · rintro σ H11 ⟨ch2, fr, kvs2, w2, w4, w7, w8, rfl, e11, t11, hD11, hkv11, hRL11, hpk11, hpf11, P, cN2, fN⟩
          rw [hR7.len, List.take_length] at P
          walk_at "go"
          have I2 := P.next I
          have l2 := clen I2.nd cN2
          refine ⟨_, wmu_next P knz l2, ch2, fr, j + 1, kvs2, pf2, _, _, _, _, _, rfl, e11, t11, hD11, hkv11, hRL11, hpf11, I2, cN2, fN, fun hne => ?_, rfl⟩
          obtain ⟨e, he, hfe, _⟩ := P.ext
          rw [he, List.length_append]
          have : (Chs.keys e).length = e.length := List.length_map _
          rw [← hfe] at this
          have := jl knz
          omega
      · have kn0 : kn = [] := by simpa using c
        subst kn0
        walk_at "go"
        exact q Dd H9 kvs8 ch e9 Dd0 hD9 hkv9 I.ends cN
def KdAt (K : PySem.W.Frag) (H : Hp) (v : V) (p : Str × Str) : Prop := ∃ t, v = .ref t ∧ SqT K H t [.str p.1, .str p.2]
theorem KdAt.monoT {K : PySem.W.Frag} {H H' : Hp} (e : SameT H H') {v : V} {p : Str × Str} (h : KdAt K H v p) : KdAt K H' v p := by
  obtain ⟨t, h1, h2⟩ := h
  exact ⟨t, h1, sameT_t e h2⟩
structure Nwo (H H' : Hp) (p : Addr) (o : HO) : Prop where
  eq : H' = upd H p o
theorem nw_eq {Q : VK} {f : List V → HO} : (fun (xs : List V) (H1 : Hp) => xs.length ≤ sizeLine ∧ ∀ p H2, H1 p = none → Nwo H1 H2 p (f xs) → Q (.ref p) H2) = fun xs H1 => xs.length ≤ sizeLine ∧ ∀ p, H1 p = none → Q (.ref p) (upd H1 p (f xs)) := by
  funext xs H1
  exact propext ⟨fun ⟨z, k⟩ => ⟨z, fun p hp => k p _ hp ⟨rfl⟩⟩, fun ⟨z, k⟩ => ⟨z, fun p H2 hp e => by rw [e.eq]; exact k p hp⟩⟩
theorem w_nw {n : Nat} {R : Addr → Hp → Prop} {H1 : Hp} {o : HO} (z : n ≤ sizeLine) (q : ∀ p H2, H1 p = none → Same H1 H2 → H2 p = some o → R p H2) : n ≤ sizeLine ∧ ∀ p H2, H1 p = none → Nwo H1 H2 p o → R p H2 :=
  ⟨z, fun p H2 hp e => q p H2 hp (by rw [e.eq]; exact same_new hp) (by rw [e.eq]; exact upd_same)⟩
theorem same_look {H H' : Hp} {a : Addr} {u : HO} (e : Same H H') (h : H a = some u) : H' a = some u := e a u h
theorem same_mutX {H0 H H' : Hp} {l : Addr} (e : Same H0 H) (n : H0 l = none) (x : SameX l H H') : Same H0 H' := SameX.same e n x
theorem sq_l {K : PySem.W.Frag} {H H' : Hp} {a : Addr} {xs : List V} (e : Same H H') (h : H a = some (.lst xs)) : SqL K H' a xs := SqL.of (e a _ h)
theorem sq_t {K : PySem.W.Frag} {H H' : Hp} {a : Addr} {xs : List V} (e : Same H H') (h : H a = some (.tup xs)) : SqT K H' a xs := SqT.of (e a _ h)
theorem BkAt.monoS {K : PySem.W.Frag} {H H' : Hp} (e : Same H H') {vs : List V} {l : List Rw} (h : BkAt K (SqT K) H vs l) : BkAt K (SqT K) H' vs l := h.monoT (SameT.of e)
theorem RwAt.monoS {K : PySem.W.Frag} {H H' : Hp} (e : Same H H') {v : V} {r : Rw} (h : RwAt K (SqT K) H v r) : RwAt K (SqT K) H' v r := h.monoT (SameT.of e)
section
variable {K : PySem.W.Frag} {σ : L2.St} {H : Hp} {Q : VK} {x y v : V}
theorem w_lst' {t : TA} (q : t σ H fun xs H1 => xs.length ≤ sizeLine ∧ ∀ p H2, H1 p = none → Nwo H1 H2 p (.lst xs) → Q (.ref p) H2) : tLst t σ H Q := by
  rw [nw_eq (f := .lst)] at q
  exact q
theorem w_tup' {t : TA} (q : t σ H fun xs H1 => xs.length ≤ sizeLine ∧ ∀ p H2, H1 p = none → Nwo H1 H2 p (.tup xs) → Q (.ref p) H2) : tTup t σ H Q := by
  rw [nw_eq (f := .tup)] at q
  exact q
theorem w_addL' {a b : Addr} {xs ys : List V} (ha : H a = some (.lst xs)) (hb : H b = some (.lst ys)) (h : xs.length + ys.length ≤ sizeLine) (q : ∀ p H', H p = none → Same H H' → H' p = some (.lst (xs ++ ys)) → Q (.ref p) H') : rAdd K (.ref a) (.ref b) H Q :=
  w_addL ha hb h fun p hp => q p _ hp (same_new hp) upd_same
theorem w_slL' {a : Addr} {xs : List V} {lo hi : Option Int} (h : SqL K H a xs) (q : ∀ p H', H p = none → Same H H' → H' p = some (.lst (cutV xs lo hi)) → Q (.ref p) H') : rSl K (.ref a) lo hi H Q :=
  w_slL h fun p hp => q p _ hp (same_new hp) upd_same
theorem w_tupL' {p : Addr} {xs : List V} (h : SqL K H p xs) (q : ∀ l H', H l = none → Same H H' → H' l = some (.tup xs) → Q (.ref l) H') : rTupO K [.ref p] H Q :=
  w_tupL h fun l hl => q l _ hl (same_new hl) upd_same
theorem w_listL' {p : Addr} {xs : List V} (h : SqL K H p xs) (q : ∀ l H', H l = none → Same H H' → H' l = some (.lst xs) → Q (.ref l) H') : rList K [.ref p] H Q :=
  w_listL h fun l hl => q l _ hl (same_new hl) upd_same
theorem w_app' {l : Addr} {xs : List V} (h : H l = some (.lst xs)) (z : xs.length < sizeLine) (q : ∀ H', SameX l H H' → SameT H H' → H' l = some (.lst (xs ++ [y])) → Q .non H') : rAppend (.ref l) [y] H Q :=
  w_app h z (q _ SameX.upd (SameT.upd h rfl) upd_same)
end
theorem lt_line {n : Nat} (h : n ≤ 16000000) : n < sizeLine := Nat.lt_of_le_of_lt h (by decide)
theorem all2_map {α : Type} {f : α → V} : ∀ {as : List α}, All2 (fun v x => v = f x) (as.map f) as
  | [] => .nil
  | _ :: _ => .cons rfl all2_map
theorem All2.split {α : Type} {R : V → α → Prop} {vs : List V} {as : List α} {i : Nat} {v : V} (h : All2 R vs as) (e : vs[i]? = some v) : ∃ x, as = as.take i ++ x :: as.drop (i + 1) ∧ as.take (i + 1) = as.take i ++ [x] ∧ R v x := by
  obtain ⟨x, hx, hr⟩ := h.get e
  obtain ⟨hi, rfl⟩ := List.getElem?_eq_some_iff.mp hx
  exact ⟨_, by rw [← List.drop_eq_getElem_cons hi, List.take_append_drop], take_snoc hx, hr⟩
theorem for_al {α : Type} {K : PySem.W.Frag} {a : Addr} {xs : List V} {as : List α} {P : V → α → Prop} {g : TG} {tb : TS} {D : Ends} {σ : L2.St} {Hb H0 : Hp} (Pv : List α → L2.St → Hp → Prop) (hq : SE K Hb a xs) (hx : All2 P xs as) (h0 : Pv [] σ H0) (hl : ∀ pre σ H, Pv pre σ H → Same Hb H)
    (hs : ∀ pre x post v σ H, as = pre ++ x :: post → P v x → Pv pre σ H → g v σ H fun σ2 H2 => tb { D with nx := Pv (pre ++ [x]), ct := Pv (pre ++ [x]), bk := D.nx } σ2 H2) (hd : ∀ σ H, Pv as σ H → D.nx σ H) :
    ∃ b, V.ref a = .ref b ∧ (((∃ xs, SqL K H0 b xs) ∧ ∃ W : Nat → Nat → L2.St → Hp → Prop, (∃ m, W 0 m σ H0) ∧ ∀ i m σ H, W i m σ H →
      ((Itl K b).stop i H ∧ D.nx σ H) ∨ ((Itl K b).go i H ∧ ∃ N : L2.St → Hp → Prop, (∀ σ' H', N σ' H' → ∃ m', m' < m ∧ W (i + 1) m' σ' H') ∧ ∀ x H', (Itl K b).yld i H x H' → g x σ H' fun σ2 H2 => tb { D with nx := N, ct := N, bk := D.nx } σ2 H2)) ∨
      ((∃ xs, SqT K H0 b xs) ∧ ∃ W : Nat → Nat → L2.St → Hp → Prop, (∃ m, W 0 m σ H0) ∧ ∀ i m σ H, W i m σ H →
      ((Itt K b).stop i H ∧ D.nx σ H) ∨ ((Itt K b).go i H ∧ ∃ N : L2.St → Hp → Prop, (∀ σ' H', N σ' H' → ∃ m', m' < m ∧ W (i + 1) m' σ' H') ∧ ∀ x H', (Itt K b).yld i H x H' → g x σ H' fun σ2 H2 => tb { D with nx := N, ct := N, bk := D.nx } σ2 H2))) := by
  refine for_se (xs := xs) (fun i => Pv (as.take i)) hq (by rw [List.take_zero]; exact h0) (fun i σ H h => hl _ σ H h) ?_ ?_
  · intro i x σ H e p
    obtain ⟨y, e1, e2, r⟩ := hx.split e
    rw [e2]
    exact hs _ y _ x σ H e1 r p
  · intro σ H p
    rw [hx.len, List.take_length] at p
    exact hd σ H p
theorem for_ax {α : Type} {K : PySem.W.Frag} {a p : Addr} {xs : List V} {as : List α} {P : V → α → Prop} {g : TG} {tb : TS} {D : Ends} {σ : L2.St} {Hb H0 : Hp} (Pv : List α → L2.St → Hp → Prop) (hq : SXq K Hb p a xs) (hx : All2 P xs as) (h0 : Pv [] σ H0) (hl : ∀ pre σ H, Pv pre σ H → SameX p Hb H)
    (hs : ∀ pre x post v σ H, as = pre ++ x :: post → P v x → Pv pre σ H → g v σ H fun σ2 H2 => tb { D with nx := Pv (pre ++ [x]), ct := Pv (pre ++ [x]), bk := D.nx } σ2 H2) (hd : ∀ σ H, Pv as σ H → D.nx σ H) :
    ∃ b, V.ref a = .ref b ∧ (((∃ xs, SqL K H0 b xs) ∧ ∃ W : Nat → Nat → L2.St → Hp → Prop, (∃ m, W 0 m σ H0) ∧ ∀ i m σ H, W i m σ H →
      ((Itl K b).stop i H ∧ D.nx σ H) ∨ ((Itl K b).go i H ∧ ∃ N : L2.St → Hp → Prop, (∀ σ' H', N σ' H' → ∃ m', m' < m ∧ W (i + 1) m' σ' H') ∧ ∀ x H', (Itl K b).yld i H x H' → g x σ H' fun σ2 H2 => tb { D with nx := N, ct := N, bk := D.nx } σ2 H2)) ∨
      ((∃ xs, SqT K H0 b xs) ∧ ∃ W : Nat → Nat → L2.St → Hp → Prop, (∃ m, W 0 m σ H0) ∧ ∀ i m σ H, W i m σ H →
      ((Itt K b).stop i H ∧ D.nx σ H) ∨ ((Itt K b).go i H ∧ ∃ N : L2.St → Hp → Prop, (∀ σ' H', N σ' H' → ∃ m', m' < m ∧ W (i + 1) m' σ' H') ∧ ∀ x H', (Itt K b).yld i H x H' → g x σ H' fun σ2 H2 => tb { D with nx := N, ct := N, bk := D.nx } σ2 H2))) := by
  refine for_sx (xs := xs) (fun i => Pv (as.take i)) hq (by rw [List.take_zero]; exact h0) (fun i σ H h => hl _ σ H h) ?_ ?_
  · intro i x σ H e p
    obtain ⟨y, e1, e2, r⟩ := hx.split e
    rw [e2]
    exact hs _ y _ x σ H e1 r p
  · intro σ H p
    rw [hx.len, List.take_length] at p
    exact hd σ H p
theorem lc_all {α : Type} {K : PySem.W.Frag} {a : Addr} {xs : List V} {as : List α} {P : V → α → Prop} {g : TG} {tt : TT} {te : TE} {vs : List Nat} {σ : L2.St} {H0 : Hp} {Qd : Addr → Hp → Prop} (R : Hp → V → α → Prop) (hq : SE K H0 a xs) (hx : All2 P xs as) (hl : as.length ≤ 16000000)
    (mono : ∀ H H' y x, SameT H H' → R H y x → R H' y x)
    (hs : ∀ D v x H (Nx : Hp → Prop), x ∈ as → P v x → Same H0 H → (∃ ys, H D = some (.lst ys)) → (∀ y H4, Same H H4 → R H4 y x → ∃ acc, H4 D = some (.lst acc) ∧ acc.length < sizeLine ∧ Nx (upd H4 D (.lst (acc ++ [y])))) →
      g v (wipe σ vs) H fun σ2 H2 => wipe σ2 vs = wipe σ vs ∧ tt σ2 H2 fun b H3 => if b = true then te σ2 H3 fun y H4 => ∃ acc, H4 D = some (.lst acc) ∧ acc.length < sizeLine ∧ Nx (upd H4 D (.lst (acc ++ [y]))) else Nx H3)
    (hd : ∀ D H ys, Same H0 H → H0 D = none → H D = some (.lst ys) → All2 (R H) ys as → Qd D H) :
    ∃ b, V.ref a = .ref b ∧ (((∃ xs, SqL K H0 b xs) ∧ ∀ D, H0 D = none → ∃ W : Nat → Nat → Hp → Prop, (∃ m, W 0 m (upd H0 D (.lst []))) ∧ ∀ i m H, W i m H →
      ((Itl K b).stop i H ∧ Qd D H) ∨ ((Itl K b).go i H ∧ ∃ Nx : Hp → Prop, (∀ H', Nx H' → ∃ m', m' < m ∧ W (i + 1) m' H') ∧ ∀ x H', (Itl K b).yld i H x H' → g x (wipe σ vs) H' fun σ2 H2 => wipe σ2 vs = wipe σ vs ∧ tt σ2 H2 fun b H3 =>
        if b = true then te σ2 H3 fun y H4 => ∃ acc, H4 D = some (.lst acc) ∧ acc.length < sizeLine ∧ Nx (upd H4 D (.lst (acc ++ [y]))) else Nx H3)) ∨
      ((∃ xs, SqT K H0 b xs) ∧ ∀ D, H0 D = none → ∃ W : Nat → Nat → Hp → Prop, (∃ m, W 0 m (upd H0 D (.lst []))) ∧ ∀ i m H, W i m H →
      ((Itt K b).stop i H ∧ Qd D H) ∨ ((Itt K b).go i H ∧ ∃ Nx : Hp → Prop, (∀ H', Nx H' → ∃ m', m' < m ∧ W (i + 1) m' H') ∧ ∀ x H', (Itt K b).yld i H x H' → g x (wipe σ vs) H' fun σ2 H2 => wipe σ2 vs = wipe σ vs ∧ tt σ2 H2 fun b H3 =>
        if b = true then te σ2 H3 fun y H4 => ∃ acc, H4 D = some (.lst acc) ∧ acc.length < sizeLine ∧ Nx (upd H4 D (.lst (acc ++ [y]))) else Nx H3))) := by
  refine lc_se (xs := xs) (fun i y H => ∃ x, as[i]? = some x ∧ R H y x) hq (by rw [hx.len]; exact hl) (fun i y H1 H2 ⟨x, h1, h2⟩ e => ⟨x, h1, mono _ _ _ _ e h2⟩) ?_ ?_
  · intro D i v H Nx hv e hys k
    obtain ⟨x, h1, h2⟩ := hx.get hv
    exact hs D v x H Nx (List.mem_of_getElem? h1) h2 e hys fun y H4 e4 r => k y H4 e4 ⟨x, h1, r⟩
  · intro D H ys e hD hD2 hl2 hR
    exact hd D H ys e hD hD2 (All2.of_get (by rw [hl2, hx.len]) fun i v hv => hR i v hv)
theorem lc_fil {α : Type} {K : PySem.W.Frag} {a : Addr} {xs : List V} {as : List α} {P : V → α → Prop} {g : TG} {tt : TT} {te : TE} {vs : List Nat} {σ : L2.St} {H0 : Hp} {Qd : Addr → Hp → Prop} (p : α → Bool) (R : Hp → V → α → Prop) (hq : SE K H0 a xs) (hx : All2 P xs as) (hl : as.length ≤ 16000000)
    (mono : ∀ H H' y x, SameT H H' → R H y x → R H' y x)
    (hs : ∀ D v x H (Nx : Hp → Prop), x ∈ as → P v x → Same H0 H → (∃ ys, H D = some (.lst ys)) → (p x = true → ∀ y H4, Same H H4 → R H4 y x → ∃ acc, H4 D = some (.lst acc) ∧ acc.length < sizeLine ∧ Nx (upd H4 D (.lst (acc ++ [y])))) → (p x = false → ∀ H4, Same H H4 → Nx H4) →
      g v (wipe σ vs) H fun σ2 H2 => wipe σ2 vs = wipe σ vs ∧ tt σ2 H2 fun b H3 => if b = true then te σ2 H3 fun y H4 => ∃ acc, H4 D = some (.lst acc) ∧ acc.length < sizeLine ∧ Nx (upd H4 D (.lst (acc ++ [y]))) else Nx H3)
    (hd : ∀ D H ys, Same H0 H → H0 D = none → H D = some (.lst ys) → All2 (R H) ys (as.filter p) → Qd D H) :
    ∃ b, V.ref a = .ref b ∧ (((∃ xs, SqL K H0 b xs) ∧ ∀ D, H0 D = none → ∃ W : Nat → Nat → Hp → Prop, (∃ m, W 0 m (upd H0 D (.lst []))) ∧ ∀ i m H, W i m H →
      ((Itl K b).stop i H ∧ Qd D H) ∨ ((Itl K b).go i H ∧ ∃ Nx : Hp → Prop, (∀ H', Nx H' → ∃ m', m' < m ∧ W (i + 1) m' H') ∧ ∀ x H', (Itl K b).yld i H x H' → g x (wipe σ vs) H' fun σ2 H2 => wipe σ2 vs = wipe σ vs ∧ tt σ2 H2 fun b H3 =>
        if b = true then te σ2 H3 fun y H4 => ∃ acc, H4 D = some (.lst acc) ∧ acc.length < sizeLine ∧ Nx (upd H4 D (.lst (acc ++ [y]))) else Nx H3)) ∨
      ((∃ xs, SqT K H0 b xs) ∧ ∀ D, H0 D = none → ∃ W : Nat → Nat → Hp → Prop, (∃ m, W 0 m (upd H0 D (.lst []))) ∧ ∀ i m H, W i m H →
      ((Itt K b).stop i H ∧ Qd D H) ∨ ((Itt K b).go i H ∧ ∃ Nx : Hp → Prop, (∀ H', Nx H' → ∃ m', m' < m ∧ W (i + 1) m' H') ∧ ∀ x H', (Itt K b).yld i H x H' → g x (wipe σ vs) H' fun σ2 H2 => wipe σ2 vs = wipe σ vs ∧ tt σ2 H2 fun b H3 =>
        if b = true then te σ2 H3 fun y H4 => ∃ acc, H4 D = some (.lst acc) ∧ acc.length < sizeLine ∧ Nx (upd H4 D (.lst (acc ++ [y]))) else Nx H3))) := by
  have step : ∀ D, H0 D = none → ∀ i v H, xs[i]? = some v → (Same H0 H ∧ ∃ ys, H D = some (.lst ys) ∧ All2 (R H) ys ((as.take i).filter p)) →
      g v (wipe σ vs) H fun σ2 H2 => wipe σ2 vs = wipe σ vs ∧ tt σ2 H2 fun b H3 => if b = true then te σ2 H3 fun y H4 => ∃ acc, H4 D = some (.lst acc) ∧ acc.length < sizeLine ∧
        (Same H0 (upd H4 D (.lst (acc ++ [y]))) ∧ ∃ ys, (upd H4 D (.lst (acc ++ [y]))) D = some (.lst ys) ∧ All2 (R (upd H4 D (.lst (acc ++ [y])))) ys ((as.take (i + 1)).filter p)) else (Same H0 H3 ∧ ∃ ys, H3 D = some (.lst ys) ∧ All2 (R H3) ys ((as.take (i + 1)).filter p)) := by
    rintro D hD i v H hv ⟨e, ys, hy, hR⟩
    obtain ⟨x, hxi, hp⟩ := hx.get hv
    have tk := take_snoc hxi
    refine hs D v x H (fun H3 => Same H0 H3 ∧ ∃ ys, H3 D = some (.lst ys) ∧ All2 (R H3) ys ((as.take (i + 1)).filter p)) (List.mem_of_getElem? hxi) hp e ⟨ys, hy⟩ (fun pt y H4 e4 hr => ?_) (fun pf H4 e4 => ?_)
    · have h4 := e4 D _ hy
      have sx : SameT H4 (upd H4 D (.lst (ys ++ [y]))) := SameT.upd h4 rfl
      have yl := hR.len
      have yl2 : ys.length ≤ 16000000 := by rw [yl]; exact Nat.le_trans (List.length_filter_le _ _) (Nat.le_trans (List.length_take_le' _ _) hl)
      refine ⟨ys, h4, Nat.lt_of_le_of_lt yl2 (by decide), same_mut (e.trans e4) hD, ys ++ [y], upd_same, ?_⟩
      rw [tk, List.filter_append, List.filter_cons_of_pos pt, List.filter_nil]
      exact (hR.imp fun _ _ h => mono _ _ _ _ ((SameT.of e4).trans sx) h).app (All2.one (mono _ _ _ _ sx hr))
    · refine ⟨e.trans e4, ys, e4 D _ hy, ?_⟩
      rw [tk, List.filter_append, List.filter_cons_of_neg (by rw [pf]; decide), List.filter_nil, List.append_nil]
      exact hR.imp fun _ _ h => mono _ _ _ _ (SameT.of e4) h
  have fin : ∀ D H, H0 D = none → (Same H0 H ∧ ∃ ys, H D = some (.lst ys) ∧ All2 (R H) ys ((as.take xs.length).filter p)) → Qd D H := by
    rintro D H hD ⟨e, ys, hy, hR⟩
    rw [hx.len, List.take_length] at hR
    exact hd D H ys e hD hy hR
  refine ⟨a, rfl, ?_⟩
  rcases hq with hq | hq
  · exact .inl ⟨⟨xs, hq⟩, fun D hD => lc_list (xs := xs) (fun i H => Same H0 H ∧ ∃ ys, H D = some (.lst ys) ∧ All2 (R H) ys ((as.take i).filter p)) ⟨same_new hD, [], upd_same, by rw [List.take_zero]; exact .nil⟩ (fun i H _ h => same_l h.1 hq) (step D hD) fun H h => fin D H hD h⟩
  · exact .inr ⟨⟨xs, hq⟩, fun D hD => lc_tup (xs := xs) (fun i H => Same H0 H ∧ ∃ ys, H D = some (.lst ys) ∧ All2 (R H) ys ((as.take i).filter p)) ⟨same_new hD, [], upd_same, by rw [List.take_zero]; exact .nil⟩ (fun i H _ h => same_t h.1 hq) (step D hD) fun H h => fin D H hD h⟩
theorem all2_txt {α : Type} {f : α → V} : ∀ {vs : List V} {as : List α}, All2 (fun v x => v = f x) vs as → vs = as.map f
  | _, _, .nil => rfl
  | _, _, .cons h t => by rw [h, all2_txt t, List.map_cons]
def insS (x : Str) : List Str → List Str
  | [] => [x]
  | y :: r => if ltCps x.cps.toList y.cps.toList = true then x :: y :: r else y :: insS x r
theorem insS_mem (x z : Str) : ∀ ys : List Str, z ∈ insS x ys ↔ z = x ∨ z ∈ ys
  | [] => by show z ∈ [x] ↔ _; rw [List.mem_singleton]; exact ⟨.inl, fun h => h.elim id (fun h => nomatch h)⟩
  | y :: r => by
    unfold insS
    by_cases c : ltCps x.cps.toList y.cps.toList = true
    · rw [if_pos c, List.mem_cons]
    · rw [if_neg c, List.mem_cons, insS_mem x z r, List.mem_cons, ← or_assoc, ← or_assoc, or_comm (a := z = y)]
theorem insS_nd (x : Str) : ∀ ys : List Str, x ∉ ys → ys.Nodup → (insS x ys).Nodup
  | [], _, _ => List.nodup_cons.mpr ⟨List.not_mem_nil, List.nodup_nil⟩
  | y :: r, hx, nd => by
    unfold insS
    obtain ⟨n1, n2⟩ := List.nodup_cons.mp nd
    by_cases c : ltCps x.cps.toList y.cps.toList = true
    · rw [if_pos c]; exact List.nodup_cons.mpr ⟨hx, nd⟩
    · rw [if_neg c]
      refine List.nodup_cons.mpr ⟨fun h => ?_, insS_nd x r (fun h => hx (List.mem_cons_of_mem _ h)) n2⟩
      rcases (insS_mem x y r).mp h with h | h
      · exact hx (h ▸ List.mem_cons_self)
      · exact n1 h
theorem insS_ris (x : Str) : ∀ (ys : List Str) (p : Str), ltCps x.cps.toList p.cps.toList = false → risingS p ys = true → risingS p (insS x ys) = true
  | [], p, h, _ => by
    show (!ltCps x.cps.toList p.cps.toList && true) = true
    rw [h] <;> rfl
  | y :: r, p, h, hr => by
    have h2 := Bool.and_eq_true_iff.mp (show (!ltCps y.cps.toList p.cps.toList && risingS y r) = true from hr)
    unfold insS
    by_cases c : ltCps x.cps.toList y.cps.toList = true
    · rw [if_pos c]
      show (!ltCps x.cps.toList p.cps.toList && (!ltCps y.cps.toList x.cps.toList && risingS y r)) = true
      have : ltCps y.cps.toList x.cps.toList = false := by
        rw [ltCps_eq] at c ⊢
        exact decide_eq_false fun d => List.lt_irrefl _ (List.lt_trans (of_decide_eq_true c) d)
      rw [h, this, h2.2] <;> rfl
    · rw [if_neg c]
      show (!ltCps y.cps.toList p.cps.toList && risingS y (insS x r)) = true
      rw [h2.1, insS_ris x r y (by simpa using c) h2.2] <;> rfl
theorem insS_sort (x : Str) : ∀ ys : List Str, sortedS ys = true → sortedS (insS x ys) = true
  | [], _ => rfl
  | y :: r, h => by
    unfold insS
    by_cases c : ltCps x.cps.toList y.cps.toList = true
    · rw [if_pos c]
      show (!ltCps y.cps.toList x.cps.toList && risingS y r) = true
      have : ltCps y.cps.toList x.cps.toList = false := by
        rw [ltCps_eq] at c ⊢
        exact decide_eq_false fun d => List.lt_irrefl _ (List.lt_trans (of_decide_eq_true c) d)
      have h : risingS y r = true := h
      rw [this, h] <;> rfl
    · rw [if_neg c]
      exact insS_ris x r y (by simpa using c) h
theorem sort_ex : ∀ xs : List Str, ∃ ys, IsSort xs ys
  | [] => ⟨[], rfl, List.nodup_nil, fun _ => Iff.rfl⟩
  | x :: r => by
    obtain ⟨ys, h1, h2, h3⟩ := sort_ex r
    by_cases c : x ∈ ys
    · exact ⟨ys, h1, h2, fun y => (h3 y).trans ⟨List.mem_cons_of_mem _, fun h => (List.mem_cons.mp h).elim (fun e => e ▸ (h3 x).mp c) id⟩⟩
    · exact ⟨insS x ys, insS_sort x ys h1, insS_nd x ys c h2, fun y => by rw [insS_mem, h3 y, List.mem_cons]⟩
theorem sortU_ok (xs : List Str) : IsSort xs (sortU xs) := by
  obtain ⟨ys, h⟩ := sort_ex xs
  exact sortU_is h
theorem sortU_mem {xs : List Str} {y : Str} : y ∈ sortU xs ↔ y ∈ xs := (sortU_ok xs).2.2 y
inductive Sc (os ss : List Str) (es : List Ent) : Str → Prop where
  | base {s : Str} (h : s ∈ ss) : Sc os ss es s
  | step {k : Nat} {x y : Str} {f : Fm} {A : List Str} (h : (k, Rw.set x f, A) ∈ es) (n : x ∉ os) (m : y ∈ f.names ++ A) (hy : Sc os ss es y) : Sc os ss es x
theorem flow_mem {b : List Rw} {g : Flo} : g ∈ flowsB b ↔ ∃ f A, (g.1, Rw.set g.2.2 f, A) ∈ entsB 1 [] b ∧ g.2.1 ∈ f.names ++ A := by
  unfold flowsB
  rw [List.mem_flatMap]
  constructor
  · rintro ⟨⟨k, r, A⟩, he, hg⟩
    cases r with
    | set x f =>
      obtain ⟨s, hs, rfl⟩ := List.mem_map.mp hg
      exact ⟨f, A, he, by have := sortU_mem.mp hs; simpa [or_comm] using this⟩
    | tell _ => exact nomatch hg
    | skip => exact nomatch hg
    | ite _ _ _ => exact nomatch hg
    | whl _ _ => exact nomatch hg
  · rintro ⟨f, A, he, hm⟩
    exact ⟨_, he, List.mem_map.mpr ⟨g.2.1, sortU_mem.mpr (by simpa [or_comm] using hm), rfl⟩⟩
theorem free_kind {os ss : List Str} {x : Str} : kindT os ss x = "free" ↔ x ∉ os ∧ x ∉ ss := by
  unfold kindT
  by_cases c : x ∈ os
  · rw [if_pos c]
    exact ⟨fun h => absurd h (by decide +kernel), fun h => absurd c h.1⟩
  · rw [if_neg c]
    by_cases d : x ∈ ss
    · rw [if_pos d]
      exact ⟨fun h => absurd h (by decide +kernel), fun h => absurd d h.2⟩
    · rw [if_neg d]
      exact ⟨fun _ => ⟨c, d⟩, fun _ => rfl⟩
theorem free_mem {os ss : List Str} {b : List Rw} {g : Flo} : g ∈ freeR os ss b ↔ g ∈ flowsB b ∧ g.2.2 ∉ os ∧ g.2.2 ∉ ss := by
  unfold freeR
  rw [List.mem_filter, decide_eq_true_iff, free_kind]
theorem ways_sc {os ss : List Str} {b : List Rw} {ch : Chs} (W : Ways ss (freeR os ss b) ch) : ∀ n x c, c.length ≤ n → (x, c) ∈ ch → Sc os ss (entsB 1 [] b) x
  | 0, x, c, hn, h => by
    rcases W.each x c h with ⟨_, rfl⟩ | ⟨f, _, d, _, _, rfl⟩
    · exact absurd hn (by simp)
    · rw [List.length_append] at hn
      exact absurd hn (by simp)
  | n + 1, x, c, hn, h => by
    rcases W.each x c h with ⟨hs, _⟩ | ⟨f, hf, d, hd, rfl, rfl⟩
    · exact .base hs
    · rw [List.length_append, List.length_singleton] at hn
      obtain ⟨hf, ho, _⟩ := free_mem.mp hf
      obtain ⟨g, A, he, hm⟩ := flow_mem.mp hf
      exact .step he ho hm (ways_sc W n _ d (by omega) hd)
theorem sc_ways {os ss : List Str} {b : List Rw} {ch : Chs} (W : Ways ss (freeR os ss b) ch) {x : Str} (h : Sc os ss (entsB 1 [] b) x) : x ∈ Chs.keys ch := by
  induction h with
  | base h => exact key_of (W.base _ h)
  | @step k x y f A h n m _ ih =>
    by_cases c : x ∈ ss
    · exact key_of (W.base _ c)
    · exact W.closed (k, y, x) (free_mem.mpr ⟨flow_mem.mpr ⟨f, A, h, m⟩, n, c⟩) ih
theorem keys_sc {os ss : List Str} {b : List Rw} {ch : Chs} (W : Ways ss (freeR os ss b) ch) (x : Str) : x ∈ Chs.keys ch ↔ Sc os ss (entsB 1 [] b) x := by
  refine ⟨fun h => ?_, sc_ways W⟩
  obtain ⟨c, hc⟩ := chGet_key h
  exact ways_sc W _ x c (Nat.le_refl _) (chGet_mem hc)
local macro_rules | `(tactic| walk_at "ss.") => `(tactic| ((with_reducible refine same_mutX (H := ?M) ?a ?n ?b); (case b => with_reducible assumption); (case n => walk_at "nn"); (case a => walk_at "ss")))
local macro_rules | `(tactic| walk_at "ss.") => `(tactic| ((with_reducible refine Same.trans (H1 := ?M) ?a ?b); (case b => with_reducible assumption); (case a => walk_at "ss")))
local macro_rules | `(tactic| walk_at "ss.") => `(tactic| with_reducible exact Same.refl _)
local macro_rules | `(tactic| walk_at "ss.") => `(tactic| with_reducible assumption)
local macro_rules | `(tactic| walk_at "ss") => `(tactic| first | walk_at "ss." | fail)
local macro_rules | `(tactic| walk_at "nn.") => `(tactic| ((with_reducible refine none_of (H' := ?M) ?e ?h); (case h => with_reducible assumption); (case e => walk_at "ss")))
local macro_rules | `(tactic| walk_at "nn.") => `(tactic| with_reducible assumption)
local macro_rules | `(tactic| walk_at "nn") => `(tactic| first | walk_at "nn." | fail)
local macro_rules | `(tactic| walk_at "lk.") => `(tactic| ((with_reducible refine same_look (H := ?M) ?e ?h); (case h => with_reducible assumption); (case e => walk_at "ss")))
local macro_rules | `(tactic| walk_at "lk.") => `(tactic| with_reducible assumption)
local macro_rules | `(tactic| walk_at "lk") => `(tactic| first | walk_at "lk." | fail)
local macro_rules | `(tactic| walk_at "hp.") => `(tactic| ((with_reducible refine PrAt.mono (H := ?M) ?e ?h); (case h => with_reducible assumption); (case e => walk_at "ss")))
local macro_rules | `(tactic| walk_at "hp.") => `(tactic| ((with_reducible refine RwAt.monoS (H := ?M) ?e ?h); (case h => with_reducible assumption); (case e => walk_at "ss")))
local macro_rules | `(tactic| walk_at "hp.") => `(tactic| ((with_reducible refine BkAt.monoS (H := ?M) ?e ?h); (case h => with_reducible assumption); (case e => walk_at "ss")))
local macro_rules | `(tactic| walk_at "hp.") => `(tactic| ((with_reducible refine FmAt.mono (H := ?M) ?e ?h); (case h => with_reducible assumption); (case e => walk_at "ss")))
local macro_rules | `(tactic| walk_at "hp.") => `(tactic| ((with_reducible refine sq_l (H := ?M) ?e ?h); (case h => with_reducible assumption); (case e => walk_at "ss")))
local macro_rules | `(tactic| walk_at "hp.") => `(tactic| ((with_reducible refine sq_t (H := ?M) ?e ?h); (case h => with_reducible assumption); (case e => walk_at "ss")))
local macro_rules | `(tactic| walk_at "hp.") => `(tactic| ((with_reducible refine same_l (H := ?M) ?e ?h); (case h => with_reducible assumption); (case e => walk_at "ss")))
local macro_rules | `(tactic| walk_at "hp.") => `(tactic| ((with_reducible refine same_t (H := ?M) ?e ?h); (case h => with_reducible assumption); (case e => walk_at "ss")))
local macro_rules | `(tactic| walk_at "hp.") => `(tactic| walk_at "lk")
local macro_rules | `(tactic| walk_at "hp.") => `(tactic| with_reducible assumption)
local macro_rules | `(tactic| walk_at "hp") => `(tactic| first | walk_at "hp." | fail)
local macro_rules | `(tactic| walk_at "gx1.") => `(tactic| ((with_reducible refine w_yes ?e ?_); (case e => (simp only [eq_self_iff_true, decide_true, Bool.not_false]; done))))
local macro_rules | `(tactic| walk_at "gx1.") => `(tactic| ((with_reducible refine w_no ?e ?_); (case e => (simp only [eq_self_iff_true, decide_true, Bool.not_true]; done))))
local macro_rules | `(tactic| walk_at "gx1.") => `(tactic| walk_at "go1")
local macro_rules | `(tactic| walk_at "gx1.") => `(tactic| ((with_reducible refine w_gTup (xs := ?xs) ?h ?l ?_); (case h => walk_at "hp"); (case l => rfl)))
local macro_rules | `(tactic| walk_at "gx1.") => `(tactic| ((with_reducible refine w_lenT (xs := ?xs) ?h ?_); (case h => walk_at "hp")))
local macro_rules | `(tactic| walk_at "gx1.") => `(tactic| ((with_reducible refine w_lenL (xs := ?xs) ?h ?_); (case h => walk_at "hp")))
local macro_rules | `(tactic| walk_at "gx1.") => `(tactic| ((with_reducible refine w_bmL (xs := ?xs) ?h ?_); (case h => walk_at "hp")))
local macro_rules | `(tactic| walk_at "gx1.") => `(tactic| ((with_reducible refine w_ixL (xs := ?xs) (v := ?v) ?h ?e ?_); (case h => walk_at "hp"); (case e => rfl)))
local macro_rules | `(tactic| walk_at "gx1.") => `(tactic| ((with_reducible refine w_ixT (xs := ?xs) (v := ?v) ?h ?e ?_); (case h => walk_at "hp"); (case e => rfl)))
local macro_rules | `(tactic| walk_at "gx1.") => `(tactic| ((with_reducible refine w_nw ?z (fun p H2 hn he hp => ?_)); (case z => walk_at "sz")))
local macro_rules | `(tactic| walk_at "gx1.") => `(tactic| with_reducible refine w_tup' ?_)
local macro_rules | `(tactic| walk_at "gx1.") => `(tactic| with_reducible refine w_lst' ?_)
local macro_rules | `(tactic| walk_at "gx1") => `(tactic| first | walk_at "gx1." | fail)
local macro_rules | `(tactic| walk_at "gx") => `(tactic| repeat walk_at "gx1")
local macro_rules | `(tactic| walk_at "gxn") => `(tactic| repeat ((fail_if_success (with_reducible refine w_next ?_)); walk_at "gx1"))
theorem BkAt.take {K : PySem.W.Frag} {S : SQ} {H : Hp} : ∀ {vs : List V} {l : List Rw} (n : Nat), BkAt K S H vs l → BkAt K S H (vs.take n) (l.take n)
  | _, _, 0, _ => .nil
  | _, _, _ + 1, .nil => .nil
  | _, _, n + 1, .cons h t => .cons h (t.take n)
theorem oks_take {ns : List Str} : ∀ {l : List Rw} (n : Nat), oks ns l → oks ns (l.take n)
  | _, 0, _ => trivial
  | [], _ + 1, _ => trivial
  | _ :: _, n + 1, h => ⟨h.1, oks_take n h.2⟩
theorem nests_take : ∀ (l : List Rw) (n : Nat), nests (l.take n) ≤ nests l
  | _, 0 => Nat.zero_le _
  | [], _ + 1 => Nat.le_refl _
  | r :: l, n + 1 => by
    show max r.nest (nests (l.take n)) ≤ max r.nest (nests l)
    have := nests_take l n
    omega
theorem cut_v {xs : List V} {k : Nat} : cutV xs none (some (k : Int)) = xs.take k := by
  have := cut_lo (f := fun v : V => v) (xs := xs) (k := k)
  rw [List.map_id', List.map_id'] at this
  exact this
theorem cut_vh {xs : List V} {k : Nat} : cutV xs (some (k : Int)) none = xs.drop k := by
  have := cut_hi (f := fun v : V => v) (xs := xs) (k := k)
  rw [List.map_id', List.map_id'] at this
  exact this
theorem w_slC' {K : PySem.W.Frag} {H : Hp} {Q : VK} {a : Addr} {ns : List Int} (h : SqL K H a (ns.map V.int)) (lo hi : Option Int) (q : ∀ p H' cs, H p = none → Same H H' → H' p = some (.lst (cs.map V.int)) → List.Sublist cs ns → Q (.ref p) H') : rSl K (.ref a) lo hi H Q :=
  w_slL' h fun p H' hp e hp2 => by
    obtain ⟨cs, e2, s⟩ := cut_map (f := V.int) (xs := ns) lo hi
    rw [e2] at hp2
    exact q p H' cs hp e hp2 s
theorem tell_is (r : Rw) : decide (r.word = ("tell" : Str)) = (match r with | .tell _ => true | _ => false) := by
  cases r with
  | set x f => exact (show decide (("set" : Str) = "tell") = false by decide +kernel)
  | tell f => exact (show decide (("tell" : Str) = "tell") = true by decide +kernel)
  | skip => decide +kernel
  | ite f a b => exact (show decide (("if" : Str) = "tell") = false by decide +kernel)
  | whl f a => exact (show decide (("while" : Str) = "tell") = false by decide +kernel)
theorem while_is (r : Rw) : decide (r.word = ("while" : Str)) = (match r with | .whl _ _ => true | _ => false) := by
  cases r with
  | set x f => exact (show decide (("set" : Str) = "while") = false by decide +kernel)
  | tell f => exact (show decide (("tell" : Str) = "while") = false by decide +kernel)
  | skip => decide +kernel
  | ite f a b => exact (show decide (("if" : Str) = "while") = false by decide +kernel)
  | whl f a => exact (show decide (("while" : Str) = "while") = true by decide +kernel)
theorem skip_is (r : Rw) : decide (r.word = ("skip" : Str)) = (match r with | .skip => true | _ => false) := by
  cases r with
  | set x f => exact (show decide (("set" : Str) = "skip") = false by decide +kernel)
  | tell f => exact (show decide (("tell" : Str) = "skip") = false by decide +kernel)
  | skip => decide +kernel
  | ite f a b => exact (show decide (("if" : Str) = "skip") = false by decide +kernel)
  | whl f a => exact (show decide (("while" : Str) = "skip") = false by decide +kernel)
structure SecI (os ss ns : List Str) (es : List Ent) (zs : List Str) : Prop where
  nd : zs.Nodup
  base : ∀ s ∈ ss, s ∈ zs
  sc : ∀ z ∈ zs, Sc os ss es z
  sub : ∀ z ∈ zs, z ∈ ss ++ ns
def SecC (os : List Str) (ps : List Ent) (zs : List Str) : Prop := ∀ k x f A, (k, Rw.set x f, A) ∈ ps → x ∉ os → ∀ y ∈ f.names ++ A, y ∈ zs → x ∈ zs
theorem sec_iff {os ss ns : List Str} {es : List Ent} {zs : List Str} (I : SecI os ss ns es zs) (c : SecC os es zs) (x : Str) : x ∈ zs ↔ Sc os ss es x := by
  refine ⟨I.sc x, fun h => ?_⟩
  induction h with
  | base h => exact I.base _ h
  | step h n m _ ih => exact c _ _ _ _ h n _ m ih
noncomputable def sp_law_secret (K : PySem.W.Frag) : Sp := fun vs H Q _ => ∃ (p x y r : Addr) (os ss ns : List Str) (us : List V) (es : List Ent), vs = [.ref p, .ref r] ∧ H p = some (.lst [.ref x, .ref y]) ∧ H x = some (.lst (os.map V.str)) ∧ H y = some (.lst (ss.map V.str)) ∧
  H r = some (.lst us) ∧ All2 (EntL K H r) us es ∧ (∀ e ∈ es, EntOk ns [] 8 e) ∧ (∀ z ∈ ss ++ ns, Nm z) ∧ ss.Nodup ∧ os.length ≤ 1000 ∧ ss.length ≤ 1000 ∧ ns.length ≤ 1000 ∧
  ∀ (q : Addr) (H' : Hp) (zs : List Str), Same H H' → H q = none → H' q = some (.lst (zs.map V.str)) → (∀ z, z ∈ zs ↔ Sc os ss es z) → (∀ z ∈ zs, z ∈ ss ++ ns) → zs.length ≤ 2000 → Q (.ref q) H'
abbrev N_law_secret : List Str := ["_law_pairs", "_law_rows", "_law_secret_here", "_law_grown", "_law_row", "_law_around", "_law_name"]
noncomputable def t_law_secret (K : PySem.W.Frag) : TS :=
  (tSeq (tAsg (tCB (rList K) (tCons (tOp (rIx K) (tVar 0) (tC (.int 1))) tNil)) (gName 2)) (tSeq (tAsg (tC (.bl true)) (gName 3)) (tSeq (tWhile (tB (tVar 3)) (tSeq (tAsg (tC (.bl false)) (gName 3)) (tFor (iSeq K (tVar 1)) (gTup K 2 (gCons (gName 4) (gCons (gName 5) gNil))) (tIfS (tAnd (tTest (tOp (rEq2 K) (tOp (rIx K) (tVar 4) (tC (.int 0))) (tC (.str "set")))) (tTest (tOp (rIn2 K true) (tOp (rIx K) (tVar 4) (tC (.int 1))) (tOp (rAdd K) (tOp (rIx K) (tVar 0) (tC (.int 0))) (tVar 2))))) (tIfS (tTest (tOp (rNe2 K) (tLc (iSeq K (tOp (rAdd K) (tF (sp_law_all_names K 18) (tCons (tOp (rIx K) (tVar 4) (tC (.int 2))) tNil)) (tVar 5))) (gName 6) (tTest (tOp (rIn2 K false) (tVar 6) (tVar 2))) (tVar 6) [6]) (tLst tNil))) (tSeq (tDrop (tBM K "list" rAppend (tVar 2) (tCons (tOp (rIx K) (tVar 4) (tC (.int 1))) tNil))) (tAsg (tC (.bl true)) (gName 3))) tNext) tNext)))) (tRet (tVar 2)))))
theorem EntL.mono {K : PySem.W.Frag} {H H' : Hp} {p : Addr} {v : V} {e : Ent} (s : Same H H') (h : EntL K H p v e) : EntL K H' p v e := by
  obtain ⟨t, vr, al, h1, h2, h3, h4, h5, h6⟩ := h
  exact ⟨t, vr, al, h1, same_t s h2, h3.monoS s, s _ _ h4, h5, h6⟩
theorem pure_law_secret (K : PySem.W.Frag) (vs : List V) (H : Hp) (Q : VK) (E : XK) (h : sp_law_secret K vs H Q E) :
    t_law_secret K { nx := fun _ H' => Q .non H', rt := Q } (start N_law_secret vs) H := by
  obtain ⟨p, x, y, r, os, ss, ns, us, es, rfl, hp, hx, hy, hr, hE, hok, hN, nd, ol, sl, nl, q⟩ := h
  unfold t_law_secret
  walk_at "gx"
  refine w_listL' (SqL.of hy) (fun q0 H1 nq e1 hq1 => ?_)
  walk_at "gx"
  refine w_while' (fun m σ H' => Same H H' ∧ ∃ (zs : List Str) (g : Bool) (w4 w5 w6 : Option V), σ = [some (.ref p), some (.ref r), some (.ref q0), some (.bl g), w4, w5, w6] ∧ H' q0 = some (.lst (zs.map V.str)) ∧ SecI os ss ns es zs ∧ (g = false → SecC os es zs) ∧ m = 2 * (2000 - zs.length) + (if g = true then 1 else 0))
    _ ⟨e1, ss, true, _, _, _, rfl, hq1, ⟨nd, fun _ h => h, fun z h => .base h, fun z h => List.mem_append_left _ h⟩, (fun h => nomatch h), rfl⟩ ?_
  rintro m σ H2 ⟨e2, zs, g, w4, w5, w6, rfl, hq2, I, hc, rfl⟩
  have len : ∀ {zs : List Str}, SecI os ss ns es zs → zs.length ≤ 2000 := fun I => by
    have := nodup_le I.nd I.sub
    rw [List.length_append] at this
    omega
  walk_at "gx"
  cases g with
  | false =>
    refine iteF ?_
    walk_at "gx"
    exact q q0 H2 zs e2 nq hq2 (sec_iff I (hc rfl)) I.sub (len I)
  | true =>
    refine iteT ?_
    refine w_body ?_
    walk_at "gx"
    refine w_isL (sq_l e2 hr) ?_
    refine for_list (xs := us) (fun i σ H' => Same H H' ∧ ∃ (zs' : List Str) (g : Bool) (w4 w5 w6 : Option V), σ = [some (.ref p), some (.ref r), some (.ref q0), some (.bl g), w4, w5, w6] ∧ H' q0 = some (.lst (zs'.map V.str)) ∧ SecI os ss ns es zs' ∧ (g = false → zs' = zs ∧ SecC os (es.take i) zs) ∧ (g = true → zs.length < zs'.length))
      ⟨e2, zs, false, _, _, _, rfl, hq2, I, (fun _ => ⟨rfl, fun k x f A h => nomatch h⟩), (fun h => nomatch h)⟩ (fun i σ H' _ h => sq_l h.1 hr) ?_ ?_
    · rintro i v σ H3 hv ⟨e3, zs3, g, w4, w5, w6, rfl, hq3, I3, hg, hl⟩
      obtain ⟨⟨k, rw, A⟩, hen, t, vr, al, rfl, ht, hrw, hal, nal, xl⟩ := hE.get hv
      have eo := hok _ (List.mem_of_getElem? hen)
      have tk := take_snoc hen
      have ht3 := same_t e3 ht
      have hr3 := hrw.monoS e3
      have hal3 := e3 _ _ hal
      have stay : ∀ H', Same H3 H' → (∀ x f, rw = Rw.set x f → x ∉ os → ∀ y ∈ f.names ++ A, y ∈ zs3 → x ∈ zs3) → Same H H' ∧ ∃ (zs' : List Str) (g' : Bool) (w4' w5' w6' : Option V), ([some (.ref p), some (.ref r), some (.ref q0), some (.bl g), some vr, some (.ref al), w6] : L2.St) = [some (.ref p), some (.ref r), some (.ref q0), some (.bl g'), w4', w5', w6'] ∧ H' q0 = some (.lst (zs'.map V.str)) ∧ SecI os ss ns es zs' ∧ (g' = false → zs' = zs ∧ SecC os (es.take (i + 1)) zs) ∧ (g' = true → zs.length < zs'.length) := by
        intro H' e' hh
        refine ⟨e3.trans e', zs3, g, _, _, _, rfl, e' _ _ hq3, I3, fun e => ?_, hl⟩
        obtain ⟨z1, z2⟩ := hg e
        refine ⟨z1, ?_⟩
        rw [tk]
        intro k' x f A' hm
        rcases List.mem_append.mp hm with hm | hm
        · exact z2 k' x f A' hm
        · obtain ⟨rfl, rfl, rfl⟩ : k' = k ∧ Rw.set x f = rw ∧ A' = A := by
            have := List.mem_singleton.mp hm
            exact ⟨congrArg (·.1) this, congrArg (·.2.1) this, congrArg (·.2.2) this⟩
          rw [← z1]
          exact hh x f rfl
      obtain ⟨ar, ws, hvr, hs, _⟩ := hr3.head
      subst hvr
      walk_at "gx"
      refine w_ixT hs at0 ?_
      walk_at "gx"
      rw [set_is]
      cases rw with
      | tell f => walk_at "gx"; exact stay _ (Same.refl _) fun x f h => nomatch h
      | skip => walk_at "gx"; exact stay _ (Same.refl _) fun x f h => nomatch h
      | ite f a b => walk_at "gx"; exact stay _ (Same.refl _) fun x f h => nomatch h
      | whl f a => walk_at "gx"; exact stay _ (Same.refl _) fun x f h => nomatch h
      | set z f =>
        have ff := eo.ok.2
        have hr3' := hr3
        cases hr3' with
        | set hrow hf =>
        walk_at "gx"
        have hx3 := e3 _ _ hx
        have l3 := len I3
        refine w_addL' hx3 hq3 (sz (by rw [List.length_map, List.length_map]; omega)) (fun pa H4 npa e4 hpa => ?_)
        rw [← List.map_append] at hpa
        refine w_ninTxt (SqL.of hpa) ?_
        walk_at "gx"
        have e34 := e3.trans e4
        refine w_two (fun c => ?_) (fun c => ?_)
        · have c : z ∉ os ++ zs3 := by simpa using c
          walk_at "gx"
          refine w_lc ?_
          walk_at "gx"
          refine ⟨_, f, rfl, hf.mono e4, Nat.le_trans ff.2 (by decide), Nat.le_trans ff.2 (by decide), fun p5 H5 e5 np5 hp5 => ?_⟩
          walk_at "gx"
          have xl' : A.length ≤ 1000000 := xl
          have fl := Fm.names_small18 (Nat.le_trans ff.2 (by decide : 12 ≤ 18))
          refine w_addL' hp5 (e5 _ _ (e4 _ _ hal3)) (sz (by rw [List.length_map, List.length_map]; omega)) (fun p6 H6 np6 e6 hp6 => ?_)
          rw [← List.map_append] at hp6
          have e46 := e5.trans e6
          have e36 := e4.trans e46
          refine w_isL (SqL.of hp6) (fun D hD => ?_)
          refine lc_filter (ys := f.names ++ A) (fun x => decide (x ∈ zs3)) V.str (SqL.of hp6) (by rw [List.length_append]; omega) hD ?_ ?_
          · rintro y H7 Nx hy e7 ⟨us7, hus7⟩ yes no
            refine ⟨rfl, ?_⟩
            walk_at "gx"
            refine w_inTxt (SqL.of ((e36.trans e7) _ _ hq3)) ?_
            walk_at "gx"
            refine w_two (fun d => ?_) (fun d => ?_)
            · walk_at "gx"
              exact yes d _ (Same.refl _)
            · exact no d _ (Same.refl _)
          · intro H7 e7 hD7
            walk_at "gx"
            rename_i pe H8 npe e8 hpe
            have inN : ∀ x ∈ f.names ++ A, x ∈ ns := fun x hx => (List.mem_append.mp hx).elim (Fm.ok_names ff.1 x) fun h => (eo.sub x h).resolve_left List.not_mem_nil
            have nmz : ∀ x ∈ (f.names ++ A).filter (fun x => decide (x ∈ zs3)), PyData.strOk x = true := fun x hx => ok_txt (hN x (List.mem_append_right _ (inN x (List.mem_filter.mp hx).1)))
            refine w_neTxt (xs := (f.names ++ A).filter fun x => decide (x ∈ zs3)) (ys := []) (SqL.of (e8 _ _ hD7)) (SqL.of hpe) nmz (fun x hx => nomatch hx) ?_
            have e38 := e36.trans (e7.trans e8)
            have e08 := e3.trans e38
            walk_at "gx"
            refine w_two (fun d => ?_) (fun d => ?_)
            · have d : (f.names ++ A).filter (fun x => decide (x ∈ zs3)) ≠ [] := fun e => by rw [e] at d; exact nomatch d
              obtain ⟨y, hy⟩ := List.exists_mem_of_ne_nil _ d
              obtain ⟨hy1, hy2⟩ := List.mem_filter.mp hy
              have hy2 : y ∈ zs3 := of_decide_eq_true hy2
              have zo : z ∉ os := fun h => c (List.mem_append_left _ h)
              have zz : z ∉ zs3 := fun h => c (List.mem_append_right _ h)
              walk_at "gx"
              refine w_app' (xs := zs3.map V.str) (e38 _ _ hq3) (lt_line (by rw [List.length_map]; omega)) (fun H9 x9 t9 hq9 => ?_)
              walk_at "gx"
              refine ⟨same_mutX e08 nq x9, zs3 ++ [z], true, _, _, _, rfl, by rw [hq9, List.map_append] <;> rfl, ⟨?_, fun s hs => List.mem_append_left _ (I3.base s hs), fun s hs => ?_, fun s hs => ?_⟩, (fun h => nomatch h), fun _ => ?_⟩
              · rw [List.nodup_append]
                refine ⟨I3.nd, List.nodup_cons.mpr ⟨List.not_mem_nil, List.nodup_nil⟩, fun a ha b hb e => ?_⟩
                rw [List.mem_singleton.mp hb] at e
                exact zz (e ▸ ha)
              · rcases List.mem_append.mp hs with h | h
                · exact I3.sc s h
                · rw [List.mem_singleton.mp h]
                  exact .step (List.mem_of_getElem? hen) zo hy1 (I3.sc y hy2)
              · rcases List.mem_append.mp hs with h | h
                · exact I3.sub s h
                · rw [List.mem_singleton.mp h]
                  exact List.mem_append_right _ eo.ok.1
              · rw [List.length_append, List.length_singleton]
                cases g with
                | false => rw [(hg rfl).1]; omega
                | true => have := hl rfl; omega
            · have d : (f.names ++ A).filter (fun x => decide (x ∈ zs3)) = [] := Decidable.byContradiction fun e => by rw [decide_eq_false e] at d; exact nomatch d
              walk_at "gx"
              refine stay _ e38 fun x' f' h zo y hy hyz => ?_
              obtain ⟨rfl, rfl⟩ : z = x' ∧ f = f' := by injection h with h1 h2; exact ⟨h1, h2⟩
              have : y ∈ (f.names ++ A).filter (fun x => decide (x ∈ zs3)) := List.mem_filter.mpr ⟨hy, decide_eq_true hyz⟩
              rw [d] at this
              exact nomatch this
        · have c : z ∈ os ++ zs3 := Decidable.byContradiction fun e => by rw [decide_eq_false e] at c; exact nomatch c
          walk_at "gx"
          refine stay _ e4 fun x' f' h zo y hy hyz => ?_
          obtain ⟨rfl, rfl⟩ : z = x' ∧ f = f' := by injection h with h1 h2; exact ⟨h1, h2⟩
          exact (List.mem_append.mp c).resolve_left zo
    · rintro σ H3 ⟨e3, zs3, g, w4, w5, w6, rfl, hq3, I3, hg, hl⟩
      have ul := hE.len
      rw [ul, List.take_length] at hg
      walk_at "gx"
      refine ⟨2 * (2000 - zs3.length) + (if g = true then 1 else 0), ?_, e3, zs3, g, _, _, _, rfl, hq3, I3, fun h => ?_, rfl⟩
      · have := len I3
        cases g with
        | false => rw [(hg rfl).1]; simp
        | true => have := hl rfl; simp; omega
      · obtain ⟨h1, h2⟩ := hg h
        rw [h1]
        exact h2
def zzN (k : Nat) : Str := ("zz" : Str) ++ (Str.ofString (toString (k : Int)))
def zzs : List Str := (List.range 60).map zzN
theorem zz_nm : ∀ k ∈ List.range 60, nmB (zzN k) = true := by decide +kernel
theorem zz_len : ∀ k ∈ List.range 60, ("zz" : Str).length + (Str.ofString (toString ((k : Nat) : Int))).length ≤ sizeLine ∧ ("zz" : Str).length + (Str.ofString (toString (((k : Nat) : Int) - 1))).length ≤ sizeLine := by decide +kernel
def sp_law_row_of_names (K : PySem.W.Frag) : Sp := fun vs H Q _ => ∃ (a : Addr) (ns : List Str) (m s : Int), vs = [.ref a, .int m, .int s] ∧ SqL K H a (ns.map V.str) ∧ Ten ns ∧ 0 ≤ m ∧ m < 60 ∧ 1 ≤ s ∧ s ≤ 60 ∧
  ∀ (p : Addr) (H' : Hp) (xs : List V) (b : List Rw), Same H H' → H p = none → H' p = some (.lst xs) → BkAt K (SqT K) H' xs b → oks (ns ++ zzs) b → nests b ≤ 1 → szs b ≤ 61 → Q (.ref p) H'
abbrev N_law_row_of_names : List Str := ["_law_names_here", "_law_many", "_law_step", "_law_order", "_law_k", "_law_rows", "_law_place", "_law_before"]
def t_law_row_of_names (K : PySem.W.Frag) : TS :=
  (tSeq (tAsg (tLc (iRng1 (tCons (tC (.int 61)) tNil)) (gName 4) (tTest (tOp rLt (tOp rMod (tOp rMul (tVar 4) (tVar 2)) (tC (.int 61))) (tVar 1))) (tOp rMod (tOp rMul (tVar 4) (tVar 2)) (tC (.int 61))) [4]) (gName 3)) (tSeq (tAsg (tLst tNil) (gName 5)) (tSeq (tFor (iSeq K (tVar 3)) (gName 6) (tSeq (tAsg (tOp (rIx K) (tLst (tCons (tOp (rAdd K) (tC (.str "zz")) (tCB rStr (tCons (tOp rSub (tVar 6) (tC (.int 1))) tNil))) (tCons (tOp (rIx K) (tVar 0) (tC (.int 9))) tNil))) (tCB rInt (tCons (tOp (rEq2 K) (tVar 6) (tC (.int 0))) tNil))) (gName 7)) (tDrop (tBM K "list" rAppend (tVar 5) (tCons (tTup (tCons (tC (.str "set")) (tCons (tOp (rAdd K) (tC (.str "zz")) (tCB rStr (tCons (tVar 6) tNil))) (tCons (tTup (tCons (tC (.str "+")) (tCons (tTup (tCons (tC (.str "name")) (tCons (tVar 7) tNil))) (tCons (tTup (tCons (tC (.str "number")) (tCons (tC (.int 1)) tNil))) tNil)))) tNil)))) tNil))))) (tRet (tVar 5)))))
theorem log_small {i : Int} (h0 : -1 ≤ i) (h : i < 100) : i.natAbs.log2 < 1920 := by
  have : i.natAbs < 2 ^ 7 := by omega
  by_cases z : i.natAbs = 0
  · rw [z]; decide
  · have := (Nat.log2_lt z).mpr this
    omega
theorem pure_law_row_of_names (K : PySem.W.Frag) (vs : List V) (H : Hp) (Q : VK) (E : XK) (h : sp_law_row_of_names K vs H Q E) :
    t_law_row_of_names K { nx := fun _ H' => Q .non H', rt := Q } (start N_law_row_of_names vs) H := by
  obtain ⟨a, ns, m, s, rfl, hA, hT, m0, m60, s1, s60, q⟩ := h
  unfold t_law_row_of_names
  walk_at "gx"
  refine w_lc ?_
  walk_at "gx"
  refine ⟨_, rfl, by decide, by decide, fun D hD => lc_range (lo := 0) (n := 61) (fun i H' => Same H H' ∧ ∃ ps : List Nat, H' D = some (.lst (ps.map fun p => V.int (p : Nat))) ∧ ps.length ≤ i ∧ ∀ p ∈ ps, p < 60) ⟨same_new hD, [], upd_same, Nat.le_refl _, fun p hp => nomatch hp⟩ ?_ ?_⟩
  · rintro i H2 hi ⟨e2, ps, hD2, pl, hp⟩
    refine ⟨rfl, ?_⟩
    walk_at "gx"
    refine w_mulI (.inl ⟨by omega, by omega⟩) ?_
    walk_at "gx"
    have mm := mod_in ((0 + (i : Int)) * s) (show (0 : Int) < 61 by decide)
    refine w_two (fun c => ?_) (fun c => ?_)
    · have c := of_decide_eq_true c
      walk_at "gx"
      refine w_mulI (.inl ⟨by omega, by omega⟩) ?_
      walk_at "gx"
      generalize (0 + (i : Int)) * s % 61 = z at *
      obtain ⟨p, rfl⟩ := Int.eq_ofNat_of_zero_le mm.1
      refine ⟨_, hD2, Nat.lt_of_le_of_lt (by rw [List.length_map]; omega : _ ≤ 61) (by decide), same_mut e2 hD, ps ++ [p], by rw [upd_same, List.map_append] <;> rfl, by rw [List.length_append, List.length_singleton]; omega, fun r hr => ?_⟩
      rcases List.mem_append.mp hr with h | h
      · exact hp r h
      · rw [List.mem_singleton.mp h]; omega
    · exact ⟨e2, ps, hD2, by omega, hp⟩
  · rintro H2 ⟨e2, ps, hD2, pl, hp⟩
    walk_at "gx"
    rename_i pr H3 npr e3 hpr
    have nD : D ≠ pr := ne_of_none hD2 npr
    have sD : SXq K H3 pr D (ps.map fun p => V.int (p : Nat)) := .inl fun H' x => SqL.of (x _ _ nD (e3 _ _ hD2))
    refine for_ax (as := ps) (P := fun v (p : Nat) => v = V.int (p : Nat)) (fun pre σ H' => SameX pr H3 H' ∧ ∃ (xs : List V) (b : List Rw) (w4 w6 w7 : Option V), σ = [some (.ref a), some (.int m), some (.int s), some (.ref D), w4, some (.ref pr), w6, w7] ∧ H' pr = some (.lst xs) ∧ BkAt K (SqT K) H' xs b ∧ oks (ns ++ zzs) b ∧ nests b ≤ 1 ∧ szs b = pre.length)
      sD all2_map ⟨fun _ _ _ h => h, [], [], _, _, _, rfl, hpr, .nil, trivial, Nat.zero_le _, rfl⟩ (fun _ _ _ h => h.1) ?_ ?_
    · rintro pre pl2 post v σ H4 epre rfl ⟨x4, xs, b, w4, w6, w7, rfl, hp4, hb, ho, hn, hz⟩
      have p60 : pl2 < 60 := hp _ (by rw [epre]; simp)
      have preL : pre.length ≤ 61 := by have := congrArg List.length epre; simp at this; omega
      have e04 : Same H H4 := SameX.same (e2.trans e3) (none_of e2 npr) x4
      have hA4 := same_l e04 hA
      obtain ⟨z1, z2⟩ := zz_len pl2 (List.mem_range.mpr p60)
      obtain ⟨n9, hn9⟩ : ∃ n9, ns[9]? = some n9 := ⟨_, List.getElem?_eq_getElem (by rw [hT.len]; decide)⟩
      have a9 : atI (ns.map V.str) 9 = some (.str n9) := atI_nat (j := 9) (by rw [List.getElem?_map, hn9] <;> rfl)
      have m9 : n9 ∈ ns := List.mem_of_getElem? hn9
      walk_at "gx"
      refine w_str (log_small (by omega) (by omega)) ?_
      walk_at "gx"
      refine w_ixL hA4 a9 ?_
      walk_at "gx"
      rename_i pb H5 npb e5 hpb
      have hp5 := e5 _ _ hp4
      obtain ⟨bf, hbf, okb⟩ : ∃ bf : Str, (∀ Q : VK, Q (.str bf) H5 → rIx K (.ref pb) (.int (if decide (((pl2 : Nat) : Int) = 0) = true then 1 else 0)) H5 Q) ∧ bf ∈ ns ++ zzs := by
        by_cases c : pl2 = 0
        · refine ⟨n9, fun Q q => ?_, List.mem_append_left _ m9⟩
          rw [decide_eq_true (by omega), if_pos rfl]
          exact w_ixL (SqL.of hpb) (atI_nat (j := 1) rfl) q
        · refine ⟨zzN (pl2 - 1), fun Q q => ?_, List.mem_append_right _ (List.mem_map.mpr ⟨pl2 - 1, List.mem_range.mpr (by omega), rfl⟩)⟩
          rw [decide_eq_false (by omega), if_neg (by decide)]
          refine w_ixL (SqL.of hpb) (atI_nat (j := 0) rfl) ?_
          have : ((pl2 : Nat) : Int) - 1 = ((pl2 - 1 : Nat) : Int) := by omega
          rw [this]
          exact q
      refine hbf _ ?_
      walk_at "gx"
      refine w_str (log_small (by omega) (by omega)) ?_
      walk_at "gx"
      rename_i t1 H6 nt1 e6 ht1 t2 H7 nt2 e7 ht2 t3 H8 nt3 e8 ht3 t4 H9 nt4 e9 ht4
      have e59 := e6.trans (e7.trans (e8.trans e9))
      have xl : xs.length ≤ 61 := by have := hb.len; have := szs_len b; omega
      refine w_app' (e59 _ _ hp5) (lt_line (by omega)) (fun H10 x10 t10 hp10 => ?_)
      have hf : FmAt K H9 (.ref t3) (.op .add (.nam bf) (.num 1)) := .op (s := .add) (SqT.of (e9 _ _ ht3)) (.nam (SqT.of ((e7.trans (e8.trans e9)) _ _ ht1))) (.num (SqT.of ((e8.trans e9) _ _ ht2)))
      have hrow : RwAt K (SqT K) H9 (.ref t4) (.set (zzN pl2) (.op .add (.nam bf) (.num 1))) := .set (SqT.of ht4) hf
      refine ⟨x4.trans ((SameX.of (e5.trans e59)).trans x10), xs ++ [.ref t4], b ++ [.set (zzN pl2) (.op .add (.nam bf) (.num 1))], _, _, _, rfl, hp10, ((hb.monoS (e5.trans e59)).app (BkAt.one hrow)).monoT t10, oks_app ho (show oks (ns ++ zzs) [.set (zzN pl2) (.op .add (.nam bf) (.num 1))] from ⟨⟨List.mem_append_right _ (List.mem_map.mpr ⟨pl2, List.mem_range.mpr p60, rfl⟩), ⟨⟨okb, by decide, by decide⟩, show 2 ≤ 12 from by decide⟩⟩, trivial⟩), ?_, ?_⟩
      · rw [nests_app]
        exact Nat.max_le.mpr ⟨hn, show max 1 0 ≤ 1 from by decide⟩
      · rw [szs_app, hz, List.length_append, List.length_singleton] <;> rfl
    · rintro σ H4 ⟨x4, xs, b, w4, w6, w7, rfl, hp4, hb, ho, hn, hz⟩
      walk_at "gx"
      exact q pr H4 xs b (SameX.same (e2.trans e3) (none_of e2 npr) x4) (none_of e2 npr) hp4 hb ho hn (by omega)
theorem zzs_nm : ∀ z ∈ zzs, Nm z := fun z hz => by
  obtain ⟨k, hk, rfl⟩ := List.mem_map.mp hz
  exact nm_iff.mp (zz_nm k hk)
def hasS (zs l : List Str) : Bool := l.any fun s => decide (s ∈ zs)
theorem hasS_iff {zs l : List Str} : hasS zs l = true ↔ ∃ s ∈ l, s ∈ zs := by
  unfold hasS
  rw [List.any_eq_true]
  exact ⟨fun ⟨s, h1, h2⟩ => ⟨s, h1, of_decide_eq_true h2⟩, fun ⟨s, h1, h2⟩ => ⟨s, h1, decide_eq_true h2⟩⟩
theorem hasS_congr {zs l m : List Str} (h : ∀ y, y ∈ l ↔ y ∈ m) : hasS zs l = hasS zs m := by
  rw [Bool.eq_iff_iff, hasS_iff, hasS_iff]
  exact ⟨fun ⟨s, h1, h2⟩ => ⟨s, (h s).mp h1, h2⟩, fun ⟨s, h1, h2⟩ => ⟨s, (h s).mpr h1, h2⟩⟩
def Rw.way (os : List Str) : Rw → Option (Str × Str)
  | .set x _ => if x ∈ os then some ("set", x) else none
  | .tell _ => some ("tell", "")
  | .whl _ _ => some ("turn", "")
  | _ => none
def leakF (os zs : List Str) (r : Rw) (f : Fm) (A : List Str) : Option (Str × Str × List Str) :=
  match (if hasS zs (f.names ++ A) = true then r.way os else none) with
  | some p => some (p.1, p.2, f.names ++ A)
  | none => if (f.divs && hasS zs (f.rights ++ A)) = true then some ("nought", "", f.rights ++ A) else none
def leakE (os zs : List Str) (e : Ent) : Option (Str × Str × List Str) :=
  match e.2.1.fm with
  | none => none
  | some f => leakF os zs e.2.1 f e.2.2
structure BestC (ch : Chs) (srcs : List Str) (s : Str) (c : Chn) : Prop where
  mem : s ∈ srcs
  at_ : (s, c) ∈ ch
  best : ∀ s' ∈ srcs, ∀ d, (s', d) ∈ ch → c.length ≤ d.length
theorem BestC.congr {ch : Chs} {l m : List Str} {s : Str} {c : Chn} (h : ∀ y, y ∈ l ↔ y ∈ m) (q : BestC ch l s c) : BestC ch m s c := ⟨(h s).mp q.mem, q.at_, fun s' hs => q.best s' ((h s').mpr hs)⟩
def sp_shortest (K : PySem.W.Frag) : Sp := fun vs H Q _ => ∃ (D l : Addr) (kvs : List (Key × V)) (ch : Chs) (srcs : List Str), vs = [.ref D, .ref l] ∧ H D = some (.dK kvs) ∧ KvAll K H kvs ch ∧ (Chs.keys ch).Nodup ∧ H l = some (.lst (srcs.map V.str)) ∧
  (hasS (Chs.keys ch) srcs = false → Q .non H) ∧ (hasS (Chs.keys ch) srcs = true → ∀ v s c, ChAt K H v c → BestC ch srcs s c → Q v H)
def LeakAt (K : PySem.W.Frag) (H H' : Hp) (ch : Chs) (k : Nat) (w x : Str) (srcs : List Str) (t : Addr) : Prop :=
  ∃ l us c s, SqT K H' t [.str w, .ref l] ∧ H l = none ∧ H' l = some (.lst us) ∧ All2 (PaAt K H') us (c ++ [(k, x)]) ∧ BestC ch srcs s c
def sp_leak_of (K : PySem.W.Frag) : Sp := fun vs H Q _ => ∃ (a D : Addr) (os ss ns : List Str) (b : List Rw) (kvs : List (Key × V)) (ch : Chs) (v : V) (e : Ent) (al : Addr) (xs : List Str), vs = [.ref a, .ref D, .int (e.1 : Nat), v, .ref al] ∧ PrAt K H a os ss b ∧
  H D = some (.dK kvs) ∧ KvAll K H kvs ch ∧ (Chs.keys ch).Nodup ∧ RwAt K (SqT K) H v e.2.1 ∧ H al = some (.lst (xs.map V.str)) ∧ (∀ y, y ∈ xs ↔ y ∈ e.2.2) ∧ e.2.1.ok ns ∧ (∀ y ∈ xs, y ∈ ns) ∧ ns.length ≤ 1000 ∧ xs.length ≤ 1000000 ∧ (∀ p ∈ ch, p.2.length ≤ 1000000) ∧
  (leakE os (Chs.keys ch) e = none → ∀ H', Same H H' → Q .non H') ∧ (∀ w x srcs, leakE os (Chs.keys ch) e = some (w, x, srcs) → ∀ t H', Same H H' → LeakAt K H H' ch e.1 w x srcs t → Q (.ref t) H')
noncomputable def sp_looked (K : PySem.W.Frag) : Sp := fun vs H Q _ => ∃ (a : Addr) (os ss ns : List Str) (b : List Rw), vs = [.ref a] ∧ PrAt K H a os ss b ∧ oks ns b ∧ ns.length ≤ 1000 ∧ nests b ≤ 8 ∧ szs b ≤ 1000 ∧ ss.Nodup ∧ ss.length ≤ 60 ∧ (∀ x ∈ ss ++ ns, Nm x) ∧
  ∀ ch, Ways ss (freeR os ss b) ch → (∀ x ∈ Chs.keys ch, x ∈ ss ++ ns) → ((∀ e ∈ entsB 1 [] b, leakE os (Chs.keys ch) e = none) → ∀ H', Same H H' → Q .non H') ∧
    ∀ pre e post w x srcs, entsB 1 [] b = pre ++ e :: post → (∀ e' ∈ pre, leakE os (Chs.keys ch) e' = none) → leakE os (Chs.keys ch) e = some (w, x, srcs) → ∀ t H', Same H H' → LeakAt K H H' ch e.1 w x srcs t → Q (.ref t) H'
abbrev N_shortest : List Str := ["chains", "sources", "best", "source"]
noncomputable def t_shortest (K : PySem.W.Frag) : TS :=
  (tSeq (tAsg (tC .non) (gName 2)) (tSeq (tFor (iSeq K (tVar 1)) (gName 3) (tIfS (tAnd (tTest (tOp (rDIn false) (tVar 3) (tVar 0))) (tOr (tTest (tOp (rIsN2 false) (tVar 2) (tC .non))) (tTest (tOp rLt (tCB (rLenA K) (tCons (tDGet (tVar 0) (tVar 3)) tNil)) (tCB (rLenA K) (tCons (tVar 2) tNil)))))) (tAsg (tDGet (tVar 0) (tVar 3)) (gName 2)) tNext)) (tRet (tVar 2))))
abbrev N_leak_of : List Str := ["program", "chains", "number", "row", "around", "chain"]
noncomputable def t_leak_of_j1 (K : PySem.W.Frag) : TS :=
  (tSeq (tIfS (tNot (tB (tF (sp_divides K 18) (tCons (tF (sp_formula_of K) (tCons (tVar 3) tNil)) tNil)))) (tRet (tC .non)) tNext) (tSeq (tAsg (tF (sp_shortest K) (tCons (tVar 1) (tCons (tOp (rAdd K) (tF (sp_right_names K) (tCons (tF (sp_formula_of K) (tCons (tVar 3) tNil)) tNil)) (tVar 4)) tNil))) (gName 5)) (tSeq (tIfS (tTest (tOp (rIsN2 false) (tVar 5) (tC .non))) (tRet (tC .non)) tNext) (tRet (tTup (tCons (tC (.str "nought")) (tCons (tOp (rAdd K) (tVar 5) (tLst (tCons (tTup (tCons (tVar 2) (tCons (tC (.str "")) tNil))) tNil))) tNil)))))))
noncomputable def t_leak_of_j2 (K : PySem.W.Frag) : TS :=
  (tSeq (tIfS (tAnd (tTest (tOp (rIsN2 true) (tVar 5) (tC .non))) (tTest (tOp (rEq2 K) (tOp (rIx K) (tVar 3) (tC (.int 0))) (tC (.str "while"))))) (tRet (tTup (tCons (tC (.str "turn")) (tCons (tOp (rAdd K) (tVar 5) (tLst (tCons (tTup (tCons (tVar 2) (tCons (tC (.str "")) tNil))) tNil))) tNil)))) tNext) (t_leak_of_j1 K))
noncomputable def t_leak_of_j3 (K : PySem.W.Frag) : TS :=
  (tSeq (tIfS (tAnd (tTest (tOp (rIsN2 true) (tVar 5) (tC .non))) (tTest (tOp (rEq2 K) (tOp (rIx K) (tVar 3) (tC (.int 0))) (tC (.str "tell"))))) (tRet (tTup (tCons (tC (.str "tell")) (tCons (tOp (rAdd K) (tVar 5) (tLst (tCons (tTup (tCons (tVar 2) (tCons (tC (.str "")) tNil))) tNil))) tNil)))) tNext) (t_leak_of_j2 K))
noncomputable def t_leak_of (K : PySem.W.Frag) : TS :=
  (tSeq (tIfS (tTest (tOp (rEq2 K) (tOp (rIx K) (tVar 3) (tC (.int 0))) (tC (.str "skip")))) (tRet (tC .non)) tNext) (tSeq (tAsg (tF (sp_shortest K) (tCons (tVar 1) (tCons (tF (sp_sources_of K) (tCons (tVar 3) (tCons (tVar 4) tNil))) tNil))) (gName 5)) (tSeq (tIfS (tAnd (tTest (tOp (rIsN2 true) (tVar 5) (tC .non))) (tAnd (tTest (tOp (rEq2 K) (tOp (rIx K) (tVar 3) (tC (.int 0))) (tC (.str "set")))) (tTest (tOp (rEq2 K) (tM K "Program" as_Program "kind" (sp_Program_kind K) (tVar 0) (tCons (tOp (rIx K) (tVar 3) (tC (.int 1))) tNil)) (tC (.str "open")))))) (tRet (tTup (tCons (tC (.str "set")) (tCons (tOp (rAdd K) (tVar 5) (tLst (tCons (tTup (tCons (tVar 2) (tCons (tOp (rIx K) (tVar 3) (tC (.int 1))) tNil))) tNil))) tNil)))) tNext) (t_leak_of_j3 K))))
abbrev N_looked : List Str := ["program", "chains", "number", "row", "around", "leak"]
noncomputable def t_looked (K : PySem.W.Frag) : TS :=
  (tSeq (tAsg (tF (sp_ways_to K) (tCons (tVar 0) tNil)) (gName 1)) (tSeq (tFor (iSeq K (tF (sp_rows_in K 9) (tCons (tM K "Program" as_Program "block" (sp_Program_block K) (tVar 0) tNil) (tCons (tC (.int 1)) (tCons (tLst tNil) tNil))))) (gTup K 3 (gCons (gName 2) (gCons (gName 3) (gCons (gName 4) gNil)))) (tSeq (tAsg (tF (sp_leak_of K) (tCons (tVar 0) (tCons (tVar 1) (tCons (tVar 2) (tCons (tVar 3) (tCons (tVar 4) tNil)))))) (gName 5)) (tIfS (tTest (tOp (rIsN2 true) (tVar 5) (tC .non))) (tRet (tVar 5)) tNext))) (tRet (tC .non))))
theorem ChAt.mono {K : PySem.W.Frag} {H H' : Hp} (e : Same H H') {v : V} {c : Chn} (h : ChAt K H v c) : ChAt K H' v c := h.go (SameP.of e)
theorem KvAll.mono {K : PySem.W.Frag} {H H' : Hp} (e : Same H H') {kvs : List (Key × V)} {ch : Chs} (h : KvAll K H kvs ch) : KvAll K H' kvs ch := h.go (SameP.of e)
theorem pure_shortest (K : PySem.W.Frag) (vs : List V) (H : Hp) (Q : VK) (E : XK) (h : sp_shortest K vs H Q E) :
    t_shortest K { nx := fun _ H' => Q .non H', rt := Q } (start N_shortest vs) H := by
  obtain ⟨D, l, kvs, ch, srcs, rfl, hD, hkv, nd, hl, q1, q2⟩ := h
  unfold t_shortest
  walk_at "gx"
  refine for_al (as := srcs) (P := fun v x => v = .str x) (fun pre σ H' => H' = H ∧ ∃ (bv : V) (w3 : Option V), σ = [some (.ref D), some (.ref l), some bv, w3] ∧
    ((bv = .non ∧ ∀ s ∈ pre, s ∉ Chs.keys ch) ∨ ∃ s c, ChAt K H bv c ∧ BestC ch pre s c)) (.inl (SqL.of hl)) all2_map ⟨rfl, .non, _, rfl, .inl ⟨rfl, fun s h => nomatch h⟩⟩ (fun pre σ H' h => by rw [h.1]; exact Same.refl _) ?_ ?_
  · rintro pre x post v σ H' - rfl ⟨rfl, bv, w3, rfl, hb⟩
    walk_at "gx"
    refine w_din hD ?_
    rw [hkv.has]
    walk_at "gx"
    refine w_two (fun c => ?_) (fun c => ?_)
    · have c := of_decide_eq_true c
      obtain ⟨d, hd⟩ := chGet_key c
      obtain ⟨v, hv, hch⟩ := hkv.at_ hd
      have hm := chGet_mem hd
      have hch' := hch
      obtain ⟨lv, us, rfl, hlv, hus, _⟩ := hch'
      have ul := hus.len
      rcases hb with ⟨rfl, hn⟩ | ⟨s, c', hc, hbest⟩
      · walk_at "gx"
        refine w_dgetAt hD hv ?_
        walk_at "gx"
        refine ⟨rfl, _, _, rfl, .inr ⟨x, d, hch, List.mem_append_right _ List.mem_cons_self, hm, fun s' hs' d' hd' => ?_⟩⟩
        rcases List.mem_append.mp hs' with h | h
        · exact absurd (key_of hd') (hn s' h)
        · rw [List.mem_singleton.mp h] at hd'
          rw [key_one nd hd' hm]
          exact Nat.le_refl _
      · have hc' := hc
        obtain ⟨lb, us', rfl, hlb, hus', _⟩ := hc'
        have ul' := hus'.len
        walk_at "gx"
        refine w_dgetAt hD hv ?_
        walk_at "gx"
        refine w_two (fun k => ?_) (fun k => ?_)
        · have k := of_decide_eq_true k
          walk_at "gx"
          refine w_dgetAt hD hv ?_
          walk_at "gx"
          refine ⟨rfl, _, _, rfl, .inr ⟨x, d, hch, List.mem_append_right _ List.mem_cons_self, hm, fun s' hs' d' hd' => ?_⟩⟩
          rcases List.mem_append.mp hs' with h | h
          · have := hbest.best s' h d' hd'
            omega
          · rw [List.mem_singleton.mp h] at hd'
            rw [key_one nd hd' hm]
            exact Nat.le_refl _
        · have k := of_decide_eq_false k
          walk_at "gx"
          refine ⟨rfl, _, _, rfl, .inr ⟨s, c', hc, List.mem_append_left _ hbest.mem, hbest.at_, fun s' hs' d' hd' => ?_⟩⟩
          rcases List.mem_append.mp hs' with h | h
          · exact hbest.best s' h d' hd'
          · rw [List.mem_singleton.mp h] at hd'
            rw [key_one nd hd' hm]
            omega
    · have c := of_decide_eq_false c
      walk_at "gx"
      refine ⟨rfl, _, _, rfl, ?_⟩
      rcases hb with ⟨rfl, hn⟩ | ⟨s, c', hc, hbest⟩
      · refine .inl ⟨rfl, fun s hs => ?_⟩
        rcases List.mem_append.mp hs with h | h
        · exact hn s h
        · rw [List.mem_singleton.mp h]; exact c
      · refine .inr ⟨s, c', hc, List.mem_append_left _ hbest.mem, hbest.at_, fun s' hs' d' hd' => ?_⟩
        rcases List.mem_append.mp hs' with h | h
        · exact hbest.best s' h d' hd'
        · rw [List.mem_singleton.mp h] at hd'
          exact absurd (key_of hd') c
  · rintro σ H' ⟨rfl, bv, w3, rfl, hb⟩
    walk_at "gx"
    rcases hb with ⟨rfl, hn⟩ | ⟨s, c, hc, hbest⟩
    · refine q1 ?_
      cases e : hasS (Chs.keys ch) srcs with
      | false => rfl
      | true =>
        obtain ⟨s, h1, h2⟩ := hasS_iff.mp e
        exact absurd h2 (hn s h1)
    · exact q2 (hasS_iff.mpr ⟨s, hbest.mem, key_of hbest.at_⟩) bv s c hc hbest
theorem open_kind {os ss : List Str} {x : Str} : decide (kindT os ss x = ("open" : Str)) = decide (x ∈ os) := by
  unfold kindT
  by_cases c : x ∈ os
  · rw [if_pos c, decide_eq_true c] <;> decide +kernel
  · rw [if_neg c, decide_eq_false c]
    by_cases d : x ∈ ss
    · rw [if_pos d]; decide +kernel
    · rw [if_neg d]; decide +kernel
theorem pure_leak_of (K : PySem.W.Frag) (vs : List V) (H : Hp) (Q : VK) (E : XK) (h : sp_leak_of K vs H Q E) :
    t_leak_of K { nx := fun _ H' => Q .non H', rt := Q } (start N_leak_of vs) H := by
  obtain ⟨a, D, os, ss, ns, b, kvs, ch, v, ⟨k, r, A⟩, al, xs, rfl, hP, hD, hkv, nd, hr, hal, hx, ho, hxn, nl, xl, cl, q1, q2⟩ := h
  obtain ⟨ar, ws, rfl, hs, _⟩ := hr.head
  have hx : ∀ y, y ∈ xs ↔ y ∈ A := hx
  -- the end of a leak
  have ret : ∀ (w x : Str) (tx : TE) (srcs : List Str) (H1 : Hp) (v : V) (c : Chn) (s : Str), Same H H1 → (∀ H2 Q, Same H H2 → Q (.str x) H2 → tx [some (.ref a), some (.ref D), some (.int (k : Nat)), some (.ref ar), some (.ref al), some v] H2 Q) → ChAt K H1 v c → BestC ch srcs s c →
      leakE os (Chs.keys ch) (k, r, A) = some (w, x, srcs) → (tRet (tTup (tCons (tC (.str w)) (tCons (tOp (rAdd K) (tVar 5) (tLst (tCons (tTup (tCons (tVar 2) (tCons tx tNil))) tNil))) tNil)))) { nx := fun _ H' => Q .non H', rt := Q } [some (.ref a), some (.ref D), some (.int (k : Nat)), some (.ref ar), some (.ref al), some v] H1 := by
    intro w x tx srcs H1 v c s e1 htx hc hb hL
    have hc' := hc
    obtain ⟨lv, us, rfl, hlv, hus, _⟩ := hc'
    walk_at "gx"
    refine htx _ _ e1 ?_
    walk_at "gx"
    rename_i p2 H2 n2 e2 hp2 p3 H3 n3 e3 hp3
    have ul := hus.len
    have cl' : c.length ≤ 1000000 := cl _ hb.at_
    refine w_addL' ((e2.trans e3) _ _ hlv) hp3 (sz (by rw [ul]; simp only [List.length_singleton]; omega)) (fun p4 H4 n4 e4 hp4 => ?_)
    walk_at "gx"
    rename_i p5 H5 n5 e5 hp5
    have e25 := e3.trans (e4.trans e5)
    have e15 := e2.trans e25
    refine q2 w x srcs hL p5 H5 (e1.trans e15) ⟨p4, _, c, s, SqT.of hp5, none_of (e1.trans (e2.trans e3)) n4, e5 _ _ hp4, (hus.imp fun _ _ h => h.monoT (SameT.of e15)).app (All2.one ⟨p2, rfl, SqT.of (e25 _ _ hp2)⟩), hb⟩
  -- behind the three
  have j1 : ∀ (f : Fm) (H1 : Hp) (w5 : V), r.fm = some f → Same H H1 → (hasS (Chs.keys ch) (f.names ++ A) = true → r.way os = none) → t_leak_of_j1 K { nx := fun _ H' => Q .non H', rt := Q } [some (.ref a), some (.ref D), some (.int (k : Nat)), some (.ref ar), some (.ref al), some w5] H1 := by
    intro f H1 w5 hf e1 hw
    have ff := fm_ok ho hf
    have lk : leakE os (Chs.keys ch) (k, r, A) = if (f.divs && hasS (Chs.keys ch) (f.rights ++ A)) = true then some (("nought" : Str), ("" : Str), f.rights ++ A) else none := by
      show (match r.fm with | none => none | some f => leakF os (Chs.keys ch) r f A) = _
      rw [hf]
      show leakF os (Chs.keys ch) r f A = _
      unfold leakF
      have : (if hasS (Chs.keys ch) (f.names ++ A) = true then r.way os else none) = none := by
        by_cases c : hasS (Chs.keys ch) (f.names ++ A) = true
        · rw [if_pos c, hw c]
        · rw [if_neg c]
      rw [this]
    have hr1 := hr.monoS e1
    unfold t_leak_of_j1
    walk_at "gx"
    refine ⟨_, r, rfl, hr1.toE, fun u hu => ?_⟩
    rw [hf] at hu
    walk_at "gx"
    refine ⟨u, f, rfl, hu, Nat.le_trans ff.2 (by decide), ?_⟩
    walk_at "gx"
    cases hd : f.divs with
    | false =>
      walk_at "gx"
      rw [hd, Bool.false_and, if_neg (by decide)] at lk
      exact q1 lk _ e1
    | true =>
      rw [hd, Bool.true_and] at lk
      walk_at "gx"
      refine ⟨_, r, rfl, hr1.toE, fun u hu => ?_⟩
      rw [hf] at hu
      walk_at "gx"
      refine ⟨u, f, ns, rfl, hu, ff.1, nl, Nat.le_trans ff.2 (by decide), fun p2 H2 ys s1 s2 s3 e2 n2 hp2 => ?_⟩
      walk_at "gx"
      have e02 := e1.trans e2
      have yl : ys.length ≤ 5000000 := by
        have := nodup_le s2 fun y hy => (s3 y).mp hy
        have := Fm.rights_small (f := f) (Nat.le_trans ff.2 (by decide))
        omega
      refine w_addL' hp2 (e02 _ _ hal) (sz (by rw [List.length_map, List.length_map]; omega)) (fun p3 H3 n3 e3 hp3 => ?_)
      rw [← List.map_append] at hp3
      have e03 := e02.trans e3
      have mem : ∀ y, y ∈ ys ++ xs ↔ y ∈ f.rights ++ A := fun y => by rw [List.mem_append, List.mem_append, s3 y, hx y]
      walk_at "gx"
      refine ⟨D, p3, kvs, ch, ys ++ xs, rfl, e03 _ _ hD, hkv.mono e03, nd, hp3, fun c => ?_, fun c v s cc hc hb => ?_⟩
      · rw [hasS_congr mem] at c
        rw [c, if_neg (by decide)] at lk
        walk_at "gx"
        exact q1 lk _ e03
      · rw [hasS_congr mem] at c
        rw [c, if_pos rfl] at lk
        have hc' := hc
        obtain ⟨lv, us, rfl, _, _, _⟩ := hc'
        walk_at "gxn"
        exact ret "nought" "" (tC (.str "")) _ H3 _ cc s e03 (fun H2 Q _ q => q) hc (hb.congr mem) lk
  unfold t_leak_of
  walk_at "gx"
  refine w_ixT hs at0 ?_
  walk_at "gx"
  rw [skip_is]
  cases hf : r.fm with
  | none =>
    cases r with
    | skip => walk_at "gx"; exact q1 rfl _ (Same.refl _)
    | set _ _ => exact nomatch hf
    | tell _ => exact nomatch hf
    | ite _ _ _ => exact nomatch hf
    | whl _ _ => exact nomatch hf
  | some f =>
    have ff := fm_ok ho hf
    refine w_no ?_ ?_
    · cases r <;> first | rfl | exact nomatch hf
    walk_at "gx"
    refine ⟨_, r, al, xs, ns, rfl, hr, hal, ho, hxn, nl, xl, fun p1 H1 e1 n1 hp1 is => ?_⟩
    have mem : ∀ y, y ∈ sortU (xs ++ fnames r.fm) ↔ y ∈ f.names ++ A := fun y => by
      rw [sortU_mem, hf, List.mem_append, List.mem_append, hx y]
      exact Or.comm
    generalize sortU (xs ++ fnames r.fm) = S at hp1 is mem
    have hs1 := same_t e1 hs
    have lk : leakE os (Chs.keys ch) (k, r, A) = leakF os (Chs.keys ch) r f A := by
      show (match r.fm with | none => none | some f => leakF os (Chs.keys ch) r f A) = _
      rw [hf]
    have lk1 : ∀ w x, hasS (Chs.keys ch) (f.names ++ A) = true → r.way os = some (w, x) → leakE os (Chs.keys ch) (k, r, A) = some (w, x, f.names ++ A) := fun w x c h => by
      rw [lk]
      unfold leakF
      rw [if_pos c, h]
    walk_at "gx"
    refine ⟨D, p1, kvs, ch, S, rfl, e1 _ _ hD, hkv.mono e1, nd, hp1, fun c => ?_, fun c v s cc hc hb => ?_⟩
    · rw [hasS_congr mem] at c
      walk_at "gx"
      unfold t_leak_of_j3
      walk_at "gx"
      unfold t_leak_of_j2
      walk_at "gx"
      exact j1 f H1 .non hf e1 (fun h => by rw [h] at c; exact nomatch c)
    · rw [hasS_congr mem] at c
      have hb := hb.congr mem
      have hc' := hc
      obtain ⟨lv, us, rfl, _, _, _⟩ := hc'
      walk_at "gx"
      refine w_ixT hs1 at0 ?_
      walk_at "gx"
      rw [set_is]
      cases r with
      | skip => exact nomatch hf
      | set x g =>
        cases hr with
        | set hrow hg =>
        clear hs hs1
        have hP1' := hP.mono e1
        have hrow1 := same_t e1 hrow
        obtain ⟨C, dx, o, hh, q0, ys0, hI⟩ := hP1'
        walk_at "gx"
        refine w_mAt hI.ha hI.cc rfl ?_
        walk_at "gx"
        refine ⟨a, os, ss, b, x, rfl, hP.mono e1, ?_⟩
        walk_at "gx"
        rw [open_kind]
        refine w_two (fun d => ?_) (fun d => ?_)
        · have d := of_decide_eq_true d
          refine ret "set" x _ _ H1 _ cc s e1 (fun H2 Q e2 q => ?_) hc hb (lk1 _ _ c (show (if x ∈ os then some (("set" : Str), x) else none) = _ from if_pos d))
          have hrow2 := same_t e2 hrow
          clear hrow hrow1
          walk_at "gx"
          exact q
        · have d := of_decide_eq_false d
          walk_at "gxn"
          refine w_next ?_
          show t_leak_of_j3 K _ _ _
          unfold t_leak_of_j3
          walk_at "gx"
          unfold t_leak_of_j2
          walk_at "gx"
          exact j1 f H1 _ hf e1 (fun _ => show (if x ∈ os then some (("set" : Str), x) else none) = none from if_neg d)
      | tell g =>
        walk_at "gx"
        unfold t_leak_of_j3
        walk_at "gx"
        refine w_ixT hs1 at0 ?_
        walk_at "gx"
        rw [tell_is]
        refine w_yes rfl ?_
        exact ret "tell" "" (tC (.str "")) _ H1 _ cc s e1 (fun H2 Q _ q => q) hc hb (lk1 _ _ c rfl)
      | whl g bb =>
        walk_at "gx"
        unfold t_leak_of_j3
        walk_at "gx"
        refine w_ixT hs1 at0 ?_
        walk_at "gx"
        rw [tell_is]
        walk_at "gx"
        unfold t_leak_of_j2
        walk_at "gx"
        refine w_ixT hs1 at0 ?_
        walk_at "gx"
        rw [while_is]
        refine w_yes rfl ?_
        exact ret "turn" "" (tC (.str "")) _ H1 _ cc s e1 (fun H2 Q _ q => q) hc hb (lk1 _ _ c rfl)
      | ite g aa bb =>
        walk_at "gx"
        unfold t_leak_of_j3
        walk_at "gx"
        refine w_ixT hs1 at0 ?_
        walk_at "gx"
        rw [tell_is]
        walk_at "gx"
        unfold t_leak_of_j2
        walk_at "gx"
        refine w_ixT hs1 at0 ?_
        walk_at "gx"
        rw [while_is]
        walk_at "gx"
        exact j1 f H1 _ hf e1 (fun _ => rfl)
theorem ways_key {ss : List Str} {rs : List Flo} {ch : Chs} (W : Ways ss rs ch) : ∀ n x c, c.length ≤ n → (x, c) ∈ ch → ∀ (i : Nat) p, c[i]? = some p → (p.2, c.take (i + 1)) ∈ ch := by
  intro n
  induction n with
  | zero =>
    intro x c hn _ i p hp
    have : c = [] := List.length_eq_zero_iff.mp (by omega)
    rw [this] at hp
    exact nomatch hp
  | succ n ih =>
    intro x c hn h i p hp
    rcases W.each x c h with ⟨_, rfl⟩ | ⟨f, _, d, hd, rfl, rfl⟩
    · cases i with
      | zero =>
        have e : p = (0, x) := (Option.some.inj hp).symm
        rw [e]
        exact h
      | succ i => exact nomatch hp
    · rw [List.length_append, List.length_singleton] at hn
      rcases Nat.lt_or_ge i d.length with lt | ge
      · rw [List.getElem?_append_left lt] at hp
        rw [List.take_append_of_le_length (by omega)]
        exact ih _ d (by omega) hd i p hp
      · rw [List.getElem?_append_right ge] at hp
        have hi : i - d.length = 0 := by
          have := (List.getElem?_eq_some_iff.mp hp).1
          simp only [List.length_singleton] at this
          omega
        rw [hi] at hp
        have e : p = (f.1, f.2.2) := (Option.some.inj hp).symm
        rw [e, List.take_of_length_le (by rw [List.length_append, List.length_singleton]; omega)]
        exact h
theorem ways_nd {ss : List Str} {rs : List Flo} {ch : Chs} (W : Ways ss rs ch) {x : Str} {c : Chn} (h : (x, c) ∈ ch) : (c.map (·.2)).Nodup := by
  unfold List.Nodup
  rw [List.pairwise_iff_getElem]
  intro i j hi hj hij e
  rw [List.length_map] at hi hj
  rw [List.getElem_map, List.getElem_map] at e
  have k1 := ways_key W _ x c (Nat.le_refl _) h i _ (List.getElem?_eq_getElem (by omega))
  have k2 := ways_key W _ x c (Nat.le_refl _) h j _ (List.getElem?_eq_getElem hj)
  rw [e] at k1
  have := congrArg List.length (key_one W.nd k1 k2)
  rw [List.length_take, List.length_take] at this
  omega
theorem ways_len {ss ns : List Str} {rs : List Flo} {ch : Chs} (W : Ways ss rs ch) (hs : ∀ x ∈ Chs.keys ch, x ∈ ss ++ ns) : ∀ p ∈ ch, p.2.length ≤ ss.length + ns.length := by
  rintro ⟨x, c⟩ h
  have sub : ∀ y ∈ c.map (·.2), y ∈ ss ++ ns := fun y hy => by
    obtain ⟨p, hp, rfl⟩ := List.mem_map.mp hy
    obtain ⟨i, hi⟩ := List.getElem?_of_mem hp
    exact hs _ (key_of (ways_key W _ x c (Nat.le_refl _) h i p hi))
  have := nodup_le (ways_nd W h) sub
  rw [List.length_map, List.length_append] at this
  exact this
theorem pure_looked (K : PySem.W.Frag) (vs : List V) (H : Hp) (Q : VK) (E : XK) (h : sp_looked K vs H Q E) :
    t_looked K { nx := fun _ H' => Q .non H', rt := Q } (start N_looked vs) H := by
  obtain ⟨a, os, ss, ns, b, rfl, hP, ho, nl, hn, hz, nd, sl, hN, q⟩ := h
  unfold t_looked
  walk_at "gx"
  refine ⟨a, os, ss, ns, b, rfl, hP, ho, nl, hn, hz, nd, sl, hN, fun D H1 kvs ch e1 hD hD1 hkv W cN => ?_⟩
  obtain ⟨q1, q2⟩ := q ch W cN
  have cl := ways_len W cN
  have hP1 := hP.mono e1
  have hP1' := hP1
  obtain ⟨C, dx, o, hh, q', ys0, hI⟩ := hP1'
  walk_at "gx"
  refine w_mAt hI.ha hI.cc rfl ?_
  walk_at "gx"
  refine ⟨a, os, ss, b, rfl, hP1, fun q0 ys hq hys => ?_⟩
  walk_at "gx"
  rename_i p2 H2 n2 e2 hp2
  have EO := entsB_ok (ns := ns) (m := 8) 1 [] (A0 := []) (fun _ h => nomatch h) b ho hn
  refine ⟨q0, ys, b, 1, p2, [], [], ns, rfl, same_t e2 hq, hys.monoS e2, ho, nl, by omega, hn, by omega, hp2, fun _ => Iff.rfl, by simp only [List.length_nil]; omega, fun p3 H3 us e3 n3 hp3 hE => ?_⟩
  have e13 := e2.trans e3
  have e03 := e1.trans e13
  refine for_al (as := entsB 1 [] b) (P := EntP K H3 p3) (fun pre σ H' => Same H3 H' ∧ (∀ e ∈ pre, leakE os (Chs.keys ch) e = none) ∧ ∃ w2 w3 w4 w5 : Option V, σ = [some (.ref a), some (.ref D), w2, w3, w4, w5]) (.inl (SqL.of hp3)) hE
    ⟨Same.refl _, (fun e h => nomatch h), _, _, _, _, rfl⟩ (fun _ _ _ h => h.1) ?_ ?_
  · rintro pre en post v σ H4 hes ⟨t, vr, al, xs, rfl, ht, hr, hal, nal, hxs, xl⟩ ⟨e4, hpre, w2, w3, w4, w5, rfl⟩
    have ht4 := same_t e4 ht
    have eo := EO en (by rw [hes]; simp)
    have e04 := e03.trans e4
    have mk : (∀ e ∈ pre, leakE os (Chs.keys ch) e = none) → leakE os (Chs.keys ch) en = none → ∀ e ∈ pre ++ [en], leakE os (Chs.keys ch) e = none := fun h1 h2 e he => (List.mem_append.mp he).elim (h1 e) fun h => by rw [List.mem_singleton.mp h]; exact h2
    walk_at "gx"
    refine ⟨a, D, os, ss, ns, b, kvs, ch, vr, en, al, xs, rfl, hP.mono e04, (e13.trans e4) _ _ hD1, hkv.mono (e13.trans e4), W.nd, hr.monoS e4, e4 _ _ hal, hxs, eo.ok, fun y hy => (eo.sub y ((hxs y).mp hy)).resolve_left List.not_mem_nil, nl, xl, fun p hp => Nat.le_trans (cl p hp) (by omega), fun hl H5 e5 => ?_, fun w x srcs hl t5 H5 e5 hL => ?_⟩
    · walk_at "gx"
      exact ⟨e4.trans e5, mk hpre hl, _, _, _, _, rfl⟩
    · walk_at "gx"
      obtain ⟨l, us', c, s, h1, h2, h3, h4, h5⟩ := hL
      exact q2 pre en post w x srcs hes hpre hl t5 H5 (e04.trans e5) ⟨l, us', c, s, h1, none_of e04 h2, h3, h4, h5⟩
  · rintro σ H4 ⟨e4, hpre, w2, w3, w4, w5, rfl⟩
    walk_at "gx"
    exact q1 hpre H4 (e03.trans e4)
theorem Fm.nmOf_len (r : Bool) : ∀ f : Fm, (f.namesOf r).length ≤ f.names.length
  | .num _ => Nat.le_refl _
  | .nam x => by cases r with
    | true => exact Nat.le_refl 1
    | false => exact Nat.zero_le 1
  | .op s a b => by
    show (a.namesOf r ++ b.namesOf (r || decide (s = .div))).length ≤ (a.names ++ b.names).length
    rw [List.length_append, List.length_append]
    exact Nat.add_le_add (a.nmOf_len r) (b.nmOf_len _)
theorem Fm.nmOf_sub (y : Str) (r : Bool) (f : Fm) (h : y ∈ f.namesOf r) : y ∈ f.names := by
  cases r with
  | true => rw [f.namesOf_true] at h; exact h
  | false => exact f.rights_names y ((f.namesOf_false y).mp h)
def sp_law_divisors (K : PySem.W.Frag) (n : Nat) : Sp := fun vs H Q _ => ∃ (v : V) (f : Fm) (r : Bool), vs = [v, .bl r] ∧ FmAt K H v f ∧ f.depth ≤ n ∧ f.depth ≤ 18 ∧ ∀ p H', Same H H' → H p = none → H' p = some (.lst ((f.namesOf r).map V.str)) → Q (.ref p) H'
def sp_law_has_division (K : PySem.W.Frag) (n : Nat) : Sp := fun vs H Q _ => ∃ (v : V) (f : Fm), vs = [v] ∧ FmAt K H v f ∧ f.depth ≤ n ∧ Q (.bl f.divs) H
abbrev Lk := Str × Str × List Str
def wayC (os : List Str) (r : Rw) (S : List Str) : List Lk := match r.way os with
  | some p => [(p.1, p.2, S)]
  | none => []
def divC (b : Bool) (T : List Str) : List Lk := if b = true then [(("nought" : Str), ("" : Str), T)] else []
theorem wayC_len (os : List Str) (r : Rw) (S : List Str) : (wayC os r S).length ≤ 1 := by
  unfold wayC
  split <;> simp
theorem divC_len (b : Bool) (T : List Str) : (divC b T).length ≤ 1 := by
  unfold divC
  split <;> simp
theorem wayC_mem {os : List Str} {r : Rw} {S : List Str} {l : Lk} (h : l ∈ wayC os r S) : l.2.2 = S := by
  unfold wayC at h
  cases hw : r.way os with
  | none => rw [hw] at h; exact nomatch h
  | some w => rw [hw] at h; rw [List.mem_singleton.mp h]
theorem divC_mem {b : Bool} {T : List Str} {l : Lk} (h : l ∈ divC b T) : l.2.2 = T := by
  unfold divC at h
  cases b with
  | false => exact nomatch h
  | true => rw [List.mem_singleton.mp h]
def secs (zs l : List Str) : List Str := l.filter fun x => decide (x ∈ zs)
def candL (os zs : List Str) (r : Rw) (A : List Str) : List Lk := wayC os r (secs zs ((fmOr r.fm).names ++ A)) ++ divC (fmOr r.fm).divs (secs zs ((fmOr r.fm).namesOf false ++ A))
def leaksL (os zs : List Str) (r : Rw) (A : List Str) : List Lk := match r with
  | .skip => []
  | r => (candL os zs r A).filter fun l => !decide (l.2.2 = [])
theorem fil_has {zs l : List Str} : (!decide (secs zs l = [])) = hasS zs l := by
  unfold secs
  rw [Bool.eq_iff_iff, hasS_iff]
  constructor
  · intro h
    have h : l.filter (fun x => decide (x ∈ zs)) ≠ [] := fun e => by rw [e] at h; exact nomatch h
    obtain ⟨y, hy⟩ := List.exists_mem_of_ne_nil _ h
    obtain ⟨h1, h2⟩ := List.mem_filter.mp hy
    exact ⟨y, h1, of_decide_eq_true h2⟩
  · rintro ⟨s, h1, h2⟩
    have : l.filter (fun x => decide (x ∈ zs)) ≠ [] := fun e => by
      have : s ∈ l.filter (fun x => decide (x ∈ zs)) := List.mem_filter.mpr ⟨h1, decide_eq_true h2⟩
      rw [e] at this
      exact nomatch this
    rw [decide_eq_false this] <;> rfl
/-- the first of the law's list is how the row leaks -/
theorem leaks_head {os zs ks : List Str} (hk : ∀ z, z ∈ zs ↔ z ∈ ks) (e : Ent) :
    (leakE os ks e = none → leaksL os zs e.2.1 e.2.2 = []) ∧ ∀ w x srcs, leakE os ks e = some (w, x, srcs) → ∃ m t, leaksL os zs e.2.1 e.2.2 = (w, x, m) :: t ∧ ∀ y, y ∈ m ↔ y ∈ srcs ∧ y ∈ ks := by
  obtain ⟨k, r, A⟩ := e
  have hz : ∀ l, hasS zs l = hasS ks l := fun l => by
    rw [Bool.eq_iff_iff, hasS_iff, hasS_iff]
    exact ⟨fun ⟨s, h1, h2⟩ => ⟨s, h1, (hk s).mp h2⟩, fun ⟨s, h1, h2⟩ => ⟨s, h1, (hk s).mpr h2⟩⟩
  have main : ∀ f, r.fm = some f → r ≠ .skip → (leakF os ks r f A = none → (candL os zs r A).filter (fun l => !decide (l.2.2 = [])) = []) ∧ ∀ w x srcs, leakF os ks r f A = some (w, x, srcs) → ∃ m t, (candL os zs r A).filter (fun l => !decide (l.2.2 = [])) = (w, x, m) :: t ∧ ∀ y, y ∈ m ↔ y ∈ srcs ∧ y ∈ ks := by
    intro f hf _
    have fo : fmOr r.fm = f := by rw [hf] <;> rfl
    have fil : ∀ (l : List Str) y, y ∈ secs zs l ↔ y ∈ l ∧ y ∈ ks := fun l y => by unfold secs; rw [List.mem_filter, decide_eq_true_iff, hk y]
    have dm : ∀ y, y ∈ f.namesOf false ++ A ↔ y ∈ f.rights ++ A := fun y => by rw [List.mem_append, List.mem_append, Fm.namesOf_false]
    unfold leakF candL wayC
    rw [fo]
    -- the last part of both
    have last : ((if (f.divs && hasS ks (f.rights ++ A)) = true then some (("nought" : Str), ("" : Str), f.rights ++ A) else none) = none → (divC f.divs (secs zs (f.namesOf false ++ A))).filter (fun l : Lk => !decide (l.2.2 = [])) = []) ∧
        ∀ w x srcs, (if (f.divs && hasS ks (f.rights ++ A)) = true then some (("nought" : Str), ("" : Str), f.rights ++ A) else none) = some (w, x, srcs) → ∃ m t, (divC f.divs (secs zs (f.namesOf false ++ A))).filter (fun l : Lk => !decide (l.2.2 = [])) = (w, x, m) :: t ∧ ∀ y, y ∈ m ↔ y ∈ srcs ∧ y ∈ ks := by
      cases hd : f.divs with
      | false =>
        rw [Bool.false_and, if_neg (by decide)]
        exact ⟨fun _ => rfl, fun w x srcs h => nomatch h⟩
      | true =>
        rw [Bool.true_and]
        have hh : hasS zs (f.namesOf false ++ A) = hasS ks (f.rights ++ A) := (hasS_congr dm).trans (hz _)
        cases hs : hasS ks (f.rights ++ A) with
        | false =>
          rw [if_neg (by decide)]
          refine ⟨fun _ => ?_, fun w x srcs h => nomatch h⟩
          show List.filter _ [_] = _
          rw [List.filter_cons_of_neg (by rw [fil_has, hh, hs]; decide)] <;> rfl
        | true =>
          rw [if_pos rfl]
          refine ⟨(fun h => nomatch h), fun w x srcs h => ?_⟩
          obtain ⟨rfl, h2⟩ := Prod.mk.inj (Option.some.inj h)
          obtain ⟨rfl, rfl⟩ := Prod.mk.inj h2
          refine ⟨_, [], by show List.filter _ [_] = _; rw [List.filter_cons_of_pos (by rw [fil_has, hh, hs])] <;> rfl, fun y => ?_⟩
          rw [fil, dm y]
    cases hw : r.way os with
    | none =>
      have : (if hasS ks (f.names ++ A) = true then (none : Option (Str × Str)) else none) = none := by split <;> rfl
      rw [this]
      exact last
    | some p =>
      cases hs : hasS ks (f.names ++ A) with
      | true =>
        rw [if_pos rfl]
        refine ⟨(fun h => nomatch h), fun w x srcs h => ?_⟩
        obtain ⟨rfl, h2⟩ := Prod.mk.inj (Option.some.inj h)
        obtain ⟨rfl, rfl⟩ := Prod.mk.inj h2
        refine ⟨_, _, by rw [List.filter_append, List.filter_cons_of_pos (by rw [fil_has, hz, hs])] <;> rfl, fun y => fil _ y⟩
      | false =>
        rw [if_neg (by decide)]
        have : ([(p.1, p.2, secs zs (f.names ++ A))] : List Lk).filter (fun l => !decide (l.2.2 = [])) = [] := by
          rw [List.filter_cons_of_neg (by rw [fil_has, hz, hs]; decide)] <;> rfl
        show (_ → List.filter _ ([_] ++ _) = _) ∧ ∀ w x srcs, _ → ∃ m t, List.filter _ ([_] ++ _) = _ ∧ _
        rw [List.filter_append, this, List.nil_append]
        exact last
  cases r with
  | skip => exact ⟨fun _ => rfl, fun w x srcs h => nomatch h⟩
  | set x f => exact main f rfl (fun h => nomatch h)
  | tell f => exact main f rfl (fun h => nomatch h)
  | ite f a b => exact main f rfl (fun h => nomatch h)
  | whl f a => exact main f rfl (fun h => nomatch h)
def LkAt (K : PySem.W.Frag) (H : Hp) (v : V) (l : Lk) : Prop := ∃ t p, v = .ref t ∧ SqT K H t [.str l.1, .str l.2.1, .ref p] ∧ H p = some (.lst (l.2.2.map V.str))
theorem LkAt.mono {K : PySem.W.Frag} {H H' : Hp} (e : Same H H') {v : V} {l : Lk} (h : LkAt K H v l) : LkAt K H' v l := by
  obtain ⟨t, p, h1, h2, h3⟩ := h
  exact ⟨t, p, h1, same_t e h2, e _ _ h3⟩
def sp_law_leaks (K : PySem.W.Frag) : Sp := fun vs H Q _ => ∃ (p x y al q : Addr) (v : V) (os zs ns A : List Str) (r : Rw), vs = [.ref p, v, .ref al, .ref q] ∧ H p = some (.lst [.ref x, .ref y]) ∧ H x = some (.lst (os.map V.str)) ∧ RwAt K (SqT K) H v r ∧ H al = some (.lst (A.map V.str)) ∧ H q = some (.lst (zs.map V.str)) ∧
  r.ok ns ∧ (∀ y ∈ A, y ∈ ns) ∧ (∀ y ∈ ns, Nm y) ∧ A.length ≤ 1000000 ∧ ∀ (D : Addr) (H' : Hp) (us : List V), Same H H' → H D = none → H' D = some (.lst us) → All2 (LkAt K H') us (leaksL os zs r A) → (∀ l ∈ leaksL os zs r A, ∀ y ∈ l.2.2, y ∈ ns) → Q (.ref D) H'
def sp_law_first (K : PySem.W.Frag) : Sp := fun vs H Q _ => ∃ (p x y r q : Addr) (os zs ns : List Str) (us : List V) (es : List Ent), vs = [.ref p, .ref r, .ref q] ∧ H p = some (.lst [.ref x, .ref y]) ∧ H x = some (.lst (os.map V.str)) ∧ H q = some (.lst (zs.map V.str)) ∧
  H r = some (.lst us) ∧ All2 (EntL K H r) us es ∧ (∀ e ∈ es, EntOk ns [] 8 e) ∧ (∀ z ∈ ns, Nm z) ∧
  ((∀ e ∈ es, leaksL os zs e.2.1 e.2.2 = []) → ∀ H', Same H H' → Q .non H') ∧
  ∀ pre e post w x m tl, es = pre ++ e :: post → (∀ e' ∈ pre, leaksL os zs e'.2.1 e'.2.2 = []) → leaksL os zs e.2.1 e.2.2 = (w, x, m) :: tl → ∀ t lp H', Same H H' → SqT K H' t [.int ((pre.length : Nat) + 1), .str w, .str x, .ref lp] → H' lp = some (.lst (m.map V.str)) → (∀ y ∈ m, y ∈ ns) → Q (.ref t) H'
abbrev N_law_divisors : List Str := ["_law_formula_here", "_law_right_here"]
noncomputable def t_law_divisors_j1 (K : PySem.W.Frag) (n : Nat) : TS :=
  (tSeq (tIfS (tTest (tOp (rEq2 K) (tOp (rIx K) (tVar 0) (tC (.int 0))) (tC (.str "name")))) (tRet (tLst (tCons (tOp (rIx K) (tVar 0) (tC (.int 1))) tNil))) tNext) (tRet (tOp (rAdd K) (tF (sp_law_divisors K n) (tCons (tOp (rIx K) (tVar 0) (tC (.int 1))) (tCons (tVar 1) tNil))) (tF (sp_law_divisors K n) (tCons (tOp (rIx K) (tVar 0) (tC (.int 2))) (tCons (tOrV (tVar 1) (tOp (rEq2 K) (tOp (rIx K) (tVar 0) (tC (.int 0))) (tC (.str "/")))) tNil))))))
noncomputable def t_law_divisors (K : PySem.W.Frag) (n : Nat) : TS :=
  (tSeq (tIfS (tOr (tTest (tOp (rEq2 K) (tOp (rIx K) (tVar 0) (tC (.int 0))) (tC (.str "number")))) (tAnd (tTest (tOp (rEq2 K) (tOp (rIx K) (tVar 0) (tC (.int 0))) (tC (.str "name")))) (tNot (tB (tVar 1))))) (tRet (tLst tNil)) tNext) (t_law_divisors_j1 K n))
abbrev N_law_has_division : List Str := ["_law_formula_here"]
noncomputable def t_law_has_division (K : PySem.W.Frag) (n : Nat) : TS :=
  (tSeq (tIfS (tTest (tOp (rEq2 K) (tCB (rLenA K) (tCons (tVar 0) tNil)) (tC (.int 2)))) (tRet (tC (.bl false))) tNext) (tRet (tOrV (tOp (rEq2 K) (tOp (rIx K) (tVar 0) (tC (.int 0))) (tC (.str "/"))) (tOrV (tF (sp_law_has_division K n) (tCons (tOp (rIx K) (tVar 0) (tC (.int 1))) tNil)) (tF (sp_law_has_division K n) (tCons (tOp (rIx K) (tVar 0) (tC (.int 2))) tNil))))))
abbrev N_law_leaks : List Str := ["_law_pairs", "_law_row", "_law_around", "_law_secret_here", "_law_formula_here", "_law_found", "_law_sources", "_law_name", "_law_right_here", "_law_one"]
noncomputable def t_law_leaks_j1 (K : PySem.W.Frag) : TS :=
  (tSeq (tIfS (tTest (tOp (rEq2 K) (tOp (rIx K) (tVar 1) (tC (.int 0))) (tC (.str "skip")))) (tRet (tLst tNil)) tNext) (tRet (tLc (iSeq K (tVar 5)) (gName 9) (tTest (tOp (rNe2 K) (tOp (rIx K) (tVar 9) (tC (.int 2))) (tLst tNil))) (tVar 9) [9])))
noncomputable def t_law_leaks_j2 (K : PySem.W.Frag) : TS :=
  (tSeq (tIfS (tB (tF (sp_law_has_division K 18) (tCons (tVar 4) tNil))) (tSeq (tAsg (tLc (iSeq K (tOp (rAdd K) (tF (sp_law_divisors K 18) (tCons (tVar 4) (tCons (tC (.bl false)) tNil))) (tVar 2))) (gName 7) (tTest (tOp (rIn2 K false) (tVar 7) (tVar 3))) (tVar 7) [7]) (gName 8)) (tDrop (tBM K "list" rAppend (tVar 5) (tCons (tTup (tCons (tC (.str "nought")) (tCons (tC (.str "")) (tCons (tVar 8) tNil)))) tNil)))) tNext) (t_law_leaks_j1 K))
noncomputable def t_law_leaks_j3 (K : PySem.W.Frag) : TS :=
  (tSeq (tIfS (tTest (tOp (rEq2 K) (tOp (rIx K) (tVar 1) (tC (.int 0))) (tC (.str "while")))) (tDrop (tBM K "list" rAppend (tVar 5) (tCons (tTup (tCons (tC (.str "turn")) (tCons (tC (.str "")) (tCons (tVar 6) tNil)))) tNil))) tNext) (t_law_leaks_j2 K))
noncomputable def t_law_leaks_j4 (K : PySem.W.Frag) : TS :=
  (tSeq (tIfS (tTest (tOp (rEq2 K) (tOp (rIx K) (tVar 1) (tC (.int 0))) (tC (.str "tell")))) (tDrop (tBM K "list" rAppend (tVar 5) (tCons (tTup (tCons (tC (.str "tell")) (tCons (tC (.str "")) (tCons (tVar 6) tNil)))) tNil))) tNext) (t_law_leaks_j3 K))
noncomputable def t_law_leaks (K : PySem.W.Frag) : TS :=
  (tSeq (tAsg (tF (sp_law_formula K) (tCons (tVar 1) tNil)) (gName 4)) (tSeq (tAsg (tLst tNil) (gName 5)) (tSeq (tAsg (tLc (iSeq K (tOp (rAdd K) (tF (sp_law_all_names K 18) (tCons (tVar 4) tNil)) (tVar 2))) (gName 7) (tTest (tOp (rIn2 K false) (tVar 7) (tVar 3))) (tVar 7) [7]) (gName 6)) (tSeq (tIfS (tAnd (tTest (tOp (rEq2 K) (tOp (rIx K) (tVar 1) (tC (.int 0))) (tC (.str "set")))) (tTest (tOp (rIn2 K false) (tOp (rIx K) (tVar 1) (tC (.int 1))) (tOp (rIx K) (tVar 0) (tC (.int 0)))))) (tDrop (tBM K "list" rAppend (tVar 5) (tCons (tTup (tCons (tC (.str "set")) (tCons (tOp (rIx K) (tVar 1) (tC (.int 1))) (tCons (tVar 6) tNil)))) tNil))) tNext) (t_law_leaks_j4 K)))))
abbrev N_law_first : List Str := ["_law_pairs", "_law_rows", "_law_secret_here", "_law_k", "_law_one", "_law_found"]
noncomputable def t_law_first (K : PySem.W.Frag) : TS :=
  (tSeq (tFor (iEnum K (tCons (tVar 1) tNil)) (gTup K 2 (gCons (gName 3) (gCons (gName 4) gNil))) (tSeq (tAsg (tF (sp_law_leaks K) (tCons (tVar 0) (tCons (tOp (rIx K) (tVar 4) (tC (.int 0))) (tCons (tOp (rIx K) (tVar 4) (tC (.int 1))) (tCons (tVar 2) tNil))))) (gName 5)) (tIfS (tTest (tOp (rNe2 K) (tVar 5) (tLst tNil))) (tRet (tOp (rAdd K) (tTup (tCons (tOp (rAdd K) (tVar 3) (tC (.int 1))) tNil)) (tOp (rIx K) (tVar 5) (tC (.int 0))))) tNext))) (tRet (tC .non)))
theorem pure_law_divisors (K : PySem.W.Frag) (n : Nat) (vs : List V) (H : Hp) (Q : VK) (E : XK) (h : sp_law_divisors K (n + 1) vs H Q E) :
    t_law_divisors K n { nx := fun _ H' => Q .non H', rt := Q } (start N_law_divisors vs) H := by
  obtain ⟨v, f, r, rfl, hf, hd, hn, q⟩ := h
  unfold t_law_divisors
  cases hf with
  | num h =>
    walk_at "gx"
    rename_i p H' n e hp
    exact q _ _ e n hp
  | nam h =>
    cases r with
    | true =>
      walk_at "gx"
      unfold t_law_divisors_j1
      walk_at "gx"
      rename_i p H' n e hp
      exact q _ _ e n hp
    | false =>
      walk_at "gx"
      rename_i p H' n e hp
      exact q _ _ e n hp
  | @op a s u v f g h h1 h2 =>
    have e1 := sg_num s
    have e2 := sg_nam s
    have l1 : f.depth ≤ n := by simp only [Fm.depth] at hd; omega
    have l2 : g.depth ≤ n := by simp only [Fm.depth] at hd; omega
    have k1 : f.depth ≤ 18 := by simp only [Fm.depth] at hn; omega
    have k2 : g.depth ≤ 18 := by simp only [Fm.depth] at hn; omega
    have y1 := Nat.le_trans (f.nmOf_len r) (Fm.names_small18 k1)
    have y2 : ∀ b, (g.namesOf b).length ≤ 262144 := fun b => Nat.le_trans (g.nmOf_len b) (Fm.names_small18 k2)
    have last : ∀ b, b = (r || decide (s = .div)) → ∀ p H1, Same H H1 → H1 p = some (.lst ((f.namesOf r).map V.str)) → sp_law_divisors K n [v, .bl b] H1 (fun y H2 => rAdd K (.ref p) y H2 Q) E0 := by
      rintro b rfl p H1 e hp1
      refine ⟨_, g, _, rfl, h2.mono e, l2, k2, fun p2 H2 e' hp2 hp3 => ?_⟩
      have y3 := y2 (r || decide (s = .div))
      refine w_addL' (e' p _ hp1) hp3 (sz (by rw [List.length_map, List.length_map]; omega)) fun p4 H4 n4 e4 hp4 => ?_
      exact q _ _ ((e.trans e').trans e4) (none_of (e.trans e') n4) (by rw [hp4, ← List.map_append] <;> rfl)
    walk_at "gx"
    unfold t_law_divisors_j1
    walk_at "gx"
    refine ⟨_, f, _, rfl, h1, l1, k1, fun p H1 e hp hp1 => ?_⟩
    cases r with
    | true =>
      walk_at "gx"
      exact last _ rfl p H1 e hp1
    | false =>
      walk_at "gx"
      rw [sg_div]
      exact last _ rfl p H1 e hp1
theorem no_law_divisors {K : PySem.W.Frag} : ∀ vs H Q E, ¬ sp_law_divisors K 0 vs H Q E := by
  rintro vs H Q E ⟨v, f, _, _, _, h, _⟩
  have := f.depth_pos
  omega
theorem pure_law_has_division (K : PySem.W.Frag) (n : Nat) (vs : List V) (H : Hp) (Q : VK) (E : XK) (h : sp_law_has_division K (n + 1) vs H Q E) :
    t_law_has_division K n { nx := fun _ H' => Q .non H', rt := Q } (start N_law_has_division vs) H := by
  obtain ⟨v, f, rfl, hf, hd, q⟩ := h
  unfold t_law_has_division
  cases hf with
  | num h =>
    walk_at "go"
    exact q
  | nam h =>
    walk_at "go"
    exact q
  | @op a s u v f g h h1 h2 =>
    have l1 : f.depth ≤ n := by simp only [Fm.depth] at hd; omega
    have l2 : g.depth ≤ n := by simp only [Fm.depth] at hd; omega
    walk_at "go"
    refine w_no (show decide (((3 : Nat) : Int) = 2) = false from rfl) ?_
    walk_at "go"
    rw [sg_div]
    refine w_two (fun c => ?_) (fun c => ?_)
    · rw [Fm.divs, c, Bool.true_or] at q
      exact q
    · rw [Fm.divs, c, Bool.false_or] at q
      walk_at "go"
      refine ⟨_, f, rfl, h1, l1, ?_⟩
      walk_at "go"
      refine w_two (fun c2 => ?_) (fun c2 => ?_)
      · rw [c2, Bool.true_or] at q
        exact q
      · rw [c2, Bool.false_or] at q
        walk_at "go"
        exact ⟨_, g, rfl, h2, l2, q⟩
theorem no_law_has_division {K : PySem.W.Frag} : ∀ vs H Q E, ¬ sp_law_has_division K 0 vs H Q E := by
  rintro vs H Q E ⟨v, f, _, _, h, _⟩
  have := f.depth_pos
  omega
theorem fm_monoT {K : PySem.W.Frag} {H H' : Hp} (e : SameT H H') {v : V} {f : Fm} (h : FmAt K H v f) : FmAt K H' v f := by
  induction h with
  | num h => exact .num (sameT_t e h)
  | nam h => exact .nam (sameT_t e h)
  | op h _ _ i1 i2 => exact .op (sameT_t e h) i1 i2
theorem pure_law_leaks (K : PySem.W.Frag) (vs : List V) (H : Hp) (Q : VK) (E : XK) (h : sp_law_leaks K vs H Q E) :
    t_law_leaks K { nx := fun _ H' => Q .non H', rt := Q } (start N_law_leaks vs) H := by
  obtain ⟨p, x, y, al, q0, v, os, zs, ns, A, r, rfl, hp, hx, hr, hal, hq, ho, hA, hN, Al, q⟩ := h
  have gf := fmOr_ok ho
  obtain ⟨ar, ws, rfl, hs, _⟩ := hr.head
  unfold t_law_leaks
  walk_at "gx"
  refine ⟨_, r, rfl, hr, fun u H1 e1 hu => ?_⟩
  generalize hg : fmOr r.fm = g at *
  have gl := Fm.names_small18 (Nat.le_trans gf.2 (by decide : 12 ≤ 18))
  have inN : ∀ y ∈ g.names ++ A, y ∈ ns := fun y hy => (List.mem_append.mp hy).elim (Fm.ok_names gf.1 y) (hA y)
  walk_at "gx"
  rename_i p5 H2 n2 e2 hp5
  refine w_lc ?_
  walk_at "gx"
  refine ⟨_, g, rfl, hu.mono e2, Nat.le_trans gf.2 (by decide), Nat.le_trans gf.2 (by decide), fun p6 H3 e3 n3 hp6 => ?_⟩
  walk_at "gx"
  refine w_addL' hp6 ((e1.trans (e2.trans e3)) _ _ hal) (sz (by rw [List.length_map, List.length_map]; omega)) (fun p7 H4 n4 e4 hp7 => ?_)
  rw [← List.map_append] at hp7
  have e14 := e2.trans (e3.trans e4)
  have e04 := e1.trans e14
  -- some of a list by the secret ones
  have fil : ∀ (l : List Str) (pl : Addr) (H5 : Hp) (σ : L2.St) (Qd : Addr → Hp → Prop), Same H H5 → H5 pl = some (.lst (l.map V.str)) → l.length ≤ 16000000 → σ[3]? = some (some (.ref q0)) → σ.length = 10 →
      (∀ D H6, Same H5 H6 → H5 D = none → H6 D = some (.lst ((secs zs l).map V.str)) → Qd D H6) →
      ∃ b, V.ref pl = .ref b ∧ (((∃ xs, SqL K H5 b xs) ∧ ∀ D, H5 D = none → ∃ W : Nat → Nat → Hp → Prop, (∃ m, W 0 m (upd H5 D (.lst []))) ∧ ∀ i m H, W i m H →
      ((Itl K b).stop i H ∧ Qd D H) ∨ ((Itl K b).go i H ∧ ∃ Nx : Hp → Prop, (∀ H', Nx H' → ∃ m', m' < m ∧ W (i + 1) m' H') ∧ ∀ x H', (Itl K b).yld i H x H' → gName 7 x (wipe σ [7]) H' fun σ2 H2 => wipe σ2 [7] = wipe σ [7] ∧ (tTest (tOp (rIn2 K false) (tVar 7) (tVar 3))) σ2 H2 fun b H3 =>
        if b = true then (tVar 7) σ2 H3 fun y H4 => ∃ acc, H4 D = some (.lst acc) ∧ acc.length < sizeLine ∧ Nx (upd H4 D (.lst (acc ++ [y]))) else Nx H3)) ∨
      ((∃ xs, SqT K H5 b xs) ∧ ∀ D, H5 D = none → ∃ W : Nat → Nat → Hp → Prop, (∃ m, W 0 m (upd H5 D (.lst []))) ∧ ∀ i m H, W i m H →
      ((Itt K b).stop i H ∧ Qd D H) ∨ ((Itt K b).go i H ∧ ∃ Nx : Hp → Prop, (∀ H', Nx H' → ∃ m', m' < m ∧ W (i + 1) m' H') ∧ ∀ x H', (Itt K b).yld i H x H' → gName 7 x (wipe σ [7]) H' fun σ2 H2 => wipe σ2 [7] = wipe σ [7] ∧ (tTest (tOp (rIn2 K false) (tVar 7) (tVar 3))) σ2 H2 fun b H3 =>
        if b = true then (tVar 7) σ2 H3 fun y H4 => ∃ acc, H4 D = some (.lst acc) ∧ acc.length < sizeLine ∧ Nx (upd H4 D (.lst (acc ++ [y]))) else Nx H3))) := by
    intro l pl H5 σ Qd e5 hpl ll s3 s10 k
    match σ, s10 with
    | [a0, a1, a2, a3, a4, a5, a6, a7, a8, a9], _ =>
    obtain rfl : a3 = some (.ref q0) := Option.some.inj s3
    refine lc_fil (as := l) (P := fun v x => v = .str x) (fun x => decide (x ∈ zs)) (fun _ v x => v = .str x) (.inl (SqL.of hpl)) all2_map ll (fun _ _ _ _ _ h => h) ?_ ?_
    · rintro D v z H6 Nx hz rfl e6 ⟨_, _⟩ yes no
      refine w_gN ⟨rfl, ?_⟩
      walk_at "gx"
      refine w_inTxt (SqL.of ((e5.trans e6) _ _ hq)) ?_
      walk_at "gx"
      refine w_two (fun c => ?_) (fun c => ?_)
      · walk_at "gx"
        exact yes c _ _ (Same.refl _) rfl
      · exact no c _ (Same.refl _)
    · intro D H6 ys e6 nD hD hA
      rw [all2_txt hA] at hD
      have hD : H6 D = some (.lst ((secs zs l).map V.str)) := hD
      exact k D H6 e6 nD hD
  refine fil _ p7 H4 _ _ e04 hp7 (by rw [List.length_append]; omega) rfl rfl (fun p8 H5 e5 n5 hp8 => ?_)
  generalize hS : secs zs (g.names ++ A) = S at hp8
  have e25 := e3.trans (e4.trans e5)
  have e05 := e04.trans e5
  have hp55 := e25 _ _ hp5
  have p50 : H p5 = none := none_of e1 n2
  have p58 : p5 ≠ p8 := ne_of_none ((e3.trans e4) _ _ hp5) n5
  have hu5 := hu.mono (e2.trans e25)
  clear hp6 hp7 hu hp5
  -- behind all: the empty ones go
  have j1 : ∀ (H6 : Hp) (us : List V) (w7 w8 w9 : Option V), Same H H6 → H6 p5 = some (.lst us) → All2 (LkAt K H6) us (candL os zs r A) → t_law_leaks_j1 K { nx := fun _ H' => Q .non H', rt := Q } [some (.ref p), some (.ref ar), some (.ref al), some (.ref q0), some u, some (.ref p5), some (.ref p8), w7, w8, w9] H6 := by
    intro H6 us w7 w8 w9 e6 hus hL
    have hs6 := same_t e6 hs
    unfold t_law_leaks_j1
    walk_at "gx"
    refine w_ixT hs6 at0 ?_
    walk_at "gx"
    rw [skip_is]
    refine w_two (fun hsk => ?_) (fun hsk => ?_)
    · have : r = .skip := by cases r <;> first | rfl | exact nomatch hsk
      subst this
      walk_at "gx"
      rename_i p9 H7 n7 e7 hp9
      exact q p9 H7 [] (e6.trans e7) (none_of e6 n7) hp9 .nil (fun l hl => nomatch hl)
    · have lk : leaksL os zs r A = (candL os zs r A).filter fun l => !decide (l.2.2 = []) := by cases r <;> first | rfl | exact nomatch hsk
      have cN : ∀ l ∈ candL os zs r A, ∀ y ∈ l.2.2, y ∈ ns := by
        intro l hl y hy
        unfold candL at hl
        rw [hg] at hl
        rcases List.mem_append.mp hl with hl | hl
        · rw [wayC_mem hl] at hy
          exact inN y (List.mem_filter.mp hy).1
        · rw [divC_mem hl] at hy
          exact (List.mem_append.mp (List.mem_filter.mp hy).1).elim (fun h => Fm.ok_names gf.1 y (Fm.nmOf_sub y _ g h)) (hA y)
      have cl : (candL os zs r A).length ≤ 2 := by
        unfold candL
        rw [List.length_append]
        have a1 := wayC_len os r (secs zs ((fmOr r.fm).names ++ A))
        have a2 := divC_len (fmOr r.fm).divs (secs zs ((fmOr r.fm).namesOf false ++ A))
        omega
      walk_at "gx"
      refine w_lc ?_
      walk_at "gx"
      refine lc_fil (as := candL os zs r A) (P := LkAt K H6) (fun l => !decide (l.2.2 = [])) (fun H v l => ∃ t pp, v = .ref t ∧ SqT K H t [.str l.1, .str l.2.1, .ref pp] ∧ H6 pp = some (.lst (l.2.2.map V.str))) (.inl (SqL.of hus)) hL (by omega) (fun H1 H2 v l e ⟨t, pp, h1, h2, h3⟩ => ⟨t, pp, h1, sameT_t e h2, h3⟩) ?_ ?_
      · rintro D v l H7 Nx hl ⟨t, pp, rfl, ht, hpp⟩ e7 ⟨_, _⟩ yes no
        have ht7 := same_t e7 ht
        refine ⟨rfl, ?_⟩
        walk_at "gx"
        rename_i p9 H8 n8 e8 hp9
        refine w_neTxt (xs := l.2.2) (ys := []) (SqL.of ((e7.trans e8) _ _ hpp)) (SqL.of hp9) (fun x hx => ok_txt (hN x (cN l hl x hx))) (fun x hx => nomatch hx) ?_
        walk_at "gx"
        refine w_two (fun c => ?_) (fun c => ?_)
        · walk_at "gx"
          exact yes c _ _ e8 ⟨t, pp, rfl, same_t e8 ht7, hpp⟩
        · exact no c _ e8
      · intro D H7 ys e7 nD hD hA
        walk_at "gx"
        rw [lk] at q
        refine q D H7 ys (e6.trans e7) (none_of e6 nD) hD (hA.imp fun v l ⟨t, pp, h1, h2, h3⟩ => ⟨t, pp, h1, h2, e7 _ _ h3⟩) fun l hl => cN l (List.mem_filter.mp hl).1
  -- the division
  have j2 : ∀ (H6 : Hp) (us : List V) (w7 w8 w9 : Option V), Same H H6 → H6 p5 = some (.lst us) → All2 (fun v l => ∃ t, v = .ref t ∧ SqT K H6 t [.str l.1, .str l.2.1, .ref p8] ∧ l.2.2 = S) us (wayC os r S) → H6 p8 = some (.lst (S.map V.str)) → FmAt K H6 u g → t_law_leaks_j2 K { nx := fun _ H' => Q .non H', rt := Q } [some (.ref p), some (.ref ar), some (.ref al), some (.ref q0), some u, some (.ref p5), some (.ref p8), w7, w8, w9] H6 := by
    intro H6 us w7 w8 w9 e6 hus hL hp86 hu6
    have ul := hL.len
    have ul1 : us.length ≤ 1 := by rw [ul]; exact wayC_len _ _ _
    unfold t_law_leaks_j2
    walk_at "gx"
    refine ⟨u, g, rfl, hu6, Nat.le_trans gf.2 (by decide), ?_⟩
    walk_at "gx"
    cases hd : g.divs with
    | false =>
      walk_at "gx"
      refine j1 H6 us _ _ _ e6 hus ?_
      unfold candL
      rw [hg, hd, hS, show divC false _ = [] from rfl, List.append_nil]
      exact hL.imp fun v l ⟨t, h1, h2, h3⟩ => ⟨t, p8, h1, h2, by rw [h3]; exact hp86⟩
    | true =>
      walk_at "gx"
      refine w_lc ?_
      walk_at "gx"
      refine ⟨u, g, false, rfl, hu6, Nat.le_trans gf.2 (by decide), Nat.le_trans gf.2 (by decide), fun p9 H7 e7 n7 hp9 => ?_⟩
      have gl2 := Nat.le_trans (g.nmOf_len false) gl
      walk_at "gx"
      refine w_addL' hp9 ((e6.trans e7) _ _ hal) (sz (by rw [List.length_map, List.length_map]; omega)) (fun p10 H8 n8 e8 hp10 => ?_)
      rw [← List.map_append] at hp10
      have e68 := e7.trans e8
      refine fil _ p10 H8 _ _ (e6.trans e68) hp10 (by rw [List.length_append]; omega) rfl rfl (fun p11 H9 e9 n9 hp11 => ?_)
      walk_at "gx"
      rename_i p12 H10 n10 e10 hp12
      have e610 := e68.trans (e9.trans e10)
      refine w_app' (e610 _ _ hus) (lt_line (by omega)) (fun H11 x11 t11 hp511 => ?_)
      have n511 : p11 ≠ p5 := (ne_of_none (e68 _ _ hus) n9).symm
      have f11 := x11 _ _ n511 (e10 _ _ hp11)
      have cand : candL os zs r A = wayC os r S ++ [(("nought" : Str), ("" : Str), secs zs (g.namesOf false ++ A))] := by
        unfold candL
        rw [hg, hd, hS] <;> rfl
      refine j1 H11 _ _ _ _ (same_mutX (e6.trans e610) p50 x11) hp511 ?_
      rw [cand]
      refine All2.app ?_ (All2.one ⟨p12, p11, rfl, sameT_t t11 (SqT.of hp12), f11⟩)
      refine All2.imp (R := fun v l => ∃ t, v = .ref t ∧ SqT K H6 t [.str l.1, .str l.2.1, .ref p8] ∧ l.2.2 = S) (fun v l ⟨t, h1, h2, h3⟩ => ⟨t, p8, h1, sameT_t t11 (same_t e610 h2), ?_⟩) hL
      rw [h3]
      exact x11 _ _ (Ne.symm p58) (e610 _ _ hp86)
  have fin1 : ∀ (H6 H7 : Hp) (t : Addr) (w z : Str), Same H5 H6 → H6 t = some (.tup [.str w, .str z, .ref p8]) → SameX p5 H6 H7 → SameT H6 H7 → H7 p5 = some (.lst [.ref t]) → r.way os = some (w, z) → t_law_leaks_j2 K { nx := fun _ H' => Q .non H', rt := Q } [some (.ref p), some (.ref ar), some (.ref al), some (.ref q0), some u, some (.ref p5), some (.ref p8), none, none, none] H7 := by
    intro H6 H7 t w z e6 ht x7 t7 h7 hw
    refine j2 H7 _ _ _ _ (same_mutX (e05.trans e6) p50 x7) h7 ?_ (x7 _ _ (Ne.symm p58) (e6 _ _ hp8)) ?_
    · unfold wayC
      rw [hw]
      exact All2.one ⟨t, rfl, sameT_t t7 (SqT.of ht), rfl⟩
    · have := hu5.mono e6
      exact fm_monoT t7 this
  have fin0 : r.way os = none → t_law_leaks_j2 K { nx := fun _ H' => Q .non H', rt := Q } [some (.ref p), some (.ref ar), some (.ref al), some (.ref q0), some u, some (.ref p5), some (.ref p8), none, none, none] H5 := by
    intro hw
    refine j2 H5 _ _ _ _ e05 hp55 ?_ hp8 hu5
    unfold wayC
    rw [hw]
    exact .nil
  have hs5 := same_t e05 hs
  have hp_5 := e05 _ _ hp
  have hx5 := e05 _ _ hx
  clear hs
  walk_at "gx"
  refine w_ixT hs5 at0 ?_
  walk_at "gx"
  rw [set_is]
  cases r with
  | set z f =>
    cases hr with
    | set hrow hf =>
    have hrow5 := same_t e05 hrow
    clear hrow
    walk_at "gx"
    try (refine w_ixT hrow5 (atI_nat (j := 1) rfl) ?_)
    walk_at "gx"
    refine w_inTxt (SqL.of hx5) ?_
    walk_at "gx"
    refine w_two (fun c => ?_) (fun c => ?_)
    · have c := of_decide_eq_true c
      walk_at "gx"
      try (refine w_ixT hrow5 (atI_nat (j := 1) rfl) ?_)
      walk_at "gx"
      rename_i t H6 n6 e6 ht
      refine w_app' (e6 _ _ hp55) (by decide) (fun H7 x7 t7 hp57 => ?_)
      have hs7 := sameT_t t7 (same_t e6 hs5)
      walk_at "gx"
      unfold t_law_leaks_j4
      walk_at "gx"
      try (refine w_ixT hs7 at0 ?_)
      walk_at "gx"
      try rw [tell_is]
      walk_at "gx"
      unfold t_law_leaks_j3
      walk_at "gx"
      try (refine w_ixT hs7 at0 ?_)
      walk_at "gx"
      try rw [while_is]
      walk_at "gx"
      exact fin1 H6 H7 t _ z e6 ht x7 t7 hp57 (show (if z ∈ os then some (("set" : Str), z) else none) = _ from if_pos c)
    · have c := of_decide_eq_false c
      walk_at "gx"
      unfold t_law_leaks_j4
      walk_at "gx"
      try (refine w_ixT hs5 at0 ?_)
      walk_at "gx"
      try rw [tell_is]
      walk_at "gx"
      unfold t_law_leaks_j3
      walk_at "gx"
      try (refine w_ixT hs5 at0 ?_)
      walk_at "gx"
      try rw [while_is]
      walk_at "gx"
      exact fin0 (show (if z ∈ os then some (("set" : Str), z) else none) = none from if_neg c)
  | tell f =>
    walk_at "gx"
    unfold t_law_leaks_j4
    walk_at "gx"
    try (refine w_ixT hs5 at0 ?_)
    walk_at "gx"
    try rw [tell_is]
    refine w_yes rfl ?_
    walk_at "gx"
    rename_i t H6 n6 e6 ht
    refine w_app' (e6 _ _ hp55) (by decide) (fun H7 x7 t7 hp57 => ?_)
    have hs7 := sameT_t t7 (same_t e6 hs5)
    walk_at "gx"
    unfold t_law_leaks_j3
    walk_at "gx"
    try (refine w_ixT hs7 at0 ?_)
    walk_at "gx"
    try rw [while_is]
    walk_at "gx"
    exact fin1 H6 H7 t _ _ e6 ht x7 t7 hp57 rfl
  | skip =>
    walk_at "gx"
    unfold t_law_leaks_j4
    walk_at "gx"
    try (refine w_ixT hs5 at0 ?_)
    walk_at "gx"
    try rw [tell_is]
    walk_at "gx"
    unfold t_law_leaks_j3
    walk_at "gx"
    try (refine w_ixT hs5 at0 ?_)
    walk_at "gx"
    try rw [while_is]
    walk_at "gx"
    exact fin0 rfl
  | ite f b1 b2 =>
    walk_at "gx"
    unfold t_law_leaks_j4
    walk_at "gx"
    try (refine w_ixT hs5 at0 ?_)
    walk_at "gx"
    try rw [tell_is]
    walk_at "gx"
    unfold t_law_leaks_j3
    walk_at "gx"
    try (refine w_ixT hs5 at0 ?_)
    walk_at "gx"
    try rw [while_is]
    walk_at "gx"
    exact fin0 rfl
  | whl f b1 =>
    walk_at "gx"
    unfold t_law_leaks_j4
    walk_at "gx"
    try (refine w_ixT hs5 at0 ?_)
    walk_at "gx"
    try rw [tell_is]
    walk_at "gx"
    unfold t_law_leaks_j3
    walk_at "gx"
    try (refine w_ixT hs5 at0 ?_)
    walk_at "gx"
    try rw [while_is]
    refine w_yes rfl ?_
    walk_at "gx"
    rename_i t H6 n6 e6 ht
    refine w_app' (e6 _ _ hp55) (by decide) (fun H7 x7 t7 hp57 => ?_)
    walk_at "gx"
    exact fin1 H6 H7 t _ _ e6 ht x7 t7 hp57 rfl
def Lk.pd (l : Lk) : PyData := .tuple [.str l.1, .str l.2.1, .list (l.2.2.map PyData.str)]
theorem dp_strs {K : PySem.W.Frag} {H : Hp} : ∀ {xs : List Str}, DpAll K H (xs.map V.str) (xs.map PyData.str)
  | [] => .nil
  | _ :: _ => .cons (.str _) dp_strs
theorem lk_dps {K : PySem.W.Frag} {H : Hp} : ∀ {vs : List V} {ls : List Lk}, All2 (LkAt K H) vs ls → DpAll K H vs (ls.map Lk.pd)
  | _, _, .nil => .nil
  | _, _, .cons h t => by
    obtain ⟨a, p, rfl, h, hp⟩ := h
    exact .cons (.tup h (.cons (.str _) (.cons (.str _) (.cons (.lst (SqL.of hp) dp_strs) .nil)))) (lk_dps t)
theorem lk_dk {ls : List Lk} (h : ∀ l ∈ ls, PyData.strOk l.1 = true ∧ PyData.strOk l.2.1 = true ∧ ∀ y ∈ l.2.2, Nm y) : ∀ d ∈ ls.map Lk.pd, Dk d 2 :=
  dk_map fun l hl => Dk.tup (dk_cons (Dk.str (h l hl).1) (dk_cons (Dk.str (h l hl).2.1) (dk_cons (dk_txts (k := 0) fun y hy => ok_txt ((h l hl).2.2 y hy)) dk_nil)))
theorem leaks_str {os zs ns : List Str} {r : Rw} {A : List Str} (ho : r.ok ns) (hN : ∀ y ∈ ns, Nm y) : ∀ l ∈ leaksL os zs r A, PyData.strOk l.1 = true ∧ PyData.strOk l.2.1 = true := by
  have e0 : PyData.strOk ("" : Str) = true := by decide +kernel
  have eT : PyData.strOk ("turn" : Str) = true := by decide +kernel
  have eN : PyData.strOk ("nought" : Str) = true := by decide +kernel
  have main : ∀ l ∈ candL os zs r A, PyData.strOk l.1 = true ∧ PyData.strOk l.2.1 = true := by
    intro l hl
    rcases List.mem_append.mp hl with hl | hl
    · unfold wayC at hl
      cases r with
      | set x f =>
        by_cases c : x ∈ os
        · rw [show (Rw.set x f).way os = some (("set" : Str), x) from if_pos c] at hl
          rw [List.mem_singleton.mp hl]
          exact ⟨set_ok, ok_txt (hN x ho.1)⟩
        · rw [show (Rw.set x f).way os = none from if_neg c] at hl
          exact nomatch hl
      | tell f => rw [List.mem_singleton.mp hl]; exact ⟨tell_ok, e0⟩
      | skip => exact nomatch hl
      | ite f a b => exact nomatch hl
      | whl f a => rw [List.mem_singleton.mp hl]; exact ⟨eT, e0⟩
    · unfold divC at hl
      split at hl
      · rw [List.mem_singleton.mp hl]; exact ⟨eN, e0⟩
      · exact nomatch hl
  intro l hl
  cases r with
  | skip => exact nomatch hl
  | set x f => exact main l (List.mem_filter.mp hl).1
  | tell f => exact main l (List.mem_filter.mp hl).1
  | ite f a b => exact main l (List.mem_filter.mp hl).1
  | whl f a => exact main l (List.mem_filter.mp hl).1
theorem pure_law_first (K : PySem.W.Frag) (vs : List V) (H : Hp) (Q : VK) (E : XK) (h : sp_law_first K vs H Q E) :
    t_law_first K { nx := fun _ H' => Q .non H', rt := Q } (start N_law_first vs) H := by
  obtain ⟨p, x, y, r, q0, os, zs, ns, us, es, rfl, hp, hx, hq, hr, hE, hok, hN, q1, q2⟩ := h
  unfold t_law_first
  walk_at "gx"
  refine ⟨r, us, rfl, SqL.of hr, for_enum (xs := us) (fun i σ H' => Same H H' ∧ (∀ e ∈ es.take i, leaksL os zs e.2.1 e.2.2 = []) ∧ ∃ w3 w4 w5 : Option V, σ = [some (.ref p), some (.ref r), some (.ref q0), w3, w4, w5])
    ⟨Same.refl _, (fun e h => nomatch h), _, _, _, rfl⟩ (fun i σ H' _ h => SqL.of (h.1 _ _ hr)) ?_ ?_⟩
  · rintro i v σ H5 T hv hT0 ⟨e5, hpre, w3, w4, w5, rfl⟩
    obtain ⟨en, e1, e2, t, vr, al, rfl, ht, hrw, hal, nal, xl⟩ := hE.split hv
    have eT := same_new (o := .tup [.int (i : Nat), .ref t]) hT0
    have hT := SqT.of (K := K) (upd_same (H := H5) (a := T) (o := .tup [.int (i : Nat), .ref t]))
    have eo := hok en (by rw [e1]; simp)
    have il : i < es.length := by have := (List.getElem?_eq_some_iff.mp hv).1; rw [hE.len] at this; exact this
    refine w_gTup hT rfl ?_
    generalize upd H5 T (.tup [.int (i : Nat), .ref t]) = H6 at eT hT
    have e06 := e5.trans eT
    have ht6 := same_t e06 ht
    walk_at "gx"
    refine ⟨p, x, y, al, q0, vr, os, zs, ns, en.2.2, en.2.1, rfl, e06 _ _ hp, e06 _ _ hx, hrw.monoS e06, e06 _ _ hal, e06 _ _ hq, eo.ok, fun y hy => (eo.sub y hy).resolve_left List.not_mem_nil, hN, xl, fun D H7 ls e7 nD hD hL lN => ?_⟩
    walk_at "gx"
    rename_i p8 H8 n8 e8 hp8
    have e08 := e06.trans (e7.trans e8)
    cases hl : leaksL os zs en.2.1 en.2.2 with
    | nil =>
      rw [hl] at hL
      cases hL
      refine w_neTxt (xs := []) (ys := []) (SqL.of (e8 _ _ hD)) (SqL.of hp8) (fun x hx => nomatch hx) (fun x hx => nomatch hx) ?_
      walk_at "gx"
      refine ⟨e08, ?_, _, _, _, rfl⟩
      rw [e2]
      intro e he
      rcases List.mem_append.mp he with h | h
      · exact hpre e h
      · rw [List.mem_singleton.mp h]; exact hl
    | cons l tl =>
      obtain ⟨w, z, m⟩ := l
      have lS := leaks_str (os := os) (zs := zs) (A := en.2.2) eo.ok hN
      rw [hl] at hL lN lS
      have dL := lk_dk fun l h => ⟨(lS l h).1, (lS l h).2, fun y hy => hN y (lN l h y hy)⟩
      have pL := lk_dps (hL.imp fun _ _ h => h.mono e8)
      cases hL with
      | @cons v1 _ vs1 _ h1 ht1 =>
      obtain ⟨t1, p1, rfl, ht1', hp1⟩ := h1
      refine w_neD (.lst (SqL.of (e8 _ _ hD)) pL) (.lst (SqL.of hp8) .nil) ((Dk.list dL).shaped (by decide)) ((Dk.list (k := 0) dk_nil).shaped (by decide)) ?_
      refine w_bl (w_yes rfl ?_)
      walk_at "gx"
      rename_i p9 H9 n9 e9 hp9
      refine w_ixL (SqL.of ((e8.trans e9) _ _ hD)) at0 ?_
      refine w_addTup (SqT.of hp9) (same_t (e8.trans e9) ht1') (by simp) (by simp) (by simp; decide) (fun p10 n10 => ?_)
      refine q2 (es.take i) en (es.drop (i + 1)) w z m tl e1 hpre hl p10 p1 _ (e08.trans (e9.trans (same_new n10))) ?_ ((e8.trans (e9.trans (same_new n10))) _ _ hp1) (fun y hy => lN _ List.mem_cons_self y hy)
      rw [List.length_take, Nat.min_eq_left (by omega)]
      exact SqT.of upd_same
  · rintro σ H5 ⟨e5, hpre, w3, w4, w5, rfl⟩
    rw [hE.len, List.take_length] at hpre
    walk_at "gx"
    exact q1 hpre H5 e5
def sp_law_whole (K : PySem.W.Frag) : Sp := fun vs H Q _ => ∃ i : Int, vs = [.int i] ∧ Q (.bl true) H
structure ChainOk (ss : List Str) (rs : List Flo) (x : Str) (c : Chn) : Prop where
  pos : 1 ≤ c.length
  first : ∃ s, c[0]? = some (0, s) ∧ s ∈ ss
  link : ∀ i p q, c[i]? = some p → c[i + 1]? = some q → (q.1, p.2, q.2) ∈ rs
  last : ∃ p, c[c.length - 1]? = some p ∧ p.2 = x
theorem ways_chain {ss : List Str} {rs : List Flo} {ch : Chs} (W : Ways ss rs ch) : ∀ n x c, c.length ≤ n → (x, c) ∈ ch → ChainOk ss rs x c := by
  intro n
  induction n with
  | zero =>
    intro x c hn h
    have e : c = [] := List.length_eq_zero_iff.mp (by omega)
    subst e
    rcases W.each x [] h with ⟨_, h⟩ | ⟨f, _, d, _, _, h⟩
    · exact nomatch h
    · have := congrArg List.length h
      simp at this
  | succ n ih =>
    intro x c hn h
    rcases W.each x c h with ⟨hs, rfl⟩ | ⟨f, hf, d, hd, rfl, rfl⟩
    · exact ⟨Nat.le_refl _, ⟨x, rfl, hs⟩, fun i p q hp hq => (nomatch hq), ⟨(0, x), rfl, rfl⟩⟩
    · rw [List.length_append, List.length_singleton] at hn
      obtain ⟨h1, ⟨s, h2, h3⟩, h4, p, h5, h6⟩ := ih _ d (by omega) hd
      refine ⟨by rw [List.length_append, List.length_singleton]; omega, ⟨s, by rw [List.getElem?_append_left (by omega)]; exact h2, h3⟩, fun i p' q hp hq => ?_, ⟨(f.1, f.2.2), by rw [List.length_append, List.length_singleton, Nat.add_sub_cancel, List.getElem?_append_right (Nat.le_refl _), Nat.sub_self] <;> rfl, rfl⟩⟩
      rcases Nat.lt_or_ge (i + 1) d.length with lt | ge
      · rw [List.getElem?_append_left lt] at hq
        rw [List.getElem?_append_left (by omega)] at hp
        exact h4 i p' q hp hq
      · rw [List.getElem?_append_right ge] at hq
        have hi : i + 1 - d.length = 0 := by
          have := (List.getElem?_eq_some_iff.mp hq).1
          simp only [List.length_singleton] at this
          omega
        rw [hi] at hq
        have e : q = (f.1, f.2.2) := (Option.some.inj hq).symm
        rw [List.getElem?_append_left (by omega), show i = d.length - 1 by omega, h5] at hp
        have e2 : p' = p := (Option.some.inj hp).symm
        rw [e, e2, h6]
        exact hf
def setNm (e : Ent) : Option Str := match e.2.1 with
  | .set x _ => some x
  | _ => none
theorem ways_short {os ss : List Str} {b : List Rw} {ch : Chs} (W : Ways ss (freeR os ss b) ch) {x : Str} {c : Chn} (h : (x, c) ∈ ch) : c.length ≤ (entsB 1 [] b).length + 1 := by
  have ok := ways_chain W _ x c (Nat.le_refl _) h
  have nd := ways_nd W h
  cases c with
  | nil => exact Nat.zero_le _
  | cons p0 t =>
    have nd2 : (t.map (·.2)).Nodup := (List.nodup_cons.mp (show (p0.2 :: t.map (·.2)).Nodup from nd)).2
    have sub : ∀ y ∈ t.map (·.2), y ∈ (entsB 1 [] b).filterMap setNm := fun y hy => by
      obtain ⟨q, hq, rfl⟩ := List.mem_map.mp hy
      obtain ⟨i, hi⟩ := List.getElem?_of_mem hq
      have il := (List.getElem?_eq_some_iff.mp hi).1
      have := ok.link i _ q (List.getElem?_eq_getElem (by simp; omega)) (by rw [List.getElem?_cons_succ]; exact hi)
      obtain ⟨f, A, he, _⟩ := flow_mem.mp (free_mem.mp this).1
      exact List.mem_filterMap.mpr ⟨_, he, rfl⟩
    have l := nodup_le nd2 sub
    have l2 := List.length_filterMap_le setNm (entsB 1 [] b)
    rw [List.length_map] at l
    rw [List.length_cons]
    omega
abbrev Fars := List (Str × Nat)
def fkv (p : Str × Nat) : Key × V := (.inr p.1, .int (p.2 : Nat))
theorem fkv_keys (fs : Fars) : (fs.map fkv).map (·.1) = (fs.map (·.1)).map Sum.inr := by
  rw [List.map_map, List.map_map] <;> rfl
theorem fkv_get {fs : Fars} (nd : (fs.map (·.1)).Nodup) {x : Str} {n : Nat} (h : (x, n) ∈ fs) : valV (fs.map fkv) (.inr x) = some (.int (n : Nat)) := by
  induction fs with
  | nil => exact nomatch h
  | cons p r ih =>
    obtain ⟨n1, n2⟩ := List.nodup_cons.mp (show (p.1 :: r.map (·.1)).Nodup from nd)
    show (((fkv p) :: r.map fkv).find? fun kv => decide (kv.1 = .inr x)).map (·.2) = _
    rcases List.mem_cons.mp h with e | h
    · subst e
      rw [List.find?_cons_of_pos (p := fun kv : Key × V => decide (kv.1 = .inr x)) (a := fkv (x, n)) (decide_eq_true rfl)] <;> rfl
    · have ne : p.1 ≠ x := fun e => n1 (List.mem_map.mpr ⟨_, h, e.symm⟩)
      rw [List.find?_cons_of_neg (by
        show ¬ decide ((Sum.inr p.1 : Key) = .inr x) = true
        rw [decide_eq_true_iff]
        exact fun e => ne (Sum.inr.inj e))]
      exact ih n2 h
theorem fkv_has {fs : Fars} {x : Str} : (valV (fs.map fkv) (.inr x)).isSome = decide (x ∈ fs.map (·.1)) := by
  by_cases c : x ∈ fs.map (·.1)
  · rw [decide_eq_true c]
    exact valV_some (by rw [fkv_keys]; exact List.mem_map.mpr ⟨x, c, rfl⟩)
  · rw [decide_eq_false c, valV_none (by rw [fkv_keys]; exact fun q => by obtain ⟨y, hy, e⟩ := List.mem_map.mp q; exact c (Sum.inr.inj e ▸ hy))] <;> rfl
/-- the names with chains of at most n + 1 pairs, with how far -/
structure FarI (ss ns : List Str) (ch : Chs) (fs : Fars) (n : Nat) : Prop where
  nd : (fs.map (·.1)).Nodup
  sound : ∀ x m, (x, m) ∈ fs → m ≤ n ∧ ∃ c, (x, c) ∈ ch ∧ c.length = m + 1
  full : ∀ x c, (x, c) ∈ ch → c.length ≤ n + 1 → x ∈ fs.map (·.1)
noncomputable def sp_law_far (K : PySem.W.Frag) : Sp := fun vs H Q _ => ∃ (p x y r : Addr) (os ss ns : List Str) (b : List Rw) (us : List V) (ch : Chs), vs = [.ref p, .ref r] ∧ H p = some (.lst [.ref x, .ref y]) ∧ H x = some (.lst (os.map V.str)) ∧ H y = some (.lst (ss.map V.str)) ∧
  H r = some (.lst us) ∧ All2 (EntL K H r) us (entsB 1 [] b) ∧ (∀ e ∈ entsB 1 [] b, EntOk ns [] 8 e) ∧ szs b ≤ 1000 ∧ (∀ z ∈ ss ++ ns, Nm z) ∧ ss.Nodup ∧ os.length ≤ 1000 ∧ ss.length ≤ 1000 ∧ ns.length ≤ 1000 ∧ Ways ss (freeR os ss b) ch ∧ (∀ x ∈ Chs.keys ch, x ∈ ss ++ ns) ∧
  ∀ (D : Addr) (H' : Hp) (fs : Fars), Same H H' → H D = none → H' D = some (.dK (fs.map fkv)) → (fs.map (·.1)).Nodup → (∀ x c, (x, c) ∈ ch → (x, c.length - 1) ∈ fs) → Q (.ref D) H'
noncomputable def sp_law_step (K : PySem.W.Frag) : Sp := fun vs H Q _ => ∃ (p x y r : Addr) (os ss ns : List Str) (b : List Rw) (us : List V) (v1 v2 : V) (p1 p2 : Nat × Str), vs = [.ref p, .ref r, v1, v2] ∧ H p = some (.lst [.ref x, .ref y]) ∧ H x = some (.lst (os.map V.str)) ∧ H y = some (.lst (ss.map V.str)) ∧
  H r = some (.lst us) ∧ All2 (EntL K H r) us (entsB 1 [] b) ∧ (∀ e ∈ entsB 1 [] b, EntOk ns [] 8 e) ∧ szs b ≤ 1000 ∧ os.length ≤ 1000 ∧ ss.length ≤ 1000 ∧ PaAt K H v1 p1 ∧ PaAt K H v2 p2 ∧ (p2.1, p1.2, p2.2) ∈ freeR os ss b ∧ ∀ H', Same H H' → Q (.bl true) H'
noncomputable def sp_law_chained (K : PySem.W.Frag) : Sp := fun vs H Q _ => ∃ (p x y r l t lp : Addr) (os ss ns : List Str) (b : List Rw) (us cs : List V) (ch : Chs) (c : Chn) (s w z : Str) (k : Nat) (m : List Str), vs = [.ref p, .ref r, .ref l, .ref t] ∧ H p = some (.lst [.ref x, .ref y]) ∧ H x = some (.lst (os.map V.str)) ∧ H y = some (.lst (ss.map V.str)) ∧
  H r = some (.lst us) ∧ All2 (EntL K H r) us (entsB 1 [] b) ∧ (∀ e ∈ entsB 1 [] b, EntOk ns [] 8 e) ∧ szs b ≤ 1000 ∧ (∀ z ∈ ss ++ ns, Nm z) ∧ ss.Nodup ∧ os.length ≤ 1000 ∧ ss.length ≤ 1000 ∧ ns.length ≤ 1000 ∧ Ways ss (freeR os ss b) ch ∧ (∀ x ∈ Chs.keys ch, x ∈ ss ++ ns) ∧
  H l = some (.lst cs) ∧ All2 (PaAt K H) cs (c ++ [(k, z)]) ∧ SqT K H t [.int (k : Nat), .str w, .str z, .ref lp] ∧ H lp = some (.lst (m.map V.str)) ∧ (∀ y ∈ m, y ∈ ns ∧ y ∈ Chs.keys ch) ∧ m.length ≤ 16000000 ∧ PyData.strOk z = true ∧ BestC ch m s c ∧ ∀ H', Same H H' → Q (.bl true) H'
abbrev N_law_far : List Str := ["_law_pairs", "_law_rows", "_law_far_here", "_law_name", "_law_step_here", "_law_known", "_law_row", "_law_around"]
noncomputable def t_law_far (K : PySem.W.Frag) : TS :=
  (tSeq (tAsg (tCB (rDictP K) (tCons (tLc (iSeq K (tOp (rIx K) (tVar 0) (tC (.int 1)))) (gName 3) tYes (tTup (tCons (tVar 3) (tCons (tC (.int 0)) tNil))) [3]) tNil)) (gName 2)) (tSeq (tFor (iRng2 (tCons (tC (.int 1)) (tCons (tOp (rAdd K) (tCB (rLenA K) (tCons (tVar 1) tNil)) (tC (.int 2))) tNil))) (gName 4) (tSeq (tLock (tAsg (tLc (iKeys (tVar 2)) (gName 3) (tTest (tOp rLt (tDGet (tVar 2) (tVar 3)) (tVar 4))) (tVar 3) [3]) (gName 5))) (tFor (iSeq K (tVar 1)) (gTup K 2 (gCons (gName 6) (gCons (gName 7) gNil))) (tIfS (tAnd (tTest (tOp (rEq2 K) (tOp (rIx K) (tVar 6) (tC (.int 0))) (tC (.str "set")))) (tAnd (tTest (tOp (rIn2 K true) (tOp (rIx K) (tVar 6) (tC (.int 1))) (tOp (rIx K) (tVar 0) (tC (.int 0))))) (tTest (tOp (rDIn true) (tOp (rIx K) (tVar 6) (tC (.int 1))) (tVar 2))))) (tIfS (tTest (tOp (rNe2 K) (tLc (iSeq K (tOp (rAdd K) (tF (sp_law_all_names K 18) (tCons (tOp (rIx K) (tVar 6) (tC (.int 2))) tNil)) (tVar 7))) (gName 3) (tTest (tOp (rIn2 K false) (tVar 3) (tVar 5))) (tVar 3) [3]) (tLst tNil))) (sDPut (tVar 2) (tOp (rIx K) (tVar 6) (tC (.int 1))) (tVar 4)) tNext) tNext)))) (tRet (tVar 2))))
abbrev N_law_step : List Str := ["_law_pairs", "_law_rows", "_law_ahead", "_law_pair", "_law_row", "_law_around"]
noncomputable def t_law_step_j1 (K : PySem.W.Frag) : TS :=
  (tRet (tOp (rIn2 K false) (tOp (rIx K) (tVar 2) (tC (.int 1))) (tOp (rAdd K) (tF (sp_law_all_names K 18) (tCons (tOp (rIx K) (tVar 4) (tC (.int 2))) tNil)) (tVar 5))))
noncomputable def t_law_step_j2 (K : PySem.W.Frag) : TS :=
  (tSeq (tAsg (tOp (rIx K) (tVar 1) (tOp rSub (tOp (rIx K) (tVar 3) (tC (.int 0))) (tC (.int 1)))) (gTup K 2 (gCons (gName 4) (gCons (gName 5) gNil)))) (tSeq (tIfS (tOr (tTest (tOp (rNe2 K) (tOp (rIx K) (tVar 4) (tC (.int 0))) (tC (.str "set")))) (tOr (tTest (tOp (rNe2 K) (tOp (rIx K) (tVar 4) (tC (.int 1))) (tOp (rIx K) (tVar 3) (tC (.int 1))))) (tTest (tOp (rIn2 K false) (tOp (rIx K) (tVar 3) (tC (.int 1))) (tOp (rAdd K) (tOp (rIx K) (tVar 0) (tC (.int 0))) (tOp (rIx K) (tVar 0) (tC (.int 1)))))))) (tRet (tC (.bl false))) tNext) (t_law_step_j1 K)))
noncomputable def t_law_step (K : PySem.W.Frag) : TS :=
  (tSeq (tIfS (tOr (tNot (tB (tCB (rIsi2 K) (tCons (tVar 3) (tCons (tC (.ty "tuple")) tNil))))) (tOr (tTest (tOp (rNe2 K) (tCB (rLenA K) (tCons (tVar 3) tNil)) (tC (.int 2)))) (tOr (tNot (tB (tF (sp_law_whole K) (tCons (tOp (rIx K) (tVar 3) (tC (.int 0))) tNil)))) (tNot (tTest (tChain rLe rLe (tC (.int 1)) (tOp (rIx K) (tVar 3) (tC (.int 0))) (tCB (rLenA K) (tCons (tVar 1) tNil)))))))) (tRet (tC (.bl false))) tNext) (t_law_step_j2 K))
abbrev N_law_chained : List Str := ["_law_pairs", "_law_rows", "_law_chain", "_law_leak", "_law_k", "_law_far_here", "_law_name"]
noncomputable def t_law_chained_j1 (K : PySem.W.Frag) : TS :=
  (tSeq (tFor (iRng2 (tCons (tC (.int 1)) (tCons (tOp rSub (tCB (rLenA K) (tCons (tVar 2) tNil)) (tC (.int 1))) tNil))) (gName 4) (tIfS (tNot (tB (tF (sp_law_step K) (tCons (tVar 0) (tCons (tVar 1) (tCons (tOp (rIx K) (tVar 2) (tOp rSub (tVar 4) (tC (.int 1)))) (tCons (tOp (rIx K) (tVar 2) (tVar 4)) tNil))))))) (tRet (tC (.bl false))) tNext)) (tSeq (tAsg (tF (sp_law_far K) (tCons (tVar 0) (tCons (tVar 1) tNil))) (gName 5)) (tRet (tAndV (tOp (rIn2 K false) (tOp (rIx K) (tOp (rIx K) (tVar 2) (tUn rNeg (tC (.int 2)))) (tC (.int 1))) (tOp (rIx K) (tVar 3) (tC (.int 3)))) (tOp (rEq2 K) (tCB (rLenA K) (tCons (tVar 2) tNil)) (tOp (rAdd K) (tC (.int 2)) (tCB (rMin K) (tCons (tLc (iSeq K (tOp (rIx K) (tVar 3) (tC (.int 3)))) (gName 6) tYes (tDGet (tVar 5) (tVar 6)) [6]) tNil))))))))
noncomputable def t_law_chained_j2 (K : PySem.W.Frag) : TS :=
  (tSeq (tIfS (tOr (tTest (tOp (rNe2 K) (tOp (rIx K) (tOp (rIx K) (tVar 2) (tC (.int 0))) (tC (.int 0))) (tC (.int 0)))) (tOr (tTest (tOp (rIn2 K true) (tOp (rIx K) (tOp (rIx K) (tVar 2) (tC (.int 0))) (tC (.int 1))) (tOp (rIx K) (tVar 0) (tC (.int 1))))) (tTest (tOp (rNe2 K) (tOp (rIx K) (tVar 2) (tUn rNeg (tC (.int 1)))) (tTup (tCons (tOp (rIx K) (tVar 3) (tC (.int 0))) (tCons (tOp (rIx K) (tVar 3) (tC (.int 2))) tNil))))))) (tRet (tC (.bl false))) tNext) (t_law_chained_j1 K))
noncomputable def t_law_chained (K : PySem.W.Frag) : TS :=
  (tSeq (tIfS (tOr (tNot (tB (tCB (rIsi2 K) (tCons (tVar 2) (tCons (tC (.ty "list")) tNil))))) (tOr (tTest (tOp rLt (tCB (rLenA K) (tCons (tVar 2) tNil)) (tC (.int 2)))) (tOr (tNot (tB (tCB (rIsi2 K) (tCons (tOp (rIx K) (tVar 2) (tC (.int 0))) (tCons (tC (.ty "tuple")) tNil))))) (tTest (tOp (rNe2 K) (tCB (rLenA K) (tCons (tOp (rIx K) (tVar 2) (tC (.int 0))) tNil)) (tC (.int 2))))))) (tRet (tC (.bl false))) tNext) (t_law_chained_j2 K))
abbrev N_law_whole : List Str := ["_law_found"]
noncomputable def t_law_whole (K : PySem.W.Frag) : TS :=
  (tRet (tAndV (tCB (rIsi2 K) (tCons (tVar 0) (tCons (tC (.ty "int")) tNil))) (tNotV (tCB (rIsi2 K) (tCons (tVar 0) (tCons (tC (.ty "bool")) tNil))))))
theorem pure_law_whole (K : PySem.W.Frag) (vs : List V) (H : Hp) (Q : VK) (E : XK) (h : sp_law_whole K vs H Q E) :
    t_law_whole K { nx := fun _ H' => Q .non H', rt := Q } (start N_law_whole vs) H := by
  obtain ⟨i, rfl, q⟩ := h
  unfold t_law_whole
  walk_at "go"
  refine w_isi (.base (.int i)) rfl ?_
  walk_at "go"
  refine w_isiNo (.base (.int i)) rfl ?_
  walk_at "go"
  exact q
theorem w_dictP {K : PySem.W.Frag} {H : Hp} {Q : VK} {a : Addr} {vs : List V} {kvs : List (Key × V)} (h : SqL K H a vs) (hA : All2 (fun v (kv : Key × V) => ∃ t, v = .ref t ∧ SqT K H t [kV kv.1, kv.2]) vs kvs) (nd : (kvs.map (·.1)).Nodup) (q : ∀ p H', H p = none → Same H H' → H' p = some (.dK kvs) → Q (.ref p) H') : rDictP K [.ref a] H Q := by
  have build : ∀ {vs : List V} {kvs : List (Key × V)}, All2 (fun v (kv : Key × V) => ∃ t, v = .ref t ∧ SqT K H t [kV kv.1, kv.2]) vs kvs → ∃ ps : List Addr, vs = ps.map V.ref ∧ Paired (fun p kv => SqT K H p [kV kv.1, kv.2]) ps kvs := by
    intro vs kvs h
    induction h with
    | nil => exact ⟨[], rfl, .nil⟩
    | cons h t ih =>
      obtain ⟨a, rfl, h⟩ := h
      obtain ⟨ps, e, i⟩ := ih
      exact ⟨a :: ps, by rw [e] <;> rfl, .cons h i⟩
  obtain ⟨ps, rfl, hp⟩ := build hA
  refine ⟨a, ps, kvs, rfl, h, hp, fun p hp => ?_⟩
  rw [merge_nd (acc := []) (by rw [List.map_nil, List.nil_append]; exact nd), List.nil_append]
  exact q p _ hp (same_new hp) upd_same
theorem w_ikeys {td : TE} {σ : L2.St} {H : Hp} {R : It → Hp → Prop} (q : td σ H fun x H1 => ∃ d o, x = .ref d ∧ ((∃ kvs, H1 d = some (.frz o (.dK kvs)) ∧ R (Itk d o kvs) H1) ∨ ∃ kvs, H1 d = some (.frz o (.dT kvs)) ∧ R (Itkt d o kvs) H1)) : iKeys td σ H R := q
theorem pure_law_far (K : PySem.W.Frag) (vs : List V) (H : Hp) (Q : VK) (E : XK) (h : sp_law_far K vs H Q E) :
    t_law_far K { nx := fun _ H' => Q .non H', rt := Q } (start N_law_far vs) H := by
  obtain ⟨p, x, y, r, os, ss, ns, b, us, ch, rfl, hp, hx, hy, hr, hE, hok, hz, hN, nd, ol, sl, nl, W, cN, q⟩ := h
  have EL : (entsB 1 [] b).length = szs b := entsB_len 1 [] b
  have ul := hE.len
  unfold t_law_far
  walk_at "gx"
  refine w_lc ?_
  walk_at "gx"
  refine lc_all (as := ss) (P := fun v x => v = .str x) (fun H v x => ∃ t, v = .ref t ∧ SqT K H t [.str x, .int 0]) (.inl (SqL.of hy)) all2_map (by omega) (fun _ _ _ _ e ⟨t, h1, h2⟩ => ⟨t, h1, sameT_t e h2⟩) ?_ ?_
  · rintro D v z H1 Nx hz rfl e1 ⟨_, _⟩ k
    refine ⟨rfl, ?_⟩
    walk_at "gx"
    rename_i p1 H2 n1 e2 hp1
    exact k _ _ e2 ⟨p1, rfl, SqT.of hp1⟩
  · intro D H1 ys e1 nD hD hA
    walk_at "gx"
    have hA2 : All2 (fun v (kv : Key × V) => ∃ t, v = .ref t ∧ SqT K H1 t [kV kv.1, kv.2]) ys ((ss.map fun s => (s, 0)).map fkv) := by
      clear hD nD nd sl hN W hy hok hE cN
      induction hA with
      | nil => exact .nil
      | cons h t ih => exact .cons h ih
    have k0 : (ss.map fun s => (s, (0 : Nat))).map (·.1) = ss := by rw [List.map_map]; exact List.map_id _
    refine w_dictP (SqL.of hD) hA2 (by rw [fkv_keys, k0]; exact nodup_inr nd) (fun d H2 n2 e2 hd => ?_)
    have e02 := e1.trans e2
    have d0 : H d = none := none_of e1 n2
    walk_at "gx"
    have keyN : ∀ x c, (x, c) ∈ ch → x ∈ ss ++ ns := fun x c h => cN x (key_of h)
    have flen : ∀ {fs : Fars} {n : Nat}, FarI ss ns ch fs n → fs.length ≤ 2000 := fun I => by
      have := nodup_le I.nd (fun z hz => by
        obtain ⟨q, hq, rfl⟩ := List.mem_map.mp hz
        obtain ⟨_, c, hc, _⟩ := I.sound q.1 q.2 hq
        exact keyN _ _ hc)
      rw [List.length_map, List.length_append] at this
      omega
    have I0 : FarI ss ns ch (ss.map fun s => (s, 0)) 0 := ⟨by rw [k0]; exact nd, fun x m hm => by
      obtain ⟨s, hs, e⟩ := List.mem_map.mp hm
      obtain ⟨rfl, rfl⟩ := Prod.mk.inj e
      exact ⟨Nat.le_refl _, _, W.base s hs, rfl⟩, fun x c hc hl => by
      rw [k0]
      rcases W.each x c hc with ⟨h1, _⟩ | ⟨f, _, dd, hdd, _, rfl⟩
      · exact h1
      · have := (ways_chain W _ _ dd (Nat.le_refl _) hdd).pos
        rw [List.length_append, List.length_singleton] at hl
        omega⟩
    refine ⟨1, (us.length : Nat) + 2, rfl, ⟨by omega, by omega, by omega, by omega⟩, ?_⟩
    refine for_range (lo := 1) (n := ((us.length : Nat) + 2 - 1 : Int).toNat) (fun i σ H' => Same H H' ∧ ∃ (fs : Fars) (w3 w4 w5 w6 w7 : Option V), σ = [some (.ref p), some (.ref r), some (.ref d), w3, w4, w5, w6, w7] ∧ H' d = some (.dK (fs.map fkv)) ∧ FarI ss ns ch fs i)
      ⟨e02, _, _, _, _, _, _, rfl, hd, I0⟩ ?_ ?_
    · rintro i σ H3 hi ⟨e3, fs, w3, w4, w5, w6, w7, rfl, hd3, I⟩
      have fl := flen I
      walk_at "gx"
      refine ⟨d, .dK (fs.map fkv), hd3, trivial, fun od => ?_⟩
      walk_at "gx"
      refine w_lc (w_ikeys ?_)
      walk_at "gx"
      refine ⟨d, od, rfl, .inl ⟨fs.map fkv, upd_same, fun D3 nD3 => ?_⟩⟩
      have dD : D3 ≠ d := fun e => by rw [e, upd_same] at nD3; exact nomatch nD3
      have nD3' : H3 D3 = none := by rw [upd_ne dD] at nD3; exact nD3
      refine lc_it walk_keys (fun j H' => H' d = some (.frz od (.dK (fs.map fkv))) ∧ (∀ a u, a ≠ d → H3 a = some u → H' a = some u) ∧ H' D3 = some (.lst (((fs.take j).map (·.1)).map V.str)))
        ⟨by rw [upd_ne (Ne.symm dD)]; exact upd_same, fun a u na ha => by rw [upd_ne (ne_of_none ha nD3'), upd_ne na]; exact ha, by rw [upd_same, List.take_zero] <;> rfl⟩ (fun j H' _ h => h.1) ?_ ?_
      · rintro j v H4 H5 hj ⟨g1, g2, g3⟩ ⟨rfl, kk, vv, hk, rfl⟩
        rw [List.getElem?_map] at hk
        have hj' : j < fs.length := by rw [List.length_map] at hj; exact hj
        rw [List.getElem?_eq_getElem hj'] at hk
        obtain ⟨rfl, rfl⟩ := Prod.mk.inj (Option.some.inj hk)
        have hm : fs[j] ∈ fs := List.getElem_mem hj'
        have le := (I.sound fs[j].1 fs[j].2 hm).1
        have tk := take_snoc (List.getElem?_eq_getElem hj')
        refine ⟨rfl, ?_⟩
        walk_at "gx"
        refine ⟨d, _, rfl, .inl ⟨_, .inr fs[j].1, .inr ⟨od, g1⟩, rfl, (fkv_get I.nd (show (fs[j].1, fs[j].2) ∈ fs from hm)).symm⟩, ?_⟩
        walk_at "gx"
        refine w_yes (decide_eq_true (by omega)) ?_
        walk_at "gx"
        refine ⟨_, g3, lt_line (by rw [List.length_map, List.length_map]; exact Nat.le_trans (List.length_take_le' _ _) (by omega)), by rw [upd_ne (Ne.symm dD)]; exact g1, fun a u na ha => ?_, ?_⟩
        · rw [upd_ne (ne_of_none ha nD3')]
          exact g2 a u na ha
        · rw [upd_same, tk, List.map_append, List.map_append] <;> rfl
      · rintro H4 ⟨g1, g2, g3⟩
        rw [List.length_map, List.take_length] at g3
        walk_at "gx"
        refine ⟨g1, ?_⟩
        have e4 : Same H3 (upd H4 d (.dK (fs.map fkv))) := fun a u ha => by
          by_cases c : a = d
          · subst c
            rw [upd_same, ← hd3]
            exact ha
          · rw [upd_ne c]
            exact g2 a u c ha
        have hD4 : upd H4 d (.dK (fs.map fkv)) D3 = some (.lst ((fs.map (·.1)).map V.str)) := by rw [upd_ne dD]; exact g3
        have hd4 : upd H4 d (.dK (fs.map fkv)) d = some (.dK (fs.map fkv)) := upd_same
        generalize upd H4 d (.dK (fs.map fkv)) = H5 at e4 hD4 hd4
        have e05 := e3.trans e4
        have D30 : D3 ≠ d := dD
        walk_at "gx"
        refine for_al (as := entsB 1 [] b) (P := EntL K H r) (fun pre σ H' => Same H H' ∧ ∃ (f2 : Fars) (w3 w6 w7 : Option V), σ = [some (.ref p), some (.ref r), some (.ref d), w3, some (.int (1 + (i : Nat))), some (.ref D3), w6, w7] ∧ H' d = some (.dK ((fs ++ f2).map fkv)) ∧ H' D3 = some (.lst ((fs.map (·.1)).map V.str)) ∧
            ((fs ++ f2).map (·.1)).Nodup ∧ (∀ x m, (x, m) ∈ f2 → m = i + 1 ∧ ∃ c, (x, c) ∈ ch ∧ c.length = i + 2) ∧ (∀ k x f A, (k, Rw.set x f, A) ∈ pre → x ∉ os → ∀ y ∈ f.names ++ A, y ∈ fs.map (·.1) → x ∈ (fs ++ f2).map (·.1)))
          (.inl (SqL.of hr)) hE ⟨e05, [], _, _, _, rfl, by rw [List.append_nil]; exact hd4, hD4, by rw [List.append_nil]; exact I.nd, (fun x m h => nomatch h), fun k x f A h => nomatch h⟩ (fun pre σ H' h => h.1) ?_ ?_
        · rintro pre ⟨k, rw, A⟩ post v σ H6 hes ⟨t, vr, al, rfl, ht, hrw, hal, nal, xl⟩ ⟨e6, f2, w3, w6, w7, rfl, hd6, hD6, nd6, hf2, hc6⟩
          have eo := hok (k, rw, A) (by rw [hes]; simp)
          have ht6 := same_t e6 ht
          have hr6 := hrw.monoS e6
          have hal6 := e6 _ _ hal
          have xl' : A.length ≤ 1000000 := xl
          have f2len : (fs ++ f2).length ≤ 4000 := by
            have := nodup_le nd6 (fun z hz => show z ∈ ss ++ ns by
              obtain ⟨⟨x', m'⟩, hq, rfl⟩ := List.mem_map.mp hz
              rcases List.mem_append.mp hq with h | h
              · obtain ⟨_, c, hc, _⟩ := I.sound _ _ h
                exact keyN _ _ hc
              · obtain ⟨_, c, hc, _⟩ := hf2 _ _ h
                exact keyN _ _ hc)
            rw [List.length_map, List.length_append (as := ss)] at this
            omega
          have stay : ∀ H', Same H6 H' → (∀ x f, rw = Rw.set x f → x ∉ os → ∀ y ∈ f.names ++ A, y ∈ fs.map (·.1) → x ∈ (fs ++ f2).map (·.1)) → Same H H' ∧ ∃ (f2' : Fars) (w3' w6' w7' : Option V), ([some (.ref p), some (.ref r), some (.ref d), w3, some (.int (1 + (i : Nat))), some (.ref D3), some vr, some (.ref al)] : L2.St) = [some (.ref p), some (.ref r), some (.ref d), w3', some (.int (1 + (i : Nat))), some (.ref D3), w6', w7'] ∧ H' d = some (.dK ((fs ++ f2').map fkv)) ∧ H' D3 = some (.lst ((fs.map (·.1)).map V.str)) ∧
            ((fs ++ f2').map (·.1)).Nodup ∧ (∀ x m, (x, m) ∈ f2' → m = i + 1 ∧ ∃ c, (x, c) ∈ ch ∧ c.length = i + 2) ∧ (∀ k' x f A', (k', Rw.set x f, A') ∈ pre ++ [(k, rw, A)] → x ∉ os → ∀ y ∈ f.names ++ A', y ∈ fs.map (·.1) → x ∈ (fs ++ f2').map (·.1)) := by
            intro H' e' hh
            refine ⟨e6.trans e', f2, _, _, _, rfl, e' _ _ hd6, e' _ _ hD6, nd6, hf2, fun k' x f A' hm => ?_⟩
            rcases List.mem_append.mp hm with hm | hm
            · exact hc6 k' x f A' hm
            · obtain ⟨rfl, rfl, rfl⟩ : k' = k ∧ Rw.set x f = rw ∧ A' = A := by
                have := List.mem_singleton.mp hm
                exact ⟨congrArg (·.1) this, congrArg (·.2.1) this, congrArg (·.2.2) this⟩
              exact hh x f rfl
          obtain ⟨ar, ws, hvr, hs, _⟩ := hr6.head
          subst hvr
          walk_at "gx"
          refine w_ixT hs at0 ?_
          walk_at "gx"
          rw [set_is]
          cases rw with
          | tell f => walk_at "gx"; exact stay _ (Same.refl _) fun x f h => nomatch h
          | skip => walk_at "gx"; exact stay _ (Same.refl _) fun x f h => nomatch h
          | ite f a b => walk_at "gx"; exact stay _ (Same.refl _) fun x f h => nomatch h
          | whl f a => walk_at "gx"; exact stay _ (Same.refl _) fun x f h => nomatch h
          | set z f =>
            have ff := eo.ok.2
            have hr6' := hr6
            cases hr6' with
            | set hrow hf =>
            clear hs
            walk_at "gx"
            refine w_ninTxt (SqL.of (e6 _ _ hx)) ?_
            walk_at "gx"
            refine w_two (fun c => ?_) (fun c => ?_)
            · have zo : z ∉ os := by simpa using c
              walk_at "gx"
              refine w_din hd6 ?_
              rw [fkv_has]
              walk_at "gx"
              refine w_two (fun c2 => ?_) (fun c2 => ?_)
              · have c2 : decide (z ∈ (fs ++ f2).map (·.1)) = false := by
                  cases e : decide (z ∈ (fs ++ f2).map (·.1)) with
                  | false => rfl
                  | true => rw [e] at c2; exact nomatch c2
                have zf := of_decide_eq_false c2
                walk_at "gx"
                refine w_lc ?_
                walk_at "gx"
                refine ⟨_, f, rfl, hf, Nat.le_trans ff.2 (by decide), Nat.le_trans ff.2 (by decide), fun p7 H7 e7 n7 hp7 => ?_⟩
                walk_at "gx"
                have fl2 := Fm.names_small18 (Nat.le_trans ff.2 (by decide : 12 ≤ 18))
                refine w_addL' hp7 (e7 _ _ hal6) (sz (by rw [List.length_map, List.length_map]; omega)) (fun p8 H8 n8 e8 hp8 => ?_)
                rw [← List.map_append] at hp8
                have e68 := e7.trans e8
                have hD8 := e68 _ _ hD6
                refine lc_fil (as := f.names ++ A) (P := fun v x => v = .str x) (fun x => decide (x ∈ fs.map (·.1))) (fun _ v x => v = .str x) (.inl (SqL.of hp8)) all2_map (by rw [List.length_append]; omega) (fun _ _ _ _ _ h => h) ?_ ?_
                · rintro D v y2 H9 Nx hy2 rfl e9 ⟨_, _⟩ yes no
                  refine ⟨rfl, ?_⟩
                  walk_at "gx"
                  refine w_inTxt (SqL.of (e9 _ _ hD8)) ?_
                  walk_at "gx"
                  refine w_two (fun d => ?_) (fun d => ?_)
                  · walk_at "gx"
                    exact yes d _ _ (Same.refl _) rfl
                  · exact no d _ (Same.refl _)
                · intro D4 H9 ys9 e9 nD4 hD4 hA9
                  rw [all2_txt hA9] at hD4
                  walk_at "gx"
                  rename_i pe H10 npe e10 hpe
                  have inN : ∀ x ∈ f.names ++ A, x ∈ ns := fun x hx => (List.mem_append.mp hx).elim (Fm.ok_names ff.1 x) fun h => (eo.sub x h).resolve_left List.not_mem_nil
                  refine w_neTxt (xs := (f.names ++ A).filter fun x => decide (x ∈ fs.map (·.1))) (ys := []) (SqL.of (e10 _ _ hD4)) (SqL.of hpe) (fun x hx => ok_txt (hN x (List.mem_append_right _ (inN x (List.mem_filter.mp hx).1)))) (fun x hx => nomatch hx) ?_
                  have e610 := e68.trans (e9.trans e10)
                  walk_at "gx"
                  refine w_two (fun dd => ?_) (fun dd => ?_)
                  · have dd : (f.names ++ A).filter (fun x => decide (x ∈ fs.map (·.1))) ≠ [] := fun e => by rw [e] at dd; exact nomatch dd
                    obtain ⟨y2, hy2⟩ := List.exists_mem_of_ne_nil _ dd
                    obtain ⟨hy1, hy3⟩ := List.mem_filter.mp hy2
                    obtain ⟨⟨y2', m2⟩, hm2, rfl⟩ := List.mem_map.mp (of_decide_eq_true hy3)
                    obtain ⟨hle, c2', hc2, hl2⟩ := I.sound _ _ hm2
                    have zs : z ∉ ss := fun h => zf (by
                      rw [List.map_append]
                      exact List.mem_append_left _ (I.full z _ (W.base z h) (by simp)))
                    have hfl : (k, y2', z) ∈ freeR os ss b := free_mem.mpr ⟨flow_mem.mpr ⟨f, A, by rw [hes]; simp, hy1⟩, zo, zs⟩
                    obtain ⟨cz, hcz⟩ := chGet_key (W.closed _ hfl (key_of hc2))
                    have hcz := chGet_mem hcz
                    have sh := W.short _ hfl c2' cz hc2 hcz
                    have lz : cz.length = i + 2 := by
                      rcases Nat.lt_or_ge cz.length (i + 2) with lt | ge
                      · exact absurd (by rw [List.map_append]; exact List.mem_append_left _ (I.full z cz hcz (by omega))) zf
                      · omega
                    walk_at "gx"
                    refine w_dputAt (e610 _ _ hd6) (lt_line (by rw [List.length_map]; omega)) ?_
                    rw [putK_new' (by rw [fkv_keys]; exact fun q => by obtain ⟨y, hy, e⟩ := List.mem_map.mp q; exact zf (Sum.inr.inj e ▸ hy))]
                    refine ⟨same_mut (e6.trans e610) d0, f2 ++ [(z, i + 1)], _, _, _, rfl, ?_, by rw [upd_ne D30]; exact e610 _ _ hD6, ?_, fun x m h => ?_, fun k' x f' A' hm => ?_⟩
                    · rw [upd_same, ← List.append_assoc, List.map_append (l₂ := [_])]
                      have : (1 : Int) + (i : Nat) = ((i + 1 : Nat) : Int) := by omega
                      rw [this] <;> rfl
                    · rw [← List.append_assoc, List.map_append (l₂ := [_]), List.nodup_append]
                      refine ⟨nd6, List.nodup_cons.mpr ⟨List.not_mem_nil, List.nodup_nil⟩, fun a ha b hb e => ?_⟩
                      rw [List.mem_singleton.mp hb] at e
                      have e : a = z := e
                      exact zf (e ▸ ha)
                    · rcases List.mem_append.mp h with h | h
                      · exact hf2 x m h
                      · obtain ⟨rfl, rfl⟩ := Prod.mk.inj (List.mem_singleton.mp h)
                        exact ⟨rfl, cz, hcz, lz⟩
                    · intro xo y3 hy3 hyf
                      rw [← List.append_assoc, List.map_append (l₂ := [_]), List.mem_append]
                      rcases List.mem_append.mp hm with hm | hm
                      · exact .inl (hc6 k' x f' A' hm xo y3 hy3 hyf)
                      · have e : Rw.set x f' = Rw.set z f := congrArg (·.2.1) (List.mem_singleton.mp hm)
                        injection e with e1 e2
                        exact .inr (List.mem_singleton.mpr e1)
                  · have dd : (f.names ++ A).filter (fun x => decide (x ∈ fs.map (·.1))) = [] := Decidable.byContradiction fun e => by rw [decide_eq_false e] at dd; exact nomatch dd
                    walk_at "gx"
                    refine stay _ e610 fun x' f' h zo y hy hyz => ?_
                    obtain ⟨rfl, rfl⟩ : z = x' ∧ f = f' := by injection h with h1 h2; exact ⟨h1, h2⟩
                    have : y ∈ (f.names ++ A).filter (fun x => decide (x ∈ fs.map (·.1))) := List.mem_filter.mpr ⟨hy, decide_eq_true hyz⟩
                    rw [dd] at this
                    exact nomatch this
              · have c2 : z ∈ (fs ++ f2).map (·.1) := Decidable.byContradiction fun e => by rw [decide_eq_false e] at c2; exact nomatch c2
                walk_at "gx"
                refine stay _ (Same.refl _) fun x' f' h zo y hy hyz => ?_
                obtain ⟨rfl, rfl⟩ : z = x' ∧ f = f' := by injection h with h1 h2; exact ⟨h1, h2⟩
                exact c2
            · have c : z ∈ os := Decidable.byContradiction fun e => by rw [decide_eq_false e] at c; exact nomatch c
              walk_at "gx"
              refine stay _ (Same.refl _) fun x' f' h zo y hy hyz => ?_
              obtain ⟨rfl, rfl⟩ : z = x' ∧ f = f' := by injection h with h1 h2; exact ⟨h1, h2⟩
              exact absurd c zo
        · rintro σ H6 ⟨e6, f2, w3, w6, w7, rfl, hd6, hD6, nd6, hf2, hc6⟩
          refine ⟨e6, fs ++ f2, _, _, _, _, _, rfl, hd6, nd6, fun x m h => ?_, fun x c hc hl => ?_⟩
          · rcases List.mem_append.mp h with h | h
            · obtain ⟨h1, h2⟩ := I.sound x m h
              exact ⟨by omega, h2⟩
            · obtain ⟨rfl, c, hc, hl⟩ := hf2 x m h
              exact ⟨Nat.le_refl _, c, hc, by omega⟩
          · rcases Nat.lt_or_ge c.length (i + 2) with lt | ge
            · rw [List.map_append]
              exact List.mem_append_left _ (I.full x c hc (by omega))
            · rcases W.each x c hc with ⟨h1, h2⟩ | ⟨f, hf, dd, hdd, rfl, rfl⟩
              · rw [h2] at ge
                simp at ge
              · rw [List.length_append, List.length_singleton] at hl ge
                obtain ⟨hfl, h1, h2⟩ := free_mem.mp hf
                obtain ⟨g, A, he, hm⟩ := flow_mem.mp hfl
                exact hc6 f.1 f.2.2 g A he h1 f.2.1 hm (I.full _ dd hdd (by omega))
    · rintro σ H3 ⟨e3, fs, w3, w4, w5, w6, w7, rfl, hd3, I⟩
      walk_at "gx"
      have nn : (((us.length : Nat) + 2 - 1 : Int)).toNat = us.length + 1 := by omega
      rw [nn] at I
      refine q d H3 fs e3 d0 hd3 I.nd fun x c hc => ?_
      have cs := ways_short W hc
      have cp := (ways_chain W _ x c (Nat.le_refl _) hc).pos
      have := I.full x c hc (by omega)
      obtain ⟨⟨x', m⟩, hm, rfl⟩ := List.mem_map.mp this
      obtain ⟨_, c2, hc2, hl2⟩ := I.sound _ _ hm
      have e : c = c2 := key_one W.nd hc hc2
      rw [e, hl2]
      exact hm
theorem ent_at {b : List Rw} {k : Nat} {r : Rw} {A : List Str} (h : (k, r, A) ∈ entsB 1 [] b) : ∃ i, k = i + 1 ∧ (entsB 1 [] b)[i]? = some (k, r, A) := by
  obtain ⟨i, hi⟩ := List.getElem?_of_mem h
  have := entsB_num 1 [] b i _ hi
  exact ⟨i, by have : k = 1 + i := this; omega, hi⟩
theorem All2.at_ {α : Type} {R : V → α → Prop} : ∀ {vs : List V} {as : List α} {i : Nat} {x : α}, All2 R vs as → as[i]? = some x → ∃ v, vs[i]? = some v ∧ R v x
  | _, _, 0, _, .cons h _, e => ⟨_, rfl, by rw [← Option.some.inj e]; exact h⟩
  | _, _, i + 1, _, .cons _ t, e => t.at_ (i := i) e
  | _, _, _, _, .nil, e => by simp at e
theorem atI_neg2 {xs : List V} {v : V} (h : 2 ≤ xs.length) (e : xs[xs.length - 2]? = some v) : atI xs (-2) = some v := by
  have k : ixN xs.length (-2) = some (xs.length - 2) := by
    unfold ixN
    rw [if_neg (by decide), if_pos (by omega)]
    exact congrArg some (by omega)
  unfold atI
  rw [k]
  exact e
theorem pure_law_step (K : PySem.W.Frag) (vs : List V) (H : Hp) (Q : VK) (E : XK) (h : sp_law_step K vs H Q E) :
    t_law_step K { nx := fun _ H' => Q .non H', rt := Q } (start N_law_step vs) H := by
  obtain ⟨p, x, y, r, os, ss, ns, b, us, v1, v2, p1, ⟨k, z⟩, rfl, hp, hx, hy, hr, hE, hok, hz, ol, sl, ⟨t1, rfl, ht1⟩, ⟨t2, rfl, ht2⟩, hfl, q⟩ := h
  obtain ⟨hfl, zo, zs⟩ := free_mem.mp hfl
  obtain ⟨f, A, he, hm⟩ := flow_mem.mp hfl
  have he : (k, Rw.set z f, A) ∈ entsB 1 [] b := he
  obtain ⟨i, rfl, hi⟩ := ent_at he
  have eo := hok _ he
  have ff := eo.ok.2
  obtain ⟨v, hv, t, vr, al, rfl, ht, hrw, hal, nal, xl⟩ := hE.at_ hi
  have EL : (entsB 1 [] b).length = szs b := entsB_len 1 [] b
  have ul := hE.len
  have il : i < us.length := (List.getElem?_eq_some_iff.mp hv).1
  unfold t_law_step
  walk_at "gx"
  refine w_isi (tyx_t ht2) rfl ?_
  walk_at "gx"
  refine w_no rfl ?_
  walk_at "gx"
  refine ⟨_, rfl, ?_⟩
  walk_at "gx"
  refine w_yes (decide_eq_true (by omega)) ?_
  walk_at "gx"
  refine w_no (show (!decide (((i + 1 : Nat) : Int) ≤ (us.length : Nat))) = false by rw [decide_eq_true (by omega)] <;> rfl) ?_
  walk_at "gx"
  unfold t_law_step_j2
  walk_at "gx"
  have ie : ((i + 1 : Nat) : Int) - 1 = ((i : Nat) : Int) := by omega
  refine w_ixL (SqL.of hr) (show atI us (((i + 1 : Nat) : Int) - 1) = some (.ref t) by rw [ie]; exact atI_nat hv) ?_
  walk_at "gx"
  cases hrw with
  | set hrow hf =>
  walk_at "gx"
  refine w_addL' hx hy (sz (by rw [List.length_map, List.length_map]; omega)) (fun p3 H3 n3 e3 hp3 => ?_)
  rw [← List.map_append] at hp3
  refine w_inTxt (SqL.of hp3) ?_
  rw [decide_eq_false (fun h => (List.mem_append.mp h).elim zo zs)]
  walk_at "gx"
  unfold t_law_step_j1
  walk_at "gx"
  refine ⟨_, f, rfl, hf.mono e3, Nat.le_trans ff.2 (by decide), Nat.le_trans ff.2 (by decide), fun p7 H7 e7 n7 hp7 => ?_⟩
  walk_at "gx"
  have xl' : A.length ≤ 1000000 := xl
  have fl2 := Fm.names_small18 (Nat.le_trans ff.2 (by decide : 12 ≤ 18))
  refine w_addL' hp7 ((e3.trans e7) _ _ hal) (sz (by rw [List.length_map, List.length_map]; show f.names.length + A.length ≤ _; omega)) (fun p8 H8 n8 e8 hp8 => ?_)
  rw [← List.map_append] at hp8
  refine w_inTxt (SqL.of hp8) ?_
  rw [decide_eq_true (show p1.2 ∈ f.names ++ (i + 1, Rw.set z f, A).2.2 from hm)]
  walk_at "gx"
  exact q _ (e3.trans (e7.trans e8))
theorem pure_law_chained (K : PySem.W.Frag) (vs : List V) (H : Hp) (Q : VK) (E : XK) (h : sp_law_chained K vs H Q E) :
    t_law_chained K { nx := fun _ H' => Q .non H', rt := Q } (start N_law_chained vs) H := by
  obtain ⟨p, x, y, r, l, t, lp, os, ss, ns, b, us, cs, ch, c, s, w, z, k, m, rfl, hp, hx, hy, hr, hE, hok, hz, hN, nd, ol, sl, nl, W, cN, hl, hC, ht, hlp, hm, ml, zok, hB, q⟩ := h
  have ok := ways_chain W _ s c (Nat.le_refl _) hB.at_
  obtain ⟨s0, hs0, ss0⟩ := ok.first
  obtain ⟨pl, hpl, hpls⟩ := ok.last
  have cp := ok.pos
  have cl := ways_len W cN _ hB.at_
  have cl' : c.length ≤ ss.length + ns.length := cl
  have csl := hC.len
  rw [List.length_append, List.length_singleton] at csl
  have get : ∀ (i : Nat) q, (c ++ [(k, z)])[i]? = some q → ∃ v t, cs[i]? = some v ∧ v = .ref t ∧ SqT K H t [.int (q.1 : Nat), .str q.2] := fun i q h => by
    obtain ⟨v, h1, t, h2, h3⟩ := hC.at_ h
    exact ⟨v, t, h1, h2, h3⟩
  obtain ⟨v0, t0, hv0, rfl, ht0⟩ := get 0 _ (by rw [List.getElem?_append_left (by omega)]; exact hs0)
  obtain ⟨v1, t1, hv1, rfl, ht1⟩ := get c.length (k, z) (by rw [List.getElem?_append_right (Nat.le_refl _), Nat.sub_self] <;> rfl)
  have ht0 : SqT K H t0 [.int 0, .str s0] := ht0
  have ht1 : SqT K H t1 [.int (k : Nat), .str z] := ht1
  have at0 : atI cs 0 = some (.ref t0) := atI_nat (j := 0) hv0
  have atL : atI cs (-1) = some (.ref t1) := by
    have e : cs = cs.take c.length ++ [V.ref t1] := by
      have := take_snoc hv1
      rw [← this, List.take_of_length_le (by omega)]
    rw [e]
    have := at_last (f := fun v : V => v) (L := cs.take c.length) (x := V.ref t1)
    rw [List.map_id'] at this
    exact this
  unfold t_law_chained
  walk_at "gx"
  refine w_isi (tyx_list hl) rfl ?_
  walk_at "gx"
  refine w_no (decide_eq_false (by omega)) ?_
  walk_at "gx"
  refine w_ixL (SqL.of hl) at0 ?_
  walk_at "gx"
  refine w_isi (tyx_t ht0) rfl ?_
  walk_at "gx"
  refine w_ixL (SqL.of hl) at0 ?_
  walk_at "gx"
  refine w_no rfl ?_
  walk_at "gx"
  unfold t_law_chained_j2
  walk_at "gx"
  refine w_ixL (SqL.of hl) at0 ?_
  walk_at "gx"
  refine w_ixL (SqL.of hl) at0 ?_
  walk_at "gx"
  refine w_ninTxt (SqL.of hy) ?_
  rw [decide_eq_true ss0]
  walk_at "gx"
  refine w_ixL (SqL.of hl) atL ?_
  walk_at "gx"
  rename_i p1 H1 n1 e1 hp1
  refine w_neSelf (k := 1) (.tup (same_t e1 ht1) (.cons (.int _) (.cons (.str _) .nil))) (.tup (SqT.of hp1) (.cons (.int _) (.cons (.str _) .nil))) (Dk.tup (dk_cons Dk.int (dk_cons (Dk.str zok) dk_nil))) (by decide) ?_
  walk_at "gx"
  unfold t_law_chained_j1
  walk_at "gx"
  refine ⟨1, (cs.length : Nat) - 1, rfl, ⟨by omega, by omega, by omega, by omega⟩, ?_⟩
  have nn : (((cs.length : Nat) - 1 - 1 : Int)).toNat = c.length - 1 := by omega
  rw [nn]
  refine for_range (lo := 1) (n := c.length - 1) (fun i σ H' => Same H H' ∧ ∃ w4 : Option V, σ = [some (.ref p), some (.ref r), some (.ref l), some (.ref t), w4, none, none]) ⟨e1, _, rfl⟩ ?_ ?_
  · rintro i σ H2 hi ⟨e2, w4, rfl⟩
    obtain ⟨qa, hqa⟩ : ∃ qa, c[i]? = some qa := ⟨_, List.getElem?_eq_getElem (by omega)⟩
    obtain ⟨qb, hqb⟩ : ∃ qb, c[i + 1]? = some qb := ⟨_, List.getElem?_eq_getElem (by omega)⟩
    obtain ⟨va, ta, hva, rfl, hta⟩ := get i qa (by rw [List.getElem?_append_left (by omega)]; exact hqa)
    obtain ⟨vb, tb, hvb, rfl, htb⟩ := get (i + 1) qb (by rw [List.getElem?_append_left (by omega)]; exact hqb)
    have lk := ok.link i qa qb hqa hqb
    walk_at "gx"
    refine w_ixL (SqL.of (e2 _ _ hl)) (show atI cs (((1 : Int) + (i : Nat)) - 1) = some (.ref ta) by rw [show ((1 : Int) + (i : Nat)) - 1 = ((i : Nat) : Int) by omega]; exact atI_nat hva) ?_
    walk_at "gx"
    refine w_ixL (SqL.of (e2 _ _ hl)) (show atI cs ((1 : Int) + (i : Nat)) = some (.ref tb) by rw [show (1 : Int) + (i : Nat) = ((i + 1 : Nat) : Int) by omega]; exact atI_nat hvb) ?_
    walk_at "gx"
    refine ⟨p, x, y, r, os, ss, ns, b, us, .ref ta, .ref tb, qa, qb, rfl, e2 _ _ hp, e2 _ _ hx, e2 _ _ hy, e2 _ _ hr, hE.imp fun _ _ h => h.mono e2, hok, hz, ol, sl, ⟨ta, rfl, same_t e2 hta⟩, ⟨tb, rfl, same_t e2 htb⟩, lk, fun H3 e3 => ?_⟩
    walk_at "gx"
    exact ⟨e2.trans e3, _, rfl⟩
  · rintro σ H2 ⟨e2, w4, rfl⟩
    walk_at "gx"
    refine ⟨p, x, y, r, os, ss, ns, b, us, ch, rfl, e2 _ _ hp, e2 _ _ hx, e2 _ _ hy, e2 _ _ hr, hE.imp fun _ _ h => h.mono e2, hok, hz, hN, nd, ol, sl, nl, W, cN, fun d H3 fs e3 nd3 hd fnd hfs => ?_⟩
    have e03 := e2.trans e3
    obtain ⟨vp, tp, hvp, rfl, htp⟩ := get (c.length - 1) pl (by rw [List.getElem?_append_left (by omega)]; exact hpl)
    have atP : atI cs (-2) = some (.ref tp) := by
      have h2 : cs[cs.length - 2]? = some (.ref tp) := by rw [show cs.length - 2 = c.length - 1 by omega]; exact hvp
      exact atI_neg2 (by omega) h2
    walk_at "gx"
    refine w_ixL (SqL.of (e03 _ _ hl)) atP ?_
    have htp3 := same_t e03 htp
    have ht3 := same_t e03 ht
    walk_at "gx"
    refine w_inTxt (SqL.of (e03 _ _ hlp)) ?_
    have sm : pl.2 ∈ m := by rw [hpls]; exact hB.mem
    rw [decide_eq_true sm]
    walk_at "gx"
    refine w_lc ?_
    walk_at "gx"
    refine lc_all (as := m) (P := fun v x => v = .str x) (fun _ v x => ∃ cx, (x, cx) ∈ ch ∧ v = .int ((cx.length - 1 : Nat) : Int)) (.inl (SqL.of (e03 _ _ hlp))) all2_map ml (fun _ _ _ _ _ h => h) ?_ ?_
    · rintro D v z2 H4 Nx hz2 rfl e4 ⟨_, _⟩ kk
      obtain ⟨cx, hcx⟩ := chGet_key (hm z2 hz2).2
      have hcx := chGet_mem hcx
      refine ⟨rfl, ?_⟩
      walk_at "gx"
      refine w_dgetAt (e4 _ _ hd) (fkv_get fnd (hfs _ _ hcx)) ?_
      exact kk _ _ (Same.refl _) ⟨cx, hcx, rfl⟩
    · intro D H4 ys e4 nD hD hA
      -- the least of them
      have hints : ∃ is : List Int, ys = is.map V.int ∧ (∀ i ∈ is, ∃ x ∈ m, ∃ cx, (x, cx) ∈ ch ∧ i = ((cx.length - 1 : Nat) : Int)) ∧ (∀ x ∈ m, ∃ cx, (x, cx) ∈ ch ∧ ((cx.length - 1 : Nat) : Int) ∈ is) := by
        clear hD nD hB hlp hm ml sm
        induction hA with
        | nil => exact ⟨[], rfl, (fun i h => nomatch h), (fun x h => nomatch h)⟩
        | @cons v x vs xs h t ih =>
          obtain ⟨cx, hcx, rfl⟩ := h
          obtain ⟨is, e, h1, h2⟩ := ih
          refine ⟨((cx.length - 1 : Nat) : Int) :: is, by rw [e] <;> rfl, fun i hi => ?_, fun x2 hx2 => ?_⟩
          · rcases List.mem_cons.mp hi with rfl | hi
            · exact ⟨x, List.mem_cons_self, cx, hcx, rfl⟩
            · obtain ⟨x2, g1, g2⟩ := h1 i hi
              exact ⟨x2, List.mem_cons_of_mem _ g1, g2⟩
          · rcases List.mem_cons.mp hx2 with rfl | hx2
            · exact ⟨cx, hcx, List.mem_cons_self⟩
            · obtain ⟨c2, g1, g2⟩ := h2 x2 hx2
              exact ⟨c2, g1, List.mem_cons_of_mem _ g2⟩
      obtain ⟨is, rfl, i1, i2⟩ := hints
      obtain ⟨cx, hcx, hin⟩ := i2 s hB.mem
      have ecx : cx = c := key_one W.nd hcx hB.at_
      subst ecx
      walk_at "gx"
      refine ⟨D, is, rfl, SqL.of hD, List.length_pos_of_mem hin, fun mn hmn hle => ?_⟩
      obtain ⟨x2, hx2, c2, hc2, rfl⟩ := i1 mn hmn
      have a1 := hle _ hin
      have a2 := hB.best x2 hx2 c2 hc2
      have p2 := (ways_chain W _ x2 c2 (Nat.le_refl _) hc2).pos
      walk_at "gx"
      rw [decide_eq_true (by omega)]
      exact q _ (e03.trans e4)
section
variable {K : PySem.W.Frag} {H : Hp} {a : Addr} {u v : V} {f g : Fm}
theorem FmAt.opAdd (h : SqT K H a [.str "+", u, v]) (h1 : FmAt K H u f) (h2 : FmAt K H v g) : FmAt K H (.ref a) (.op .add f g) := .op (s := .add) h h1 h2
theorem FmAt.opDiv (h : SqT K H a [.str "/", u, v]) (h1 : FmAt K H u f) (h2 : FmAt K H v g) : FmAt K H (.ref a) (.op .div f g) := .op (s := .div) h h1 h2
theorem FmAt.opLt (h : SqT K H a [.str "<", u, v]) (h1 : FmAt K H u f) (h2 : FmAt K H v g) : FmAt K H (.ref a) (.op .lt f g) := .op (s := .lt) h h1 h2
theorem FmAt.opEq (h : SqT K H a [.str "=", u, v]) (h1 : FmAt K H u f) (h2 : FmAt K H v g) : FmAt K H (.ref a) (.op .eq f g) := .op (s := .eq) h h1 h2
end
theorem fine_nam {ns : List Str} {x : Str} (h : x ∈ ns) : (Fm.nam x).fine ns := ⟨h, show 1 ≤ 12 by decide⟩
theorem fine_num {ns : List Str} {n : Int} (h0 : 0 ≤ n) (h : n < 1000000) : (Fm.num n).fine ns := ⟨⟨h0, h⟩, show 1 ≤ 12 by decide⟩
theorem fine_op {ns : List Str} {s : Sg} {f g : Fm} (h1 : f.fine ns) (h2 : g.fine ns) (d1 : f.depth ≤ 11) (d2 : g.depth ≤ 11) : (Fm.op s f g).fine ns := ⟨⟨h1.1, h2.1⟩, Nat.succ_le_succ (Nat.max_le.mpr ⟨d1, d2⟩)⟩
theorem oks_one {ns : List Str} {r : Rw} (h : r.ok ns) : oks ns [r] := ⟨h, trivial⟩
theorem BkAt.drop {K : PySem.W.Frag} {S : SQ} {H : Hp} : ∀ {vs : List V} {l : List Rw} (n : Nat), BkAt K S H vs l → BkAt K S H (vs.drop n) (l.drop n)
  | _, _, 0, h => h
  | _, _, _ + 1, .nil => .nil
  | _, _, n + 1, .cons h t => t.drop n
theorem oks_drop {ns : List Str} : ∀ {l : List Rw} (n : Nat), oks ns l → oks ns (l.drop n)
  | _, 0, h => h
  | [], _ + 1, _ => trivial
  | _ :: _, n + 1, h => oks_drop n h.2
theorem nests_drop : ∀ (l : List Rw) (n : Nat), nests (l.drop n) ≤ nests l
  | _, 0 => Nat.le_refl _
  | [], _ + 1 => Nat.le_refl _
  | r :: l, n + 1 => by
    show nests (l.drop n) ≤ max r.nest (nests l)
    have := nests_drop l n
    omega
theorem szs_td (l : List Rw) (n : Nat) : szs (l.take n) + szs (l.drop n) = szs l := by rw [← szs_app, List.take_append_drop]
/-- a text out of ten, by its place -/
theorem ten_at {ns : List Str} (hT : Ten ns) {i : Int} (h0 : 0 ≤ i) (h : i < 10) : ∃ x, atI (ns.map V.str) i = some (.str x) ∧ x ∈ ns := by
  obtain ⟨j, rfl⟩ := Int.eq_ofNat_of_zero_le h0
  have l := hT.len
  have hj : j < ns.length := by omega
  exact ⟨ns[j], atI_nat (by rw [List.getElem?_map, List.getElem?_eq_getElem hj] <;> rfl), List.getElem_mem hj⟩
theorem pick2 {x y : V} {i : Int} (h0 : 0 ≤ i) (h : i < 2) : (i = 0 ∧ atI [x, y] i = some x) ∨ (i = 1 ∧ atI [x, y] i = some y) := by
  rcases (show i = 0 ∨ i = 1 by omega) with rfl | rfl
  · exact .inl ⟨rfl, atI_nat (j := 0) rfl⟩
  · exact .inr ⟨rfl, atI_nat (j := 1) rfl⟩
theorem pick3 {x y z : V} {i : Int} (h0 : 0 ≤ i) (h : i < 3) : atI [x, y, z] i = some x ∨ atI [x, y, z] i = some y ∨ atI [x, y, z] i = some z := by
  rcases (show i = 0 ∨ i = 1 ∨ i = 2 by omega) with rfl | rfl | rfl
  · exact .inl (atI_nat (j := 0) rfl)
  · exact .inr (.inl (atI_nat (j := 1) rfl))
  · exact .inr (.inr (atI_nat (j := 2) rfl))
theorem se_l {K : PySem.W.Frag} {H : Hp} {a : Addr} {xs : List V} (h : H a = some (.lst xs)) : SE K H a xs := .inl (SqL.of h)
theorem se_t {K : PySem.W.Frag} {H : Hp} {a : Addr} {xs : List V} (h : H a = some (.tup xs)) : SE K H a xs := .inr (SqT.of h)
/-- a program is made -/
theorem w_prog {K : PySem.W.Frag} {H : Hp} {R : Addr → Hp → Prop} {x y z : Addr} {os ss ns : List Str} {xs : List V} {b : List Rw} (hx : SE K H x (os.map V.str)) (hy : SE K H y (ss.map V.str)) (hz : SE K H z xs) (hb : BkAt K (SqT K) H xs b) (ho : oks ns b) (hN : ∀ x ∈ ns, Nm x) (hT : Told os ss) (hn : nests b ≤ 8) (hs : szs b ≤ 1000)
    (q : ∀ p H', Same H H' → H p = none → PrAt K H' p os ss b → R p H') : ∀ p C dx, CC K "Program" as_Program C → H p = none → H dx = none → dx ≠ p →
      sp_Program___init__ K (.ref p :: [.ref x, .ref y, .ref z]) (upd (upd H dx (.own p)) p (.ins C dx [])) (fun v H2 => v = .non ∧ R p H2) E0 := by
  intro p C dx cc hp hdx ndx
  have e8 := (same_new (o := .own p) hdx).trans (same_new (o := .ins C dx []) (by rw [upd_ne ndx.symm]; exact hp))
  have l1 := hT.l1
  have l2 := hT.l2
  exact ⟨p, x, y, z, C, dx, os, ss, xs, b, rfl, upd_same, cc, se_same e8 hx, se_same e8 hy, se_same e8 hz, (hb.monoS e8).toE, ⟨ns, ho, hN⟩, hT.nm, hT.nd, by omega, by omega, hn, by omega, fun H9 x9 hP => ⟨rfl, q p H9 (SameX.same e8 hp x9) hp hP⟩⟩
def sp_law_leaking (K : PySem.W.Frag) : Sp := fun vs H Q _ => ∃ (a : Addr) (ns : List Str) (w c : Int) (d : Str), vs = [.ref a, .int w, .str d, .int c] ∧ SqL K H a (ns.map V.str) ∧ Ten ns ∧ 0 ≤ w ∧ w < 8 ∧ d ∈ ns ∧
  ∀ (v : V) (H' : Hp) (r : Rw), Same H H' → RwAt K (SqT K) H' v r → r.ok ns → r.nest ≤ 3 → r.size ≤ 4 → Q v H'
def sp_law_with_leak (K : PySem.W.Frag) : Sp := fun vs H Q _ => ∃ (a p : Addr) (ns : List Str) (c : Int) (xs : List V) (b : List Rw), vs = [.ref a, .ref p, .int c] ∧ SqL K H a (ns.map V.str) ∧ Ten ns ∧ H p = some (.lst xs) ∧ GoodB K H ns xs b ∧ szs b ≤ 200 ∧
  ∀ (q : Addr) (H' : Hp) (ys : List V) (b2 : List Rw), Same H H' → H q = none → H' q = some (.lst ys) → GoodB K H' ns ys b2 → szs b2 ≤ szs b + 10 → Q (.ref q) H'
def sp_law_drawn (K : PySem.W.Frag) : Sp := fun vs H Q _ => ∃ (a n : Addr) (cs : List Int) (lo hi : Int) (ns : List Str), vs = [.ref a, .int lo, .int hi, .ref n] ∧ SqL K H a (cs.map V.int) ∧ cs.length ≤ 63 ∧ SqL K H n (ns.map V.str) ∧ Ten ns ∧
  ∀ (q : Addr) (H' : Hp) (ys : List V) (b2 : List Rw), Same H H' → H q = none → H' q = some (.lst ys) → GoodB K H' ns ys b2 → szs b2 ≤ 140 → Q (.ref q) H'
local macro_rules | `(tactic| walk_at "fm.") => `(tactic| ((with_reducible refine FmAt.opEq (u := ?u) (v := ?v) ?h ?a ?b); (case h => walk_at "hp"); (case a => walk_at "fm"); (case b => walk_at "fm")))
local macro_rules | `(tactic| walk_at "fm.") => `(tactic| ((with_reducible refine FmAt.opLt (u := ?u) (v := ?v) ?h ?a ?b); (case h => walk_at "hp"); (case a => walk_at "fm"); (case b => walk_at "fm")))
local macro_rules | `(tactic| walk_at "fm.") => `(tactic| ((with_reducible refine FmAt.opDiv (u := ?u) (v := ?v) ?h ?a ?b); (case h => walk_at "hp"); (case a => walk_at "fm"); (case b => walk_at "fm")))
local macro_rules | `(tactic| walk_at "fm.") => `(tactic| ((with_reducible refine FmAt.opAdd (u := ?u) (v := ?v) ?h ?a ?b); (case h => walk_at "hp"); (case a => walk_at "fm"); (case b => walk_at "fm")))
local macro_rules | `(tactic| walk_at "fm.") => `(tactic| ((with_reducible refine FmAt.num ?h); (case h => walk_at "hp")))
local macro_rules | `(tactic| walk_at "fm.") => `(tactic| ((with_reducible refine FmAt.nam ?h); (case h => walk_at "hp")))
local macro_rules | `(tactic| walk_at "fm.") => `(tactic| ((with_reducible refine FmAt.mono (H := ?M) ?e ?h); (case h => with_reducible assumption); (case e => walk_at "ss")))
local macro_rules | `(tactic| walk_at "fm.") => `(tactic| with_reducible assumption)
local macro_rules | `(tactic| walk_at "fm") => `(tactic| first | walk_at "fm." | fail)
local macro_rules | `(tactic| walk_at "rw.") => `(tactic| ((with_reducible refine RwAt.whl (p := ?pp) (u := ?u) (xs := ?xs) ?h ?f ?p ?b); (case h => walk_at "hp"); (case f => walk_at "fm"); (case p => walk_at "hp"); (case b => walk_at "rw")))
local macro_rules | `(tactic| walk_at "rw.") => `(tactic| ((with_reducible refine RwAt.ite (p := ?pp) (q := ?qq) (u := ?u) (xs := ?xs) (ys := ?ys) ?h ?f ?p ?b ?q ?c); (case h => walk_at "hp"); (case f => walk_at "fm"); (case p => walk_at "hp"); (case b => walk_at "rw"); (case q => walk_at "hp"); (case c => walk_at "rw")))
local macro_rules | `(tactic| walk_at "rw.") => `(tactic| ((with_reducible refine RwAt.skip ?h); (case h => walk_at "hp")))
local macro_rules | `(tactic| walk_at "rw.") => `(tactic| ((with_reducible refine RwAt.tell (u := ?u) ?h ?f); (case h => walk_at "hp"); (case f => walk_at "fm")))
local macro_rules | `(tactic| walk_at "rw.") => `(tactic| ((with_reducible refine RwAt.set (u := ?u) ?h ?f); (case h => walk_at "hp"); (case f => walk_at "fm")))
local macro_rules | `(tactic| walk_at "rw.") => `(tactic| ((with_reducible refine BkAt.cons ?h ?t); (case h => walk_at "rw"); (case t => walk_at "rw")))
local macro_rules | `(tactic| walk_at "rw.") => `(tactic| with_reducible exact BkAt.nil)
local macro_rules | `(tactic| walk_at "rw.") => `(tactic| ((with_reducible refine BkAt.monoS (H := ?M) ?e ?h); (case h => with_reducible assumption); (case e => walk_at "ss")))
local macro_rules | `(tactic| walk_at "rw.") => `(tactic| ((with_reducible refine RwAt.monoS (H := ?M) ?e ?h); (case h => with_reducible assumption); (case e => walk_at "ss")))
local macro_rules | `(tactic| walk_at "rw.") => `(tactic| with_reducible assumption)
local macro_rules | `(tactic| walk_at "rw") => `(tactic| first | walk_at "rw." | fail)
local macro_rules | `(tactic| walk_at "fn.") => `(tactic| ((with_reducible refine fine_op ?a ?b ?c ?d); (case a => walk_at "fn"); (case b => walk_at "fn"); (case c => (first | omega | (simp only [Fm.depth]; omega) | (simp only [Fm.depth]; decide))); (case d => (first | omega | (simp only [Fm.depth]; omega) | (simp only [Fm.depth]; decide)))))
local macro_rules | `(tactic| walk_at "fn.") => `(tactic| exact fine_num (by omega) (by omega))
local macro_rules | `(tactic| walk_at "fn.") => `(tactic| exact fine_num (by decide) (by decide))
local macro_rules | `(tactic| walk_at "fn.") => `(tactic| ((with_reducible refine fine_nam ?h); (case h => with_reducible assumption)))
local macro_rules | `(tactic| walk_at "fn.") => `(tactic| with_reducible assumption)
local macro_rules | `(tactic| walk_at "fn") => `(tactic| first | walk_at "fn." | fail)
abbrev N_law_leaking : List Str := ["_law_names_here", "_law_way", "_law_dark", "_law_cell", "_law_low", "_law_one", "_law_more_here", "_law_inner"]
noncomputable def t_law_leaking_j1 (K : PySem.W.Frag) : TS :=
  (tRet (tTup (tCons (tC (.str "if")) (tCons (tVar 5) (tCons (tOp (rIx K) (tLst (tCons (tTup (tCons (tVar 7) tNil)) (tCons (tTup tNil) tNil))) (tOp rMod (tOp rDiv (tVar 3) (tC (.int 150))) (tC (.int 2)))) (tCons (tOp (rIx K) (tLst (tCons (tTup (tCons (tVar 7) tNil)) (tCons (tTup tNil) tNil))) (tOp rSub (tC (.int 1)) (tOp rMod (tOp rDiv (tVar 3) (tC (.int 150))) (tC (.int 2))))) tNil))))))
noncomputable def t_law_leaking_j2 (K : PySem.W.Frag) : TS :=
  (tSeq (tIfS (tTest (tOp (rEq2 K) (tVar 1) (tC (.int 7)))) (tAsg (tTup (tCons (tC (.str "set")) (tCons (tOp (rIx K) (tVar 0) (tOp (rAdd K) (tC (.int 5)) (tOp rMod (tOp rDiv (tVar 3) (tC (.int 15))) (tC (.int 5))))) (tCons (tTup (tCons (tC (.str "/")) (tCons (tTup (tCons (tC (.str "name")) (tCons (tVar 4) tNil))) (tCons (tTup (tCons (tC (.str "number")) (tCons (tOp rMod (tOp rDiv (tVar 3) (tC (.int 75))) (tC (.int 2))) tNil))) tNil)))) tNil)))) (gName 7)) tNext) (t_law_leaking_j1 K))
noncomputable def t_law_leaking (K : PySem.W.Frag) : TS :=
  (tSeq (tAsg (tOp (rIx K) (tVar 0) (tOp rMod (tVar 3) (tC (.int 5)))) (gName 4)) (tSeq (tAsg (tOp (rIx K) (tLst (tCons (tTup (tCons (tC (.str "name")) (tCons (tVar 2) tNil))) (tCons (tTup (tCons (tC (.str "+")) (tCons (tTup (tCons (tC (.str "name")) (tCons (tVar 4) tNil))) (tCons (tTup (tCons (tC (.str "name")) (tCons (tVar 2) tNil))) tNil)))) (tCons (tTup (tCons (tC (.str "<")) (tCons (tTup (tCons (tC (.str "name")) (tCons (tVar 2) tNil))) (tCons (tTup (tCons (tC (.str "number")) (tCons (tC (.int 2)) tNil))) tNil)))) tNil)))) (tOp rMod (tOp rDiv (tVar 3) (tC (.int 5))) (tC (.int 3)))) (gName 5)) (tSeq (tAsg (tTup (tCons (tC (.str "set")) (tCons (tVar 4) (tCons (tTup (tCons (tC (.str "+")) (tCons (tTup (tCons (tC (.str "name")) (tCons (tVar 4) tNil))) (tCons (tTup (tCons (tC (.str "number")) (tCons (tC (.int 1)) tNil))) tNil)))) tNil)))) (gName 6)) (tSeq (tIfS (tTest (tOp (rEq2 K) (tVar 1) (tC (.int 0)))) (tRet (tTup (tCons (tC (.str "set")) (tCons (tOp (rIx K) (tVar 0) (tOp rMod (tOp rDiv (tVar 3) (tC (.int 15))) (tC (.int 5)))) (tCons (tVar 5) tNil))))) tNext) (tSeq (tIfS (tTest (tOp (rEq2 K) (tVar 1) (tC (.int 1)))) (tRet (tTup (tCons (tC (.str "tell")) (tCons (tVar 5) tNil)))) tNext) (tSeq (tIfS (tTest (tOp (rEq2 K) (tVar 1) (tC (.int 2)))) (tRet (tTup (tCons (tC (.str "while")) (tCons (tTup (tCons (tC (.str "<")) (tCons (tTup (tCons (tC (.str "name")) (tCons (tVar 2) tNil))) (tCons (tTup (tCons (tC (.str "number")) (tCons (tC (.int 3)) tNil))) tNil)))) (tCons (tTup (tCons (tTup (tCons (tC (.str "set")) (tCons (tVar 2) (tCons (tTup (tCons (tC (.str "+")) (tCons (tTup (tCons (tC (.str "name")) (tCons (tVar 2) tNil))) (tCons (tTup (tCons (tC (.str "number")) (tCons (tC (.int 1)) tNil))) tNil)))) tNil)))) tNil)) tNil))))) tNext) (tSeq (tIfS (tTest (tOp (rEq2 K) (tVar 1) (tC (.int 3)))) (tRet (tTup (tCons (tC (.str "set")) (tCons (tOp (rIx K) (tVar 0) (tOp (rAdd K) (tC (.int 5)) (tOp rMod (tOp rDiv (tVar 3) (tC (.int 15))) (tC (.int 5))))) (tCons (tTup (tCons (tC (.str "/")) (tCons (tTup (tCons (tC (.str "number")) (tCons (tC (.int 7)) tNil))) (tCons (tVar 5) tNil)))) tNil))))) tNext) (tSeq (tAsg (tOp (rIx K) (tLst (tCons (tTup (tCons (tC (.str "set")) (tCons (tOp (rIx K) (tVar 0) (tOp rMod (tOp rDiv (tVar 3) (tC (.int 15))) (tC (.int 5)))) (tCons (tTup (tCons (tC (.str "+")) (tCons (tTup (tCons (tC (.str "name")) (tCons (tVar 4) tNil))) (tCons (tTup (tCons (tC (.str "number")) (tCons (tC (.int 1)) tNil))) tNil)))) tNil)))) (tCons (tTup (tCons (tC (.str "tell")) (tCons (tTup (tCons (tC (.str "name")) (tCons (tVar 4) tNil))) tNil))) tNil))) (tOp rMod (tVar 1) (tC (.int 2)))) (gName 7)) (tSeq (tIfS (tTest (tOp (rEq2 K) (tVar 1) (tC (.int 6)))) (tAsg (tTup (tCons (tC (.str "while")) (tCons (tTup (tCons (tC (.str "<")) (tCons (tTup (tCons (tC (.str "name")) (tCons (tVar 4) tNil))) (tCons (tTup (tCons (tC (.str "number")) (tCons (tC (.int 3)) tNil))) tNil)))) (tCons (tTup (tCons (tVar 6) tNil)) tNil)))) (gName 7)) tNext) (t_law_leaking_j2 K))))))))))
abbrev N_law_with_leak : List Str := ["_law_names_here", "_law_block", "_law_cell", "_law_dark", "_law_rows", "_law_leak", "_law_at"]
noncomputable def t_law_with_leak_j1 (K : PySem.W.Frag) : TS :=
  (tRet (tOp (rAdd K) (tOp (rAdd K) (tOp (rAdd K) (tSl (rSl K) (tVar 1) tNoPart (tPart (tVar 6))) (tVar 4)) (tLst (tCons (tVar 5) tNil))) (tSl (rSl K) (tVar 1) (tPart (tVar 6)) tNoPart)))
noncomputable def t_law_with_leak_j2 (K : PySem.W.Frag) : TS :=
  (tSeq (tAsg (tOp rMod (tOp rDiv (tVar 2) (tC (.int 1500))) (tOp (rAdd K) (tCB (rLenA K) (tCons (tVar 1) tNil)) (tC (.int 1)))) (gName 6)) (tSeq (tIfS (tTest (tOp rGt (tOp rMod (tOp rDiv (tVar 2) (tC (.int 500))) (tC (.int 3))) (tC (.int 0)))) (tAsg (tC (.int 0)) (gName 6)) tNext) (t_law_with_leak_j1 K)))
noncomputable def t_law_with_leak_j3 (K : PySem.W.Frag) : TS :=
  (tSeq (tAsg (tF (sp_law_leaking K) (tCons (tVar 0) (tCons (tOp rMod (tOp rDiv (tVar 2) (tC (.int 3))) (tC (.int 8))) (tCons (tVar 3) (tCons (tF (sp_law_mixed K) (tCons (tVar 2) tNil)) tNil))))) (gName 5)) (tSeq (tIfS (tOr (tTest (tOp (rEq2 K) (tOp rMod (tOp rDiv (tVar 2) (tC (.int 500))) (tC (.int 3))) (tC (.int 1)))) (tTest (tOp (rEq2 K) (tOp rMod (tOp rDiv (tVar 2) (tC (.int 500))) (tC (.int 6))) (tC (.int 2))))) (tAsg (tTup (tCons (tC (.str "if")) (tCons (tTup (tCons (tC (.str "=")) (tCons (tTup (tCons (tC (.str "name")) (tCons (tOp (rIx K) (tVar 0) (tC (.int 0))) tNil))) (tCons (tTup (tCons (tC (.str "name")) (tCons (tOp (rIx K) (tVar 0) (tC (.int 0))) tNil))) tNil)))) (tCons (tTup (tCons (tVar 5) tNil)) (tCons (tTup (tCons (tTup (tCons (tC (.str "skip")) tNil)) tNil)) tNil))))) (gName 5)) tNext) (t_law_with_leak_j2 K)))
noncomputable def t_law_with_leak (K : PySem.W.Frag) : TS :=
  (tSeq (tAsg (tOp (rIx K) (tVar 0) (tOp (rAdd K) (tC (.int 5)) (tOp rMod (tOp rDiv (tVar 2) (tC (.int 24))) (tC (.int 5))))) (gName 3)) (tSeq (tAsg (tLst tNil) (gName 4)) (tSeq (tIfS (tTest (tOp (rEq2 K) (tOp rMod (tVar 2) (tC (.int 3))) (tC (.int 1)))) (tSeq (tDrop (tBM K "list" rAppend (tVar 4) (tCons (tTup (tCons (tC (.str "set")) (tCons (tOp (rIx K) (tVar 0) (tOp (rAdd K) (tC (.int 5)) (tOp rMod (tOp rDiv (tVar 2) (tC (.int 120))) (tC (.int 5))))) (tCons (tTup (tCons (tC (.str "+")) (tCons (tTup (tCons (tC (.str "name")) (tCons (tVar 3) tNil))) (tCons (tTup (tCons (tC (.str "number")) (tCons (tC (.int 1)) tNil))) tNil)))) tNil)))) tNil))) (tAsg (tOp (rIx K) (tVar 0) (tOp (rAdd K) (tC (.int 5)) (tOp rMod (tOp rDiv (tVar 2) (tC (.int 120))) (tC (.int 5))))) (gName 3))) tNext) (t_law_with_leak_j3 K))))
abbrev N_law_drawn : List Str := ["_law_script", "_law_low", "_law_high", "_law_names_here", "_law_cell", "_law_block", "_law_more_here"]
noncomputable def t_law_drawn_j1 (K : PySem.W.Frag) : TS :=
  (tRet (tVar 5))
noncomputable def t_law_drawn (K : PySem.W.Frag) : TS :=
  (tSeq (tAsg (tF (sp_law_cell_at K) (tCons (tVar 0) (tCons (tC (.int 2)) tNil))) (gName 4)) (tSeq (tAsg (tF (sp_law_block_by K) (tCons (tSl (rSl K) (tVar 0) (tPart (tVar 1)) (tPart (tVar 2))) (tCons (tVar 3) (tCons (tCB rInt (tCons (tOp (rEq2 K) (tOp rMod (tVar 4) (tC (.int 4))) (tC (.int 3))) tNil)) tNil)))) (gName 5)) (tSeq (tIfS (tOr (tTest (tOp (rEq2 K) (tOp rMod (tVar 4) (tC (.int 4))) (tC (.int 1)))) (tTest (tOp (rEq2 K) (tOp rMod (tVar 4) (tC (.int 4))) (tC (.int 2))))) (tSeq (tAsg (tOp (rAdd K) (tOp (rAdd K) (tOp rDiv (tVar 4) (tC (.int 4))) (tOp rMul (tC (.int 1009)) (tOp rMod (tF (sp_law_cell_at K) (tCons (tVar 0) (tCons (tC (.int 0)) tNil))) (tOp rPow (tC (.int 10)) (tC (.int 6)))))) (tOp rMul (tC (.int 31)) (tOp rMod (tF (sp_law_cell_at K) (tCons (tVar 0) (tCons (tC (.int 1)) tNil))) (tOp rPow (tC (.int 10)) (tC (.int 6)))))) (gName 6)) (tRet (tF (sp_law_with_leak K) (tCons (tVar 3) (tCons (tVar 5) (tCons (tF (sp_law_mixed K) (tCons (tF (sp_law_mixed K) (tCons (tVar 6) tNil)) tNil)) tNil)))))) tNext) (t_law_drawn_j1 K))))
theorem pure_law_leaking (K : PySem.W.Frag) (vs : List V) (H : Hp) (Q : VK) (E : XK) (h : sp_law_leaking K vs H Q E) :
    t_law_leaking K { nx := fun _ H' => Q .non H', rt := Q } (start N_law_leaking vs) H := by
  obtain ⟨a, ns, w, c, d, rfl, hA, hT, w0, w8, hd, q⟩ := h
  have m5 := mod_in c (show (0 : Int) < 5 by decide)
  have m3 := mod_in (c / 5) (show (0 : Int) < 3 by decide)
  have m15 := mod_in (c / 15) (show (0 : Int) < 5 by decide)
  have m75 := mod_in (c / 75) (show (0 : Int) < 2 by decide)
  have m150 := mod_in (c / 150) (show (0 : Int) < 2 by decide)
  have mw := mod_in w (show (0 : Int) < 2 by decide)
  obtain ⟨lo, hlo, lom⟩ := ten_at hT m5.1 (by omega)
  obtain ⟨x1, hx1, x1m⟩ := ten_at hT m15.1 (by omega)
  obtain ⟨x2, hx2, x2m⟩ := ten_at hT (show 0 ≤ 5 + c / 15 % 5 by omega) (by omega)
  unfold t_law_leaking
  walk_at "gx"
  refine w_ixL hA hlo ?_
  walk_at "gx"
  rename_i p1 H1 n1 e1 hp1 p2 H2 n2 e2 hp2 p3 H3 n3 e3 hp3 p4 H4 n4 e4 hp4 p5 H5 n5 e5 hp5 p6 H6 n6 e6 hp6 p7 H7 n7 e7 hp7 p8 H8 n8 e8 hp8
  obtain ⟨u, f, hu, hf, fo, fd⟩ : ∃ u f, atI [V.ref p1, .ref p4, .ref p7] (c / 5 % 3) = some u ∧ FmAt K H8 u f ∧ f.fine ns ∧ f.depth ≤ 2 := by
    rcases pick3 (x := V.ref p1) (y := .ref p4) (z := .ref p7) m3.1 m3.2 with h | h | h
    · exact ⟨_, .nam d, h, by walk_at "fm", by walk_at "fn", by show 1 ≤ 2; decide⟩
    · exact ⟨_, .op .add (.nam lo) (.nam d), h, by walk_at "fm", by walk_at "fn", by show max 1 1 + 1 ≤ 2; decide⟩
    · exact ⟨_, .op .lt (.nam d) (.num 2), h, by walk_at "fm", by walk_at "fn", by show max 1 1 + 1 ≤ 2; decide⟩
  have e08 : Same H H8 := by walk_at "ss"
  refine w_ixL (SqL.of hp8) hu ?_
  clear hp1 hp2 hp3 hp4 hp5 hp6 hp7 hp8 e1 e2 e3 e4 e5 e6 e7 e8
  walk_at "gx"
  rename_i p9 H9 n9 e9 hp9 p10 H10 n10 e10 hp10 p11 H11 n11 e11 hp11 p12 H12 n12 e12 hp12
  have hmore : RwAt K (SqT K) H12 (.ref p12) (.set lo (.op .add (.nam lo) (.num 1))) := by walk_at "rw"
  have hA12 : SqL K H12 a (ns.map V.str) := by walk_at "hp"
  refine w_two (fun c0 => ?_) (fun c0 => ?_)
  · walk_at "gx"
    refine w_ixL hA12 hx1 ?_
    walk_at "gx"
    exact q _ _ (.set x1 f) (by walk_at "ss") (by walk_at "rw") ⟨x1m, fo⟩ (by show 1 ≤ 3; decide) (by show 1 ≤ 4; decide)
  walk_at "gx"
  refine w_two (fun c1 => ?_) (fun c1 => ?_)
  · walk_at "gx"
    exact q _ _ (.tell f) (by walk_at "ss") (by walk_at "rw") fo (by show 1 ≤ 3; decide) (by show 1 ≤ 4; decide)
  walk_at "gx"
  refine w_two (fun c2 => ?_) (fun c2 => ?_)
  · walk_at "gx"
    exact q _ _ (.whl (.op .lt (.nam d) (.num 3)) [.set d (.op .add (.nam d) (.num 1))]) (by walk_at "ss") (by walk_at "rw") ⟨by walk_at "fn", oks_one ⟨hd, by walk_at "fn"⟩⟩ (by show 1 + max 1 0 ≤ 3; decide) (by show 1 + (1 + 0) ≤ 4; decide)
  walk_at "gx"
  refine w_two (fun c3 => ?_) (fun c3 => ?_)
  · walk_at "gx"
    refine w_ixL hA12 hx2 ?_
    walk_at "gx"
    exact q _ _ (.set x2 (.op .div (.num 7) f)) (by walk_at "ss") (by walk_at "rw") ⟨x2m, by walk_at "fn"⟩ (by show 1 ≤ 3; decide) (by show 1 ≤ 4; decide)
  walk_at "gx"
  refine w_ixL hA12 hx1 ?_
  walk_at "gx"
  rename_i q1 G1 o1 g1 hq1 q2 G2 o2 g2 hq2 q3 G3 o3 g3 hq3 q4 G4 o4 g4 hq4 q5 G5 o5 g5 hq5 q6 G6 o6 g6 hq6 q7 G7 o7 g7 hq7
  -- the end: an if around an inner row
  have fin : ∀ (G : Hp) (v : V) (r : Rw), Same H8 G → RwAt K (SqT K) G v r → r.ok ns → r.nest ≤ 2 → r.size ≤ 3 → t_law_leaking_j1 K { nx := fun _ H' => Q .non H', rt := Q } [some (.ref a), some (.int w), some (.str d), some (.int c), some (.str lo), some u, some (.ref p12), some v] G := by
    intro G v r eG hr ro rn rs
    unfold t_law_leaking_j1
    have hfG := hf.mono eG
    have e0G := e08.trans eG
    clear e08 hq1 hq2 hq3 hq4 hq5 hq6 hq7 g1 g2 g3 g4 g5 g6 g7 hp9 hp10 hp11 hp12 e9 e10 e11 e12 hmore hA12 hA hf eG
    walk_at "gx"
    rename_i s1 F1 u1 f1 hs1 s2 F2 u2 f2 hs2 s3 F3 u3 f3 hs3
    rcases pick2 (x := V.ref s1) (y := .ref s2) m150.1 m150.2 with ⟨z, hz⟩ | ⟨z, hz⟩
    · refine w_ixL (SqL.of hs3) hz ?_
      walk_at "gx"
      rename_i s4 F4 u4 f4 hs4 s5 F5 u5 f5 hs5 s6 F6 u6 f6 hs6
      refine w_ixL (SqL.of hs6) (by rw [z]; exact atI_nat (j := 1) rfl) ?_
      walk_at "gx"
      refine q _ _ (.ite f [r] []) (by walk_at "ss") (by walk_at "rw") ⟨fo, oks_one ro, trivial⟩ ?_ ?_
      · show 1 + max (max r.nest 0) 0 ≤ 3
        omega
      · show 1 + ((r.size + 0) + 0) ≤ 4
        omega
    · refine w_ixL (SqL.of hs3) hz ?_
      walk_at "gx"
      rename_i s4 F4 u4 f4 hs4 s5 F5 u5 f5 hs5 s6 F6 u6 f6 hs6
      refine w_ixL (SqL.of hs6) (by rw [z]; exact atI_nat (j := 0) rfl) ?_
      walk_at "gx"
      refine q _ _ (.ite f [] [r]) (by walk_at "ss") (by walk_at "rw") ⟨fo, trivial, oks_one ro⟩ ?_ ?_
      · show 1 + max 0 (max r.nest 0) ≤ 3
        omega
      · show 1 + (0 + (r.size + 0)) ≤ 4
        omega
  have hA7 : SqL K G7 a (ns.map V.str) := by walk_at "hp"
  have hmore7 := hmore.monoS (show Same H12 G7 by walk_at "ss")
  obtain ⟨v, r, hv, hr, ro, rn, rs⟩ : ∃ v r, atI [V.ref q4, .ref q6] (w % 2) = some v ∧ RwAt K (SqT K) G7 v r ∧ r.ok ns ∧ r.nest ≤ 2 ∧ r.size ≤ 3 := by
    rcases pick2 (x := V.ref q4) (y := .ref q6) mw.1 mw.2 with ⟨_, h⟩ | ⟨_, h⟩
    · exact ⟨_, .set x1 (.op .add (.nam lo) (.num 1)), h, by walk_at "rw", ⟨x1m, by walk_at "fn"⟩, by show 1 ≤ 2; decide, by show 1 ≤ 3; decide⟩
    · exact ⟨_, .tell (.nam lo), h, by walk_at "rw", by show Fm.fine _ _; walk_at "fn", by show 1 ≤ 2; decide, by show 1 ≤ 3; decide⟩
  have e8G : Same H8 G7 := by walk_at "ss"
  refine w_ixL (SqL.of hq7) hv ?_
  clear hq1 hq2 hq3 hq4 hq5 hq6 hq7 g1 g2 g3 g4 g5 g6 g7 hp9 hp10 hp11 hp12 e9 e10 e11 e12 hmore hA12 hA hf e08
  walk_at "gx"
  -- the last choice
  have j2 : ∀ (G : Hp) (v : V) (r : Rw), Same G7 G → RwAt K (SqT K) G v r → r.ok ns → r.nest ≤ 2 → r.size ≤ 3 → t_law_leaking_j2 K { nx := fun _ H' => Q .non H', rt := Q } [some (.ref a), some (.int w), some (.str d), some (.int c), some (.str lo), some u, some (.ref p12), some v] G := by
    intro G v r eG hr ro rn rs
    unfold t_law_leaking_j2
    have hAG := same_l eG hA7
    have e8 := e8G.trans eG
    walk_at "gx"
    refine w_two (fun c7 => ?_) (fun c7 => ?_)
    · walk_at "gx"
      refine w_ixL hAG hx2 ?_
      walk_at "gx"
      refine fin _ _ (.set x2 (.op .div (.nam lo) (.num (c / 75 % 2)))) (by walk_at "ss") (by walk_at "rw") ⟨x2m, by walk_at "fn"⟩ (by show 1 ≤ 2; decide) (by show 1 ≤ 3; decide)
    · walk_at "gx"
      exact fin G v r e8 hr ro rn rs
  refine w_two (fun c6 => ?_) (fun c6 => ?_)
  · walk_at "gx"
    exact j2 _ _ (.whl (.op .lt (.nam lo) (.num 3)) [.set lo (.op .add (.nam lo) (.num 1))]) (by walk_at "ss") (by walk_at "rw") ⟨by walk_at "fn", oks_one ⟨lom, by walk_at "fn"⟩⟩ (by show 1 + max 1 0 ≤ 2; decide) (by show 1 + (1 + 0) ≤ 3; decide)
  · walk_at "gx"
    exact j2 G7 v r (Same.refl _) hr ro rn rs
theorem pure_law_with_leak (K : PySem.W.Frag) (vs : List V) (H : Hp) (Q : VK) (E : XK) (h : sp_law_with_leak K vs H Q E) :
    t_law_with_leak K { nx := fun _ H' => Q .non H', rt := Q } (start N_law_with_leak vs) H := by
  obtain ⟨a, p, ns, c, xs, b, rfl, hA, hT, hp, hG, hz, q⟩ := h
  have m24 := mod_in (c / 24) (show (0 : Int) < 5 by decide)
  have m120 := mod_in (c / 120) (show (0 : Int) < 5 by decide)
  have m8 := mod_in (c / 3) (show (0 : Int) < 8 by decide)
  obtain ⟨d1, hd1, d1m⟩ := ten_at hT (show 0 ≤ 5 + c / 24 % 5 by omega) (by omega)
  obtain ⟨d2, hd2, d2m⟩ := ten_at hT (show 0 ≤ 5 + c / 120 % 5 by omega) (by omega)
  obtain ⟨n0, hn0, n0m⟩ := ten_at hT (show (0 : Int) ≤ 0 by decide) (by decide)
  have xl := hG.at_.len
  have bl := szs_len b
  unfold t_law_with_leak
  walk_at "gx"
  refine w_ixL hA hd1 ?_
  walk_at "gx"
  rename_i p4 H1 n1 e1 hp4
  have j3 : ∀ (H2 : Hp) (d : Str) (rs : List V) (br : List Rw) (w5 w6 : Option V), Same H H2 → H2 p4 = some (.lst rs) → BkAt K (SqT K) H2 rs br → oks ns br → nests br ≤ 1 → szs br ≤ 1 → d ∈ ns →
      t_law_with_leak_j3 K { nx := fun _ H' => Q .non H', rt := Q } [some (.ref a), some (.ref p), some (.int c), some (.str d), some (.ref p4), w5, w6] H2 := by
    intro H2 d rs br w5 w6 e2 h4 hbr obr nbr zbr dm
    have hA2 := same_l e2 hA
    have hp2 := e2 _ _ hp
    have hG2 := hG.at_.monoS e2
    have rl := hbr.len
    have rl2 := szs_len br
    unfold t_law_with_leak_j3
    walk_at "gx"
    refine ⟨_, rfl, fun r5 _ _ => ?_⟩
    walk_at "gx"
    refine ⟨a, ns, _, _, d, rfl, hA2, hT, m8.1, m8.2, dm, fun v H3 r e3 hr ro rn rs2 => ?_⟩
    have j2 : ∀ (H4 : Hp) (v : V) (r : Rw), Same H2 H4 → RwAt K (SqT K) H4 v r → r.ok ns → r.nest ≤ 4 → r.size ≤ 6 → t_law_with_leak_j2 K { nx := fun _ H' => Q .non H', rt := Q } [some (.ref a), some (.ref p), some (.int c), some (.str d), some (.ref p4), some v, w6] H4 := by
      intro H4 v r e4 hr ro rn rz
      have e04 := e2.trans e4
      have hp4' := e4 _ _ hp2
      have h44 := e4 _ _ h4
      have hbr4 := hbr.monoS e4
      have hb4 := hG2.monoS e4
      clear e1 hp4 e2 hA2 hp2 hG2 h4 hbr hA hp e3 e4
      have j1 : ∀ i : Int, 0 ≤ i → t_law_with_leak_j1 K { nx := fun _ H' => Q .non H', rt := Q } [some (.ref a), some (.ref p), some (.int c), some (.str d), some (.ref p4), some v, some (.int i)] H4 := by
        intro i i0
        obtain ⟨k, rfl⟩ := Int.eq_ofNat_of_zero_le i0
        unfold t_law_with_leak_j1
        walk_at "gx"
        refine w_slL' (SqL.of hp4') (fun s1 F1 u1 f1 hs1 => ?_)
        rw [cut_v] at hs1
        walk_at "gx"
        have tl : (xs.take k).length ≤ 200 := Nat.le_trans (List.length_take_le' _ _) (by omega)
        have dl : (xs.drop k).length ≤ 200 := by rw [List.length_drop]; omega
        refine w_addL' hs1 (f1 _ _ h44) (sz (by omega)) (fun s2 F2 u2 f2 hs2 => ?_)
        walk_at "gx"
        rename_i s3 F3 u3 f3 hs3
        refine w_addL' (f3 _ _ hs2) hs3 (sz (by rw [List.length_append]; simp only [List.length_singleton]; omega)) (fun s4 F4 u4 f4 hs4 => ?_)
        walk_at "gx"
        have hp5 : F4 p = some (.lst xs) := by walk_at "lk"
        refine w_slL' (SqL.of hp5) (fun s5 F5 u5 f5 hs5 => ?_)
        rw [cut_vh] at hs5
        refine w_addL' (f5 _ _ hs4) hs5 (sz (by rw [List.length_append, List.length_append]; simp only [List.length_singleton]; omega)) (fun s6 F6 u6 f6 hs6 => ?_)
        have e46 : Same H4 F6 := f1.trans (f2.trans (f3.trans (f4.trans (f5.trans f6))))
        have hb6 := hb4.monoS e46
        have td := szs_td b k
        have gn := hG.nest
        have t1 := nests_take b k
        have t2 := nests_drop b k
        walk_at "gx"
        refine q s6 F6 _ (b.take k ++ br ++ [r] ++ b.drop k) (e04.trans e46) (none_of (e04.trans (f1.trans (f2.trans (f3.trans (f4.trans f5))))) u6) hs6 ⟨(((hb6.take k).app (hbr4.monoS e46)).app (BkAt.one (hr.monoS e46))).app (hb6.drop k), oks_app (oks_app (oks_app (oks_take k hG.ok) obr) (oks_one ro)) (oks_drop k hG.ok), ?_⟩ ?_
        · rw [nests_app, nests_app, nests_app, show nests [r] = max r.nest 0 from rfl]
          omega
        · rw [szs_app, szs_app, szs_app, show szs [r] = r.size + 0 from rfl]
          omega
      unfold t_law_with_leak_j2
      walk_at "gx"
      have mm := mod_in (c / 1500) (show (0 : Int) < (xs.length : Nat) + 1 by omega)
      refine w_two (fun c1 => ?_) (fun c1 => ?_)
      · walk_at "gx"
        exact j1 0 (by decide)
      · walk_at "gx"
        exact j1 _ mm.1
    have fin : ∀ H', Same H2 H' → Same H3 H' → t_law_with_leak_j2 K { nx := fun _ H' => Q .non H', rt := Q } [some (.ref a), some (.ref p), some (.int c), some (.str d), some (.ref p4), some v, w6] H' := fun H' e' e3' => j2 H' v r e' (hr.monoS e3') ro (by omega) (by omega)
    have wrap : (tAsg (tTup (tCons (tC (.str "if")) (tCons (tTup (tCons (tC (.str "=")) (tCons (tTup (tCons (tC (.str "name")) (tCons (tOp (rIx K) (tVar 0) (tC (.int 0))) tNil))) (tCons (tTup (tCons (tC (.str "name")) (tCons (tOp (rIx K) (tVar 0) (tC (.int 0))) tNil))) tNil)))) (tCons (tTup (tCons (tVar 5) tNil)) (tCons (tTup (tCons (tTup (tCons (tC (.str "skip")) tNil)) tNil)) tNil))))) (gName 5)) { nx := t_law_with_leak_j2 K { nx := fun _ H' => Q .non H', rt := Q }, rt := Q } [some (.ref a), some (.ref p), some (.int c), some (.str d), some (.ref p4), some v, w6] H3 := by
      have hA3 := same_l e3 hA2
      walk_at "gx"
      refine w_ixL hA3 hn0 ?_
      walk_at "gx"
      rename_i s1 F1 u1 f1 hs1
      refine w_ixL (same_l f1 hA3) hn0 ?_
      walk_at "gx"
      rename_i s2 F2 u2 f2 hs2 s3 F3 u3 f3 hs3 s4 F4 u4 f4 hs4 s5 F5 u5 f5 hs5 s6 F6 u6 f6 hs6 s7 F7 u7 f7 hs7
      exact j2 F7 (.ref s7) (.ite (.op .eq (.nam n0) (.nam n0)) [r] [.skip]) (by walk_at "ss") (by walk_at "rw") ⟨by walk_at "fn", oks_one ro, trivial, trivial⟩ (by show 1 + max (max r.nest 0) (max 1 0) ≤ 4; omega) (by show 1 + ((r.size + 0) + (1 + 0)) ≤ 6; omega)
    walk_at "gx"
    refine w_two (fun c1 => ?_) (fun c1 => ?_)
    · exact wrap
    · walk_at "gx"
      refine w_two (fun c2 => ?_) (fun c2 => ?_)
      · exact wrap
      · walk_at "gx"
        exact fin H3 e3 (Same.refl _)
  walk_at "gx"
  refine w_two (fun c1 => ?_) (fun c1 => ?_)
  · walk_at "gx"
    refine w_ixL (same_l e1 hA) hd2 ?_
    walk_at "gx"
    rename_i s1 F1 u1 f1 hs1 s2 F2 u2 f2 hs2 s3 F3 u3 f3 hs3 s4 F4 u4 f4 hs4
    have h44 : F4 p4 = some (.lst []) := by walk_at "lk"
    have e1F4 : Same H1 F4 := by walk_at "ss"
    have hrow : RwAt K (SqT K) F4 (.ref s4) (.set d2 (.op .add (.nam d1) (.num 1))) := by
      clear e1F4
      walk_at "rw"
    refine w_app' h44 (by decide) (fun F5 x5 t5 h45 => ?_)
    have e05 : Same H F5 := same_mutX (e1.trans e1F4) n1 x5
    walk_at "gx"
    refine w_ixL (same_l e05 hA) hd2 ?_
    walk_at "gx"
    exact j3 F5 d2 _ [.set d2 (.op .add (.nam d1) (.num 1))] _ _ e05 h45 (BkAt.one (hrow.monoT t5)) (oks_one ⟨d2m, by walk_at "fn"⟩) (by show max 1 0 ≤ 1; decide) (by show 1 + 0 ≤ 1; decide) d2m
  · walk_at "gx"
    exact j3 H1 d1 [] [] _ _ e1 hp4 .nil trivial (Nat.zero_le _) (Nat.zero_le _) d1m
theorem pure_law_drawn (K : PySem.W.Frag) (vs : List V) (H : Hp) (Q : VK) (E : XK) (h : sp_law_drawn K vs H Q E) :
    t_law_drawn K { nx := fun _ H' => Q .non H', rt := Q } (start N_law_drawn vs) H := by
  obtain ⟨a, n, cs, lo, hi, ns, rfl, hS, hcl, hA, hT, q⟩ := h
  unfold t_law_drawn
  walk_at "gx"
  refine ⟨a, cs, _, rfl, hS, by decide, fun i0 => ?_⟩
  walk_at "gx"
  refine w_slC' hS _ _ (fun pc H1 ds npc e1 hpc hds => ?_)
  walk_at "gx"
  refine ⟨pc, n, ds, ns, _, rfl, SqL.of hpc, Nat.le_trans hds.length_le hcl, same_l e1 hA, hT, fun pb H2 xs b e2 hpb hpb2 hG hz => ?_⟩
  have e02 := e1.trans e2
  have hS2 := same_l e02 hS
  have hA2 := same_l e02 hA
  have leak : (tSeq (tAsg (tOp (rAdd K) (tOp (rAdd K) (tOp rDiv (tVar 4) (tC (.int 4))) (tOp rMul (tC (.int 1009)) (tOp rMod (tF (sp_law_cell_at K) (tCons (tVar 0) (tCons (tC (.int 0)) tNil))) (tOp rPow (tC (.int 10)) (tC (.int 6)))))) (tOp rMul (tC (.int 31)) (tOp rMod (tF (sp_law_cell_at K) (tCons (tVar 0) (tCons (tC (.int 1)) tNil))) (tOp rPow (tC (.int 10)) (tC (.int 6)))))) (gName 6)) (tRet (tF (sp_law_with_leak K) (tCons (tVar 3) (tCons (tVar 5) (tCons (tF (sp_law_mixed K) (tCons (tF (sp_law_mixed K) (tCons (tVar 6) tNil)) tNil)) tNil)))))) { nx := t_law_drawn_j1 K { nx := fun _ H' => Q .non H', rt := Q }, rt := Q } [some (.ref a), some (.int lo), some (.int hi), some (.ref n), some (.int i0), some (.ref pb), none] H2 := by
    walk_at "gx"
    refine ⟨a, cs, _, rfl, hS2, by decide, fun i1 => ?_⟩
    walk_at "gx"
    refine w_pow ⟨by decide, by decide, by decide⟩ ?_
    walk_at "gx"
    refine w_mulI (.inl ⟨by decide, by decide⟩) ?_
    walk_at "gx"
    refine ⟨a, cs, _, rfl, hS2, by decide, fun i2 => ?_⟩
    walk_at "gx"
    refine w_pow ⟨by decide, by decide, by decide⟩ ?_
    walk_at "gx"
    refine w_mulI (.inl ⟨by decide, by decide⟩) ?_
    walk_at "gx"
    refine ⟨_, rfl, fun i3 _ _ => ?_⟩
    walk_at "gx"
    refine ⟨_, rfl, fun i4 _ _ => ?_⟩
    walk_at "gx"
    exact ⟨n, pb, ns, _, xs, b, rfl, hA2, hT, hpb2, hG, by omega, fun p5 H5 ys b2 e5 n5 h5 hG5 hz5 => q p5 H5 ys b2 (e02.trans e5) (none_of e02 n5) h5 hG5 (by omega)⟩
  walk_at "gx"
  refine w_two (fun c1 => ?_) (fun c1 => ?_)
  · exact leak
  · walk_at "gx"
    refine w_two (fun c2 => ?_) (fun c2 => ?_)
    · exact leak
    · walk_at "gx"
      unfold t_law_drawn_j1
      walk_at "gx"
      exact q pb H2 xs b e02 (none_of e1 hpb) hpb2 hG (by omega)
def sp_law_longer (K : PySem.W.Frag) : Sp := fun vs H Q _ => ∃ (a p : Addr) (ns : List Str) (c : Int) (xs : List V) (b : List Rw), vs = [.ref a, .ref p, .int c] ∧ SqL K H a (ns.map V.str) ∧ Ten ns ∧ H p = some (.lst xs) ∧ GoodB K H ns xs b ∧ szs b ≤ 200 ∧
  ∀ (q : Addr) (H' : Hp) (ys : List V) (b2 : List Rw), Same H H' → H q = none → H' q = some (.lst ys) → GoodB K H' (ns ++ zzs) ys b2 → szs b2 ≤ 300 → Q (.ref q) H'
noncomputable def sp_law_right (K : PySem.W.Frag) : Sp := fun vs H Q _ => ∃ (p r : Addr) (u v : V), vs = [.ref p, .ref r, u, v] ∧ ((u = .non ∧ v = .non ∧ ∀ H', Same H H' → Q (.bl true) H') ∨
  ∃ (t1 l t2 lp : Addr) (w z : Str) (k : Nat), u = .ref t1 ∧ v = .ref t2 ∧ SqT K H t1 [.str w, .ref l] ∧ SqT K H t2 [.int (k : Nat), .str w, .str z, .ref lp] ∧ sp_law_chained K [.ref p, .ref r, .ref l, .ref t2] H Q E0)
def sp_k10 (K : PySem.W.Frag) : Sp := fun vs H Q _ => ∃ (a : Addr) (ns : List Int), vs = [.ref a] ∧ SqL K H a (ns.map V.int) ∧ ns.length ≤ 63 ∧ ∀ H', Q (.bl true) H'
abbrev N_law_longer : List Str := ["_law_names_here", "_law_block", "_law_cell", "_law_many", "_law_rows", "_law_k", "_law_last", "_law_leaks_here"]
noncomputable def t_law_longer (K : PySem.W.Frag) : TS :=
  (tSeq (tAsg (tOp (rAdd K) (tC (.int 1)) (tOp rMod (tVar 2) (tC (.int 20)))) (gName 3)) (tSeq (tAsg (tF (sp_law_row_of_names K) (tCons (tVar 0) (tCons (tVar 3) (tCons (tOp (rAdd K) (tC (.int 1)) (tOp rMod (tOp rDiv (tVar 2) (tC (.int 20))) (tC (.int 60)))) tNil)))) (gName 4)) (tSeq (tFor (iRng1 (tCons (tOp rMod (tOp rDiv (tVar 2) (tC (.int 1200))) (tC (.int 7))) tNil)) (gName 5) (tSeq (tAsg (tF (sp_law_mixed K) (tCons (tVar 2) tNil)) (gName 2)) (tDrop (tBM K "list" rAppend (tVar 4) (tCons (tTup (tCons (tC (.str "set")) (tCons (tOp (rAdd K) (tC (.str "zz")) (tCB rStr (tCons (tOp rMod (tVar 2) (tVar 3)) tNil))) (tCons (tTup (tCons (tC (.str "name")) (tCons (tOp (rAdd K) (tC (.str "zz")) (tCB rStr (tCons (tOp rMod (tOp rDiv (tVar 2) (tC (.int 20))) (tVar 3)) tNil))) tNil))) tNil)))) tNil))))) (tSeq (tAsg (tOp (rAdd K) (tC (.str "zz")) (tCB rStr (tCons (tOp rMod (tOp rDiv (tVar 2) (tC (.int 400))) (tVar 3)) tNil))) (gName 6)) (tSeq (tAsg (tLst (tCons (tTup (tCons (tC (.str "tell")) (tCons (tTup (tCons (tC (.str "/")) (tCons (tTup (tCons (tC (.str "number")) (tCons (tC (.int 7)) tNil))) (tCons (tTup (tCons (tC (.str "name")) (tCons (tVar 6) tNil))) tNil)))) tNil))) (tCons (tTup (tCons (tC (.str "set")) (tCons (tOp (rIx K) (tVar 0) (tC (.int 0))) (tCons (tTup (tCons (tC (.str "name")) (tCons (tVar 6) tNil))) tNil)))) tNil))) (gName 7)) (tRet (tOp (rAdd K) (tOp (rAdd K) (tSl (rSl K) (tVar 1) tNoPart (tPart (tC (.int 6)))) (tVar 4)) (tSl (rSl K) (tVar 7) (tPart (tOp rMod (tVar 2) (tC (.int 2)))) tNoPart))))))))
abbrev N_law_right : List Str := ["_law_pairs", "_law_rows", "_law_told_here", "_law_leak"]
noncomputable def t_law_right_j1 (K : PySem.W.Frag) : TS :=
  (tRet (tF (sp_law_chained K) (tCons (tVar 0) (tCons (tVar 1) (tCons (tOp (rIx K) (tVar 2) (tC (.int 1))) (tCons (tVar 3) tNil))))))
noncomputable def t_law_right_j2 (K : PySem.W.Frag) : TS :=
  (tSeq (tIfS (tOr (tNot (tB (tCB (rIsi2 K) (tCons (tVar 2) (tCons (tC (.ty "tuple")) tNil))))) (tOr (tTest (tOp (rNe2 K) (tCB (rLenA K) (tCons (tVar 2) tNil)) (tC (.int 2)))) (tOr (tNot (tB (tCB (rIsi2 K) (tCons (tOp (rIx K) (tVar 2) (tC (.int 0))) (tCons (tC (.ty "str")) tNil))))) (tTest (tOp (rNe2 K) (tOp (rIx K) (tVar 2) (tC (.int 0))) (tOp (rIx K) (tVar 3) (tC (.int 1)))))))) (tRet (tC (.bl false))) tNext) (t_law_right_j1 K))
noncomputable def t_law_right (K : PySem.W.Frag) : TS :=
  (tSeq (tIfS (tOr (tTest (tOp (rIsN2 false) (tVar 3) (tC .non))) (tTest (tOp (rIsN2 false) (tVar 2) (tC .non)))) (tRet (tAndV (tOp (rIsN2 false) (tVar 3) (tC .non)) (tOp (rIsN2 false) (tVar 2) (tC .non)))) tNext) (t_law_right_j2 K))
abbrev N_k10 : List Str := ["_law_script", "_law_names_here", "_law_more_here", "_law_pairs", "_law_block", "_law_rows", "_law_program", "_law_leak", "_law_told_here"]
noncomputable def t_k10_j1 (K : PySem.W.Frag) : TS :=
  (tSeq (tIfS (tTest (tOp (rIsN2 true) (tF (sp_looked K) (tCons (tMk K "Program" as_Program (sp_Program___init__ K) (tCons (tLst (tCons (tOp (rIx K) (tVar 1) (tC (.int 0))) tNil)) (tCons (tLst tNil) (tCons (tTup (tCons (tTup (tCons (tC (.str "tell")) (tCons (tTup (tCons (tC (.str "name")) (tCons (tOp (rIx K) (tVar 1) (tC (.int 0))) tNil))) tNil))) tNil)) tNil)))) tNil)) (tC .non))) (tRet (tC (.bl false))) tNext) (tRet (tAndV (tF (sp_law_right K) (tCons (tVar 3) (tCons (tVar 5) (tCons (tF (sp_looked K) (tCons (tVar 6) tNil)) (tCons (tVar 7) tNil))))) (tOrV (tOp (rIsN2 false) (tVar 8) (tC .non)) (tOp (rEq2 K) (tOp (rIx K) (tOp (rIx K) (tVar 8) (tC (.int 1))) (tUn rNeg (tC (.int 1)))) (tC (.str "zz")))))))
noncomputable def t_k10_j2 (K : PySem.W.Frag) : TS :=
  (tSeq (tAsg (tF (sp_law_listed K 9) (tCons (tVar 4) (tCons (tLst tNil) (tCons (tLst tNil) tNil)))) (gName 5)) (tSeq (tAsg (tMk K "Program" as_Program (sp_Program___init__ K) (tCons (tOp (rIx K) (tVar 3) (tC (.int 0))) (tCons (tOp (rIx K) (tVar 3) (tC (.int 1))) (tCons (tCB (rTupO K) (tCons (tVar 4) tNil)) tNil)))) (gName 6)) (tSeq (tAsg (tF (sp_law_first K) (tCons (tVar 3) (tCons (tVar 5) (tCons (tF (sp_law_secret K) (tCons (tVar 3) (tCons (tVar 5) tNil))) tNil)))) (gName 7)) (tSeq (tAsg (tF (sp_looked K) (tCons (tVar 6) tNil)) (gName 8)) (tSeq (tIfS (tNot (tB (tF (sp_law_right K) (tCons (tVar 3) (tCons (tVar 5) (tCons (tVar 8) (tCons (tVar 7) tNil))))))) (tRet (tC (.bl false))) tNext) (tSeq (tIfS (tTest (tOp (rIsN2 true) (tVar 8) (tC .non))) (tDrop (tBM K "list" rAppend (tOp (rIx K) (tVar 8) (tC (.int 1))) (tCons (tC (.str "zz")) tNil))) tNext) (t_k10_j1 K)))))))
noncomputable def t_k10 (K : PySem.W.Frag) : TS :=
  (tSeq (tAsg (tF (sp_law_names K) (tCons (tF (sp_law_cell_at K) (tCons (tVar 0) (tCons (tC (.int 0)) tNil))) (tCons (tF (sp_law_cell_at K) (tCons (tVar 0) (tCons (tC (.int 1)) tNil))) tNil))) (gName 1)) (tSeq (tAsg (tF (sp_law_more K) (tCons (tVar 1) (tCons (tF (sp_law_mixed K) (tCons (tF (sp_law_cell_at K) (tCons (tVar 0) (tCons (tC (.int 1)) tNil))) tNil)) tNil))) (gName 2)) (tSeq (tAsg (tF (sp_law_told K) (tCons (tVar 1) (tCons (tVar 2) (tCons (tF (sp_law_mixed K) (tCons (tF (sp_law_cell_at K) (tCons (tVar 0) (tCons (tC (.int 0)) tNil))) tNil)) tNil)))) (gName 3)) (tSeq (tAsg (tF (sp_law_drawn K) (tCons (tVar 0) (tCons (tC (.int 3)) (tCons (tC (.int 53)) (tCons (tVar 1) tNil))))) (gName 4)) (tSeq (tIfS (tTest (tOp (rEq2 K) (tOp rMod (tOp rDiv (tF (sp_law_cell_at K) (tCons (tVar 0) (tCons (tC (.int 2)) tNil))) (tC (.int 4))) (tC (.int 4))) (tC (.int 1)))) (tAsg (tF (sp_law_longer K) (tCons (tVar 1) (tCons (tVar 4) (tCons (tF (sp_law_mixed K) (tCons (tF (sp_law_cell_at K) (tCons (tVar 0) (tCons (tC (.int 2)) tNil))) tNil)) tNil)))) (gName 4)) tNext) (t_k10_j2 K))))))
theorem hasS_congr1 {k1 k2 l : List Str} (h : ∀ z, z ∈ k1 ↔ z ∈ k2) : hasS k1 l = hasS k2 l := by
  rw [Bool.eq_iff_iff, hasS_iff, hasS_iff]
  exact ⟨fun ⟨s, h1, h2⟩ => ⟨s, h1, (h s).mp h2⟩, fun ⟨s, h1, h2⟩ => ⟨s, h1, (h s).mpr h2⟩⟩
theorem leakE_congr {os k1 k2 : List Str} (h : ∀ z, z ∈ k1 ↔ z ∈ k2) (e : Ent) : leakE os k1 e = leakE os k2 e := by
  unfold leakE
  cases e.2.1.fm with
  | none => rfl
  | some f =>
    show leakF os k1 e.2.1 f e.2.2 = leakF os k2 e.2.1 f e.2.2
    unfold leakF
    rw [hasS_congr1 h, hasS_congr1 h]
theorem first_split {α β : Type} (f : α → Option β) : ∀ es : List α, (∀ e ∈ es, f e = none) ∨ ∃ pre e post p, es = pre ++ e :: post ∧ (∀ e' ∈ pre, f e' = none) ∧ f e = some p
  | [] => .inl fun e h => nomatch h
  | e :: es => by
    cases h : f e with
    | some p => exact .inr ⟨[], e, es, p, rfl, (fun e h => nomatch h), h⟩
    | none =>
      rcases first_split f es with a | ⟨pre, e2, post, p, h1, h2, h3⟩
      · exact .inl fun e2 he => (List.mem_cons.mp he).elim (fun x => x ▸ h) (a e2)
      · exact .inr ⟨e :: pre, e2, post, p, by rw [h1] <;> rfl, fun e' he => (List.mem_cons.mp he).elim (fun x => x ▸ h) (h2 e'), h3⟩
theorem first_one {α β : Type} (f : α → Option β) : ∀ {pre pre' post post' : List α} {e e' : α}, pre ++ e :: post = pre' ++ e' :: post' → (∀ x ∈ pre, f x = none) → (∀ x ∈ pre', f x = none) → f e ≠ none → f e' ≠ none → pre = pre' ∧ e = e'
  | [], [], _, _, _, _, h, _, _, _, _ => ⟨rfl, (List.cons.inj h).1⟩
  | [], x :: r, _, _, e, e', h, _, h2, h3, _ => by
    have : e = x := (List.cons.inj h).1
    exact absurd (h2 x List.mem_cons_self) (this ▸ h3)
  | x :: r, [], _, _, e, e', h, h1, _, _, h4 => by
    have : x = e' := (List.cons.inj h).1
    exact absurd (h1 x List.mem_cons_self) (this ▸ h4)
  | x :: r, y :: t, _, _, _, _, h, h1, h2, h3, h4 => by
    obtain ⟨a, b⟩ := List.cons.inj (show x :: (r ++ _) = y :: (t ++ _) from h)
    obtain ⟨c, d⟩ := first_one f b (fun z hz => h1 z (List.mem_cons_of_mem _ hz)) (fun z hz => h2 z (List.mem_cons_of_mem _ hz)) h3 h4
    exact ⟨by rw [a, c], d⟩
theorem zz_at {i : Int} (h0 : 0 ≤ i) (h : i < 60) : ("zz" : Str).length + (Str.ofString (toString i)).length ≤ sizeLine ∧ ("zz" : Str) ++ (Str.ofString (toString i)) ∈ zzs := by
  obtain ⟨k, rfl⟩ := Int.eq_ofNat_of_zero_le h0
  exact ⟨(zz_len k (List.mem_range.mpr (by omega))).1, List.mem_map.mpr ⟨k, List.mem_range.mpr (by omega), rfl⟩⟩
theorem pure_law_longer (K : PySem.W.Frag) (vs : List V) (H : Hp) (Q : VK) (E : XK) (h : sp_law_longer K vs H Q E) :
    t_law_longer K { nx := fun _ H' => Q .non H', rt := Q } (start N_law_longer vs) H := by
  obtain ⟨a, p, ns, c, xs, b, rfl, hA, hT, hp, hG, hz, q⟩ := h
  have m20 := mod_in c (show (0 : Int) < 20 by decide)
  have m60 := mod_in (c / 20) (show (0 : Int) < 60 by decide)
  have m7 := mod_in (c / 1200) (show (0 : Int) < 7 by decide)
  obtain ⟨n0, hn0, n0m⟩ := ten_at hT (show (0 : Int) ≤ 0 by decide) (by decide)
  have xl := hG.at_.len
  have bl := szs_len b
  unfold t_law_longer
  walk_at "gx"
  refine ⟨a, ns, _, _, rfl, hA, hT, by omega, by omega, by omega, by omega, fun pr H1 rs br e1 npr hpr hbr obr nbr zbr => ?_⟩
  generalize hmn : 1 + c % 20 = mn at *
  have mn0 : 0 < mn := by omega
  have mn1 : mn ≤ 20 := by omega
  have rl0 := hbr.len
  have rl1 := szs_len br
  walk_at "gx"
  refine ⟨_, rfl, by omega, by omega, ?_⟩
  refine for_range (lo := 0) (n := (c / 1200 % 7).toNat) (fun i σ H' => Same H H' ∧ ∃ (c' : Int) (rs : List V) (br : List Rw) (w5 w6 w7 : Option V), σ = [some (.ref a), some (.ref p), some (.int c'), some (.int mn), some (.ref pr), w5, w6, w7] ∧ H' pr = some (.lst rs) ∧ BkAt K (SqT K) H' rs br ∧ oks (ns ++ zzs) br ∧ nests br ≤ 1 ∧ szs br ≤ 61 + i)
    ⟨e1, c, rs, br, _, _, _, rfl, hpr, hbr, obr, nbr, by omega⟩ ?_ ?_
  · rintro i σ H2 hi ⟨e2, c', rs, br, w5, w6, w7, rfl, hp2, hbr, obr, nbr, zbr⟩
    have rl := hbr.len
    have rl2 := szs_len br
    walk_at "gx"
    refine ⟨_, rfl, fun r5 r50 _ => ?_⟩
    have ma := mod_in r5 mn0
    have mb := mod_in (r5 / 20) mn0
    obtain ⟨la, za⟩ := zz_at ma.1 (by omega)
    obtain ⟨lb, zb⟩ := zz_at mb.1 (by omega)
    walk_at "gx"
    refine w_str (log_small (by omega) (by omega)) ?_
    walk_at "gx"
    refine w_str (log_small (by omega) (by omega)) ?_
    walk_at "gx"
    rename_i s1 F1 u1 f1 hs1 s2 F2 u2 f2 hs2
    have hrow : RwAt K (SqT K) F2 (.ref s2) (.set (("zz" : Str) ++ (Str.ofString (toString (r5 % mn)))) (.nam (("zz" : Str) ++ (Str.ofString (toString (r5 / 20 % mn)))))) := by walk_at "rw"
    have e22 := f1.trans f2
    refine w_app' (e22 _ _ hp2) (lt_line (by omega)) (fun F3 x3 t3 hp3 => ?_)
    refine ⟨same_mutX (e2.trans e22) npr x3, _, _, br ++ [_], _, _, _, rfl, hp3, ((hbr.monoS e22).app (BkAt.one hrow)).monoT t3, oks_app obr (oks_one ⟨List.mem_append_right _ za, fine_nam (List.mem_append_right _ zb)⟩), ?_, ?_⟩
    · rw [nests_app]
      exact Nat.max_le.mpr ⟨nbr, show max 1 0 ≤ 1 from by decide⟩
    · rw [szs_app]
      show szs br + (1 + 0) ≤ _
      omega
  · rintro σ H2 ⟨e2, c', rs, br, w5, w6, w7, rfl, hp2, hbr, obr, nbr, zbr⟩
    have rl := hbr.len
    have rl2 := szs_len br
    have ma := mod_in (c' / 400) mn0
    obtain ⟨la, za⟩ := zz_at ma.1 (by omega)
    have m2 := mod_in c' (show (0 : Int) < 2 by decide)
    have hA2 := same_l e2 hA
    walk_at "gx"
    refine w_str (log_small (by omega) (by omega)) ?_
    walk_at "gx"
    rename_i s1 F1 u1 f1 hs1 s2 F2 u2 f2 hs2 s3 F3 u3 f3 hs3 s4 F4 u4 f4 hs4
    generalize ("zz" : Str) ++ (Str.ofString (toString (c' / 400 % mn))) = last at *
    refine w_ixL (same_l (f1.trans (f2.trans (f3.trans f4))) hA2) hn0 ?_
    walk_at "gx"
    rename_i s5 F5 u5 f5 hs5 s6 F6 u6 f6 hs6 s7 F7 u7 f7 hs7
    have h1 : RwAt K (SqT K) F7 (.ref s4) (.tell (.op .div (.num 7) (.nam last))) := by walk_at "rw"
    have h2 : RwAt K (SqT K) F7 (.ref s6) (.set n0 (.nam last)) := by walk_at "rw"
    have e27 : Same H2 F7 := by walk_at "ss"
    have hp7 := (e2.trans e27) _ _ hp
    have hp27 := e27 _ _ hp2
    have hb7 := hbr.monoS e27
    have hG7 := hG.at_.monoS (e2.trans e27)
    clear hs1 hs2 hs3 hs4 hs5 hs6 f1 f2 f3 f4 f5 f6 f7
    refine w_slL' (SqL.of hp7) (fun s8 F8 u8 f8 hs8 => ?_)
    rw [show cutV xs none (some 6) = xs.take 6 from cut_v (k := 6)] at hs8
    walk_at "gx"
    have tl : (xs.take 6).length ≤ 200 := Nat.le_trans (List.length_take_le' _ _) (by omega)
    refine w_addL' hs8 (f8 _ _ hp27) (sz (by omega)) (fun s9 F9 u9 f9 hs9 => ?_)
    walk_at "gx"
    obtain ⟨k, hk⟩ := Int.eq_ofNat_of_zero_le m2.1
    have hs79 := (f8.trans f9) _ _ hs7
    refine w_slL' (SqL.of hs79) (fun s10 F10 u10 f10 hs10 => ?_)
    rw [hk, cut_vh] at hs10
    have dl : ([V.ref s4, V.ref s6].drop k).length ≤ 2 := by rw [List.length_drop]; simp
    refine w_addL' (f10 _ _ hs9) hs10 (sz (by rw [List.length_append]; omega)) (fun s11 F11 u11 f11 hs11 => ?_)
    have e711 := f8.trans (f9.trans (f10.trans f11))
    have hl2 : BkAt K (SqT K) F11 [V.ref s4, V.ref s6] [.tell (.op .div (.num 7) (.nam last)), .set n0 (.nam last)] := .cons (h1.monoS e711) (BkAt.one (h2.monoS e711))
    have hok2 : oks (ns ++ zzs) [.tell (.op .div (.num 7) (.nam last)), .set n0 (.nam last)] := ⟨fine_op (fine_num (by decide) (by decide)) (fine_nam (List.mem_append_right _ za)) (by show 1 ≤ 11; decide) (by show 1 ≤ 11; decide), ⟨List.mem_append_left _ n0m, fine_nam (List.mem_append_right _ za)⟩, trivial⟩
    have t1 := nests_take b 6
    have gn := hG.nest
    have t2 := nests_drop [Rw.tell (.op .div (.num 7) (.nam last)), .set n0 (.nam last)] k
    have t3 : szs ([Rw.tell (.op .div (.num 7) (.nam last)), .set n0 (.nam last)].drop k) ≤ 2 := by
      have := szs_td [Rw.tell (.op .div (.num 7) (.nam last)), .set n0 (.nam last)] k
      have : szs [Rw.tell (.op .div (.num 7) (.nam last)), .set n0 (.nam last)] = 2 := rfl
      omega
    have t4 : nests [Rw.tell (.op .div (.num 7) (.nam last)), .set n0 (.nam last)] = 1 := rfl
    have t5 : szs (b.take 6) ≤ szs b := szs_take
    walk_at "gx"
    refine q s11 F11 _ (b.take 6 ++ br ++ [Rw.tell (.op .div (.num 7) (.nam last)), .set n0 (.nam last)].drop k) (e2.trans (e27.trans e711)) (none_of (e2.trans (e27.trans (f8.trans (f9.trans f10)))) u11) hs11 ⟨(((hG7.monoS e711).take 6).app (hb7.monoS e711)).app (hl2.drop k), oks_app (oks_app (oks_mono (fun _ h => List.mem_append_left _ h) (oks_take 6 hG.ok)) obr) (oks_drop k hok2), ?_⟩ ?_
    · rw [nests_app, nests_app]
      omega
    · rw [szs_app, szs_app]
      omega
theorem pure_law_right (K : PySem.W.Frag) (vs : List V) (H : Hp) (Q : VK) (E : XK) (h : sp_law_right K vs H Q E) :
    t_law_right K { nx := fun _ H' => Q .non H', rt := Q } (start N_law_right vs) H := by
  obtain ⟨p, r, u, v, rfl, ⟨rfl, rfl, q⟩ | ⟨t1, l, t2, lp, w, z, k, rfl, rfl, h1, h2, q⟩⟩ := h
  · unfold t_law_right
    walk_at "gx"
    exact q _ (Same.refl _)
  · unfold t_law_right
    walk_at "gx"
    unfold t_law_right_j2
    walk_at "gx"
    refine w_isi (tyx_t h1) rfl ?_
    walk_at "gx"
    refine w_no rfl ?_
    walk_at "gx"
    refine w_isi (K := K) (t := "str") (c := "str") (.base (.str _)) rfl ?_
    walk_at "gx"
    unfold t_law_right_j1
    walk_at "gx"
    exact q
theorem leaks_len {os zs ns : List Str} {r : Rw} {A : List Str} (ho : r.ok ns) (hA : A.length ≤ 1000000) : ∀ l ∈ leaksL os zs r A, l.2.2.length ≤ 2000000 := by
  have gf := fmOr_ok ho
  have gl := Fm.names_small18 (Nat.le_trans gf.2 (by decide : 12 ≤ 18))
  have sl : ∀ m : List Str, (secs zs m).length ≤ m.length := fun m => List.length_filter_le _ _
  have main : ∀ l ∈ candL os zs r A, l.2.2.length ≤ 2000000 := by
    intro l hl
    rcases List.mem_append.mp hl with hl | hl
    · rw [wayC_mem hl]
      have := sl ((fmOr r.fm).names ++ A)
      rw [List.length_append] at this
      omega
    · rw [divC_mem hl]
      have := sl ((fmOr r.fm).namesOf false ++ A)
      have := (fmOr r.fm).nmOf_len false
      rw [List.length_append] at *
      omega
  intro l hl
  cases r with
  | skip => exact nomatch hl
  | set x f => exact main l (List.mem_filter.mp hl).1
  | tell f => exact main l (List.mem_filter.mp hl).1
  | ite f a b => exact main l (List.mem_filter.mp hl).1
  | whl f a => exact main l (List.mem_filter.mp hl).1
theorem sc_nil {os : List Str} {es : List Ent} {x : Str} (h : Sc os [] es x) : False := by
  induction h with
  | base h => exact nomatch h
  | step _ _ _ _ ih => exact ih
theorem pure_k10 (K : PySem.W.Frag) (vs : List V) (H : Hp) (Q : VK) (E : XK) (h : sp_k10 K vs H Q E) :
    t_k10 K { nx := fun _ H' => Q .non H', rt := Q } (start N_k10 vs) H := by
  obtain ⟨a, cs, rfl, hS, hcl, q⟩ := h
  unfold t_k10
  walk_at "gx"
  refine ⟨a, cs, _, rfl, hS, by decide, fun i0 => ?_⟩
  walk_at "gx"
  refine ⟨a, cs, _, rfl, hS, by decide, fun i1 => ?_⟩
  walk_at "gx"
  refine ⟨_, _, rfl, fun pn H1 ns hT e1 hpn hpn1 => ?_⟩
  walk_at "gx"
  refine ⟨a, cs, _, rfl, same_l e1 hS, by decide, fun i2 => ?_⟩
  walk_at "gx"
  refine ⟨_, rfl, fun i3 _ _ => ?_⟩
  walk_at "gx"
  refine ⟨pn, ns, _, rfl, SqL.of hpn1, fun pm r1 r2 us ws H2 e2 hpm hpm2 hr1 hr2 hM => ?_⟩
  have hpn2 := e2 _ _ hpn1
  have hS2 := same_l (e1.trans e2) hS
  walk_at "gx"
  refine ⟨a, cs, _, rfl, hS2, by decide, fun i4 => ?_⟩
  walk_at "gx"
  refine ⟨_, rfl, fun i5 _ _ => ?_⟩
  walk_at "gx"
  refine ⟨pn, pm, r1, r2, ns, us, ws, _, rfl, SqL.of hpn2, hT, hpm2, hr1, hr2, hM, fun pp x y os ss H3 e3 hpp hx hy hpp3 hx3 hy3 xy hTo => ?_⟩
  have hpn3 := e3 _ _ hpn2
  have hS3 := same_l e3 hS2
  walk_at "gx"
  refine ⟨a, pn, cs, 3, 53, ns, rfl, hS3, hcl, SqL.of hpn3, hT, fun pb H4 xs b e4 npb hpb hG hz => ?_⟩
  have hpn4 := e4 _ _ hpn3
  have hS4 := same_l e4 hS3
  have n0e := ten_at hT (show (0 : Int) ≤ 0 by decide) (by decide)
  have nsl : ns.length = 10 := hT.len
  walk_at "gx"
  refine ⟨a, cs, _, rfl, hS4, by decide, fun i6 => ?_⟩
  have j2 : ∀ (H5 : Hp) (pb : Addr) (xs : List V) (b : List Rw) (ns2 : List Str), Same H4 H5 → H5 pb = some (.lst xs) → GoodB K H5 ns2 xs b → (∀ z ∈ ns2, Nm z) → ns2.length ≤ 200 → szs b ≤ 300 →
      t_k10_j2 K { nx := fun _ H' => Q .non H', rt := Q } [some (.ref a), some (.ref pn), some (.ref pm), some (.ref pp), some (.ref pb), none, none, none, none] H5 := by
    clear hpb hG hz npb pb xs b
    intro H5 pb xs b ns2 e5 hpb hG hN nl hz
    have e35 := e4.trans e5
    have hpp5 := e35 _ _ hpp3
    have hx5 := e35 _ _ hx3
    have hy5 := e35 _ _ hy3
    have hpn5 := e5 _ _ hpn4
    have ho := hG.ok
    have hn := hG.nest
    have hb := hG.at_
    have ol := hTo.l1
    have sl := hTo.l2
    have snd : ss.Nodup := (List.nodup_append.mp hTo.nd).2.1
    have hN2 : ∀ z ∈ ss ++ ns2, Nm z := fun z hz => (List.mem_append.mp hz).elim (fun h => hTo.nm z (List.mem_append_right _ h)) (hN z)
    have EO := entsB_ok (ns := ns2) (m := 8) 1 [] (A0 := []) (fun _ h => nomatch h) b ho hn
    clear e1 e2 e3 e4 hS hS2 hS3 hS4 hpn1 hpn2 hpn3 hpn4 hpm2 hr1 hr2 hM hpp3 hx3 hy3 e35
    unfold t_k10_j2
    walk_at "gx"
    rename_i p1 H6 n1 e6 hp1 p2 H7 n2 e7 hp2
    have e57 := e6.trans e7
    have n21 : p1 ≠ p2 := ne_of_none hp1 n2
    have nb2 : pb ≠ p2 := ne_of_none (e6 _ _ hpb) n2
    refine ⟨pb, xs, b, 1, p1, p2, [], ns2, [], [], rfl, .inl (fun H' x => SqL.of (x _ _ nb2 (e57 _ _ hpb))), hb.monoS e57, ho, by omega, by simp only [List.length_nil]; omega, e7 _ _ hp1, n21, by simp only [List.length_nil]; omega, hp2, .nil, fun H8 ls x8 hp28 hE => ?_⟩
    rw [List.nil_append] at hE
    have e58 : Same H5 H8 := SameX.same e57 (none_of e6 n2) x8
    walk_at "gx"
    refine w_tupL' (SqL.of (e58 _ _ hpb)) (fun pt H9 npt e9 hpt => ?_)
    have e59 := e58.trans e9
    walk_at "gx"
    refine w_prog (se_l (e59 _ _ hx5)) (se_l (e59 _ _ hy5)) (se_t hpt) (hb.monoS e59) ho hN hTo hn (by omega) (fun pg H10 e10 npg hP => ?_)
    have e510 := e59.trans e10
    have e810 := e9.trans e10
    walk_at "gx"
    refine ⟨pp, x, y, p2, os, ss, ns2, ls, _, rfl, e510 _ _ hpp5, e510 _ _ hx5, e510 _ _ hy5, e810 _ _ hp28, hE.imp fun _ _ h => h.mono e810, EO, hN2, snd, by omega, by omega, by omega, fun ps H11 zs e11 nps hps hzs zsub zlen => ?_⟩
    have e811 := e810.trans e11
    have e511 := e58.trans e811
    walk_at "gx"
    have cK : ∀ ch, Ways ss (freeR os ss b) ch → ∀ z, z ∈ Chs.keys ch ↔ z ∈ zs := fun ch W z => (keys_sc W z).trans (hzs z).symm
    have lE : ∀ ch, Ways ss (freeR os ss b) ch → ∀ e, leakE os (Chs.keys ch) e = leakE os zs e := fun ch W e => leakE_congr (cK ch W) e
    have lH := fun e => leaks_head (os := os) (zs := zs) (ks := zs) (fun _ => Iff.rfl) e
    have hpp11 := e511 _ _ hpp5
    have hx11 := e511 _ _ hx5
    have hy11 := e511 _ _ hy5
    have hr11 := e811 _ _ hp28
    have hE11 := hE.imp fun _ _ h => h.mono e811
    have hP11 := hP.mono e11
    have hpn11 := e511 _ _ hpn5
    obtain ⟨n0, hn0, n0m⟩ := n0e
    have n0N := hT.nm n0 n0m
    -- the other program: nothing leaks
    have other : ∀ (H12 : Hp) (w5 w6 w7 w8 : V), Same H11 H12 →
        (∀ H', Same H12 H' → (tRet (tAndV (tF (sp_law_right K) (tCons (tVar 3) (tCons (tVar 5) (tCons (tF (sp_looked K) (tCons (tVar 6) tNil)) (tCons (tVar 7) tNil))))) (tOrV (tOp (rIsN2 false) (tVar 8) (tC .non)) (tOp (rEq2 K) (tOp (rIx K) (tOp (rIx K) (tVar 8) (tC (.int 1))) (tUn rNeg (tC (.int 1)))) (tC (.str "zz")))))) { nx := fun _ H' => Q .non H', rt := Q } [some (.ref a), some (.ref pn), some (.ref pm), some (.ref pp), some (.ref pb), some w5, some w6, some w7, some w8] H') →
        t_k10_j1 K { nx := fun _ H' => Q .non H', rt := Q } [some (.ref a), some (.ref pn), some (.ref pm), some (.ref pp), some (.ref pb), some w5, some w6, some w7, some w8] H12 := by
      intro H12 w5 w6 w7 w8 e12 k
      have hpn12 := e12 _ _ hpn11
      clear e6 e7 e57 x8 e58 e9 e59 e10 e510 e810 e11 e811 e511
      unfold t_k10_j1
      walk_at "gx"
      refine w_ixL (SqL.of hpn12) hn0 ?_
      walk_at "gx"
      rename_i s1 F1 u1 f1 hs1 s2 F2 u2 f2 hs2
      refine w_ixL (SqL.of ((f1.trans f2) _ _ hpn12)) hn0 ?_
      walk_at "gx"
      rename_i s3 F3 u3 f3 hs3 s4 F4 u4 f4 hs4 s5 F5 u5 f5 hs5
      have hrow : RwAt K (SqT K) F5 (.ref s4) (.tell (.nam n0)) := by walk_at "rw"
      have g1 : F5 s1 = some (.lst [.str n0]) := by walk_at "lk"
      have g2 : F5 s2 = some (.lst []) := by walk_at "lk"
      have eF : Same H12 F5 := by walk_at "ss"
      have tO : Told [n0] [] := ⟨fun x hx => by rw [List.append_nil, List.mem_singleton] at hx; rw [hx]; exact n0N, List.nodup_cons.mpr ⟨List.not_mem_nil, List.nodup_nil⟩, by show 1 ≤ 26; decide, by decide⟩
      have ook : oks ns [.tell (.nam n0)] := oks_one (fine_nam n0m)
      refine w_prog (os := [n0]) (ss := []) (ns := ns) (xs := [.ref s4]) (b := [.tell (.nam n0)]) (se_l g1) (se_l g2) (se_t hs5) (BkAt.one hrow) ook hT.nm tO (by show max 1 0 ≤ 8; decide) (by show 1 + 0 ≤ 1000; decide) (fun pg2 G1 k1 npg2 hP2 => ?_)
      walk_at "gx"
      refine ⟨pg2, [n0], [], ns, _, rfl, hP2, ook, by omega, by show max 1 0 ≤ 8; decide, by show 1 + 0 ≤ 1000; decide, List.nodup_nil, by decide, fun z hz => hT.nm z hz, fun ch W cN => ?_⟩
      have kn : Chs.keys ch = [] := by
        cases hk : Chs.keys ch with
        | nil => rfl
        | cons z t => exact absurd ((keys_sc W z).mp (by rw [hk]; exact List.mem_cons_self)) (fun h => sc_nil h)
      have no : ∀ e ∈ entsB 1 [] [Rw.tell (.nam n0)], leakE [n0] (Chs.keys ch) e = none := by
        intro e he
        have : e = (1, Rw.tell (.nam n0), []) := List.mem_singleton.mp he
        rw [this, kn] <;> rfl
      refine ⟨fun _ G2 k2 => ?_, fun pre e post w x srcs h1 _ h3 => ?_⟩
      · walk_at "gxn"
        refine w_next ?_
        exact k G2 (eF.trans (k1.trans k2))
      · rw [no e (by rw [h1]; simp)] at h3
        exact nomatch h3
    rcases first_split (leakE os zs) (entsB 1 [] b) with hnone | ⟨pre, en, post, ⟨w, z, srcs⟩, hes, hpre, hen⟩
    · -- nothing leaks
      refine ⟨pp, x, y, p2, ps, os, zs, ns2, ls, _, rfl, hpp11, hx11, hps, hr11, hE11, EO, hN, fun _ H12 e12 => ?_, fun pre e post w z m tl h1 _ h3 => ?_⟩
      · walk_at "gx"
        refine ⟨pg, os, ss, ns2, b, rfl, hP11.mono e12, ho, by omega, hn, by omega, snd, by omega, hN2, fun ch W cN => ⟨fun _ H13 e13 => ?_, fun pre e post w z srcs h1 _ h3 => ?_⟩⟩
        · walk_at "gx"
          refine ⟨pp, p2, .non, .non, rfl, .inl ⟨rfl, rfl, fun H14 e14 => ?_⟩⟩
          walk_at "gx"
          refine other H14 _ _ _ _ (e12.trans (e13.trans e14)) (fun H15 e15 => ?_)
          walk_at "gx"
          refine ⟨pg, os, ss, ns2, b, rfl, hP11.mono (e12.trans (e13.trans (e14.trans e15))), ho, by omega, hn, by omega, snd, by omega, hN2, fun ch W cN => ⟨fun _ H16 e16 => ?_, fun pre e post w z srcs h1 _ h3 => ?_⟩⟩
          · walk_at "gx"
            refine ⟨pp, p2, .non, .non, rfl, .inl ⟨rfl, rfl, fun H17 e17 => ?_⟩⟩
            walk_at "gx"
            exact q _
          · rw [lE ch W, hnone e (by rw [h1]; simp)] at h3
            exact nomatch h3
        · rw [lE ch W, hnone e (by rw [h1]; simp)] at h3
          exact nomatch h3
      · rw [(lH e).1 (hnone e (by rw [h1]; simp))] at h3
        exact nomatch h3
    · -- the first that leaks
      obtain ⟨m0, tl0, hm0, hm0m⟩ := (lH en).2 w z srcs hen
      have ne : leakE os zs en ≠ none := by rw [hen]; exact fun h => nomatch h
      have ek : en.1 = pre.length + 1 := by
        have h1 : (entsB 1 [] b)[pre.length]? = some en := by rw [hes]; simp
        have := entsB_num 1 [] b _ _ h1
        omega
      have pl : pre.length < 1000 := by
        have := congrArg List.length hes
        rw [entsB_len, List.length_append, List.length_cons] at this
        omega
      have pre0 : ∀ pre' : List Ent, (∀ e' ∈ pre', leaksL os zs e'.2.1 e'.2.2 = []) → ∀ x ∈ pre', leakE os zs x = none := fun pre' h x hx => by
        cases hl : leakE os zs x with
        | none => rfl
        | some p =>
          obtain ⟨m, t, h1, _⟩ := (lH x).2 p.1 p.2.1 p.2.2 (by rw [hl])
          rw [h x hx] at h1
          exact nomatch h1
      have zok : PyData.strOk z = true := by
        have := leaks_str (os := os) (zs := zs) (A := en.2.2) (EO en (by rw [hes]; simp)).ok hN (w, z, m0) (by rw [hm0]; exact List.mem_cons_self)
        exact this.2
      refine ⟨pp, x, y, p2, ps, os, zs, ns2, ls, _, rfl, hpp11, hx11, hps, hr11, hE11, EO, hN, fun h => ?_, fun pre' e' post' w' z' m tl h1 h2 h3 t lp H12 e12 ht hlp hmn => ?_⟩
      · rw [h en (by rw [hes]; simp)] at hm0
        exact nomatch hm0
      · have ne' : leakE os zs e' ≠ none := fun h => by
          rw [(lH e').1 h] at h3
          exact nomatch h3
        obtain ⟨rfl, rfl⟩ := first_one (leakE os zs) (hes.symm.trans h1) hpre (pre0 pre' h2) ne ne'
        rw [hm0] at h3
        obtain ⟨h4, _⟩ := List.cons.inj h3
        obtain ⟨rfl, h5⟩ := Prod.mk.inj h4
        obtain ⟨rfl, rfl⟩ := Prod.mk.inj h5
        have ek2 : ((pre.length : Nat) : Int) + 1 = ((en.1 : Nat) : Int) := by omega
        rw [ek2] at ht
        have ml : m0.length ≤ 16000000 := by
          obtain ⟨_, _, _, _, _, _, _, _, _, _, xl⟩ := hE.at_ (i := pre.length) (x := en) (by rw [hes]; simp)
          have := leaks_len (os := os) (zs := zs) (EO en (by rw [hes]; simp)).ok xl (w, z, m0) (by rw [hm0]; exact List.mem_cons_self)
          exact Nat.le_trans this (by decide)
        -- the law's own judgement of a leak
        have right : ∀ (G G' : Hp) (R : VK) (ch : Chs) (t1 : Addr), Same H12 G → Same G G' → Ways ss (freeR os ss b) ch → (∀ x ∈ Chs.keys ch, x ∈ ss ++ ns2) → LeakAt K G G' ch en.1 w z srcs t1 → (∀ G2, Same G' G2 → R (.bl true) G2) → sp_law_right K [.ref pp, .ref p2, .ref t1, .ref t] G' R E0 := by
          rintro G G' R ch t1 g1 g2 W cN ⟨l, us, c, s, h1, h2, h3, h4, h5⟩ k
          have g := g1.trans g2
          refine ⟨pp, p2, _, _, rfl, .inr ⟨t1, l, t, lp, w, z, en.1, rfl, rfl, h1, same_t g ht, ?_⟩⟩
          have g11 := e12.trans g
          have mk : ∀ y, y ∈ m0 ↔ y ∈ srcs ∧ y ∈ Chs.keys ch := fun y => (hm0m y).trans (and_congr Iff.rfl (cK ch W y).symm)
          exact ⟨pp, x, y, p2, l, t, lp, os, ss, ns2, b, ls, us, ch, c, s, w, z, en.1, m0, rfl, g11 _ _ hpp11, g11 _ _ hx11, g11 _ _ hy11, g11 _ _ hr11, hE11.imp fun _ _ h => h.mono g11, EO, by omega, hN2, snd, by omega, by omega, by omega, W, cN, h3, h4, same_t g ht, g _ _ hlp, fun y hy => ⟨hmn y hy, ((mk y).mp hy).2⟩, ml, zok, ⟨(mk s).mpr ⟨h5.mem, key_of h5.at_⟩, h5.at_, fun s' hs' => h5.best s' ((mk s').mp hs').1⟩, k⟩
        walk_at "gx"
        refine ⟨pg, os, ss, ns2, b, rfl, hP11.mono e12, ho, by omega, hn, by omega, snd, by omega, hN2, fun ch W cN => ⟨fun h => ?_, fun pre' e' post' w' z' srcs' h1 h2 h3 t1 H13 e13 hL => ?_⟩⟩
        · have := h en (by rw [hes]; simp)
          rw [lE ch W, hen] at this
          exact nomatch this
        · obtain ⟨rfl, rfl⟩ := first_one (leakE os zs) (hes.symm.trans h1) hpre (fun x hx => by rw [← lE ch W]; exact h2 x hx) ne (by rw [← lE ch W, h3]; exact fun h => nomatch h)
          rw [lE ch W, hen] at h3
          obtain ⟨rfl, h5⟩ := Prod.mk.inj (Option.some.inj h3)
          obtain ⟨rfl, rfl⟩ := Prod.mk.inj h5
          have hL' := hL
          obtain ⟨l, us', c, s, g1, g2, g3, g4, g5⟩ := hL'
          walk_at "gx"
          refine right H12 H13 _ ch t1 (Same.refl _) e13 W cN hL (fun H14 e14 => ?_)
          have usl := g4.len
          have cl := ways_len W cN _ g5.at_
          have cl' : c.length ≤ ss.length + ns2.length := cl
          rw [List.length_append, List.length_singleton] at usl
          walk_at "gx"
          refine w_app' (e14 _ _ g3) (lt_line (by omega)) (fun H15 x15 t15 hl15 => ?_)
          have e1215 : Same H12 H15 := same_mutX (e13.trans e14) g2 x15
          walk_at "gx"
          refine other H15 _ _ _ _ (e12.trans e1215) (fun H16 e16 => ?_)
          walk_at "gx"
          refine ⟨pg, os, ss, ns2, b, rfl, hP11.mono (e12.trans (e1215.trans e16)), ho, by omega, hn, by omega, snd, by omega, hN2, fun ch2 W2 cN2 => ⟨fun h => ?_, fun pre' e' post' w' z' srcs' h1 h2 h3 t2 H17 e17 hL2 => ?_⟩⟩
          · have := h en (by rw [hes]; simp)
            rw [lE ch2 W2, hen] at this
            exact nomatch this
          · obtain ⟨rfl, rfl⟩ := first_one (leakE os zs) (hes.symm.trans h1) hpre (fun x hx => by rw [← lE ch2 W2]; exact h2 x hx) ne (by rw [← lE ch2 W2, h3]; exact fun h => nomatch h)
            rw [lE ch2 W2, hen] at h3
            obtain ⟨rfl, h5⟩ := Prod.mk.inj (Option.some.inj h3)
            obtain ⟨rfl, rfl⟩ := Prod.mk.inj h5
            walk_at "gx"
            refine right H16 H17 _ ch2 t2 (e1215.trans e16) e17 W2 cN2 hL2 (fun H18 e18 => ?_)
            walk_at "gx"
            have e1518 := e16.trans (e17.trans e18)
            try (refine w_ixT (same_t e1518 (sameT_t t15 (same_t e14 g1))) (atI_nat (j := 1) rfl) ?_)
            walk_at "gx"
            refine w_ixL (SqL.of (e1518 _ _ hl15)) (atI_last _ _) ?_
            walk_at "gx"
            exact q _
  walk_at "gx"
  refine w_two (fun c => ?_) (fun c => ?_)
  · walk_at "gx"
    refine ⟨a, cs, _, rfl, hS4, by decide, fun i7 => ?_⟩
    walk_at "gx"
    refine ⟨_, rfl, fun i8 _ _ => ?_⟩
    walk_at "gx"
    refine ⟨pn, pb, ns, _, xs, b, rfl, SqL.of hpn4, hT, hpb, hG, by omega, fun q5 H5 ys b2 e5 n5 h5 hG5 hz5 => ?_⟩
    walk_at "gx"
    exact j2 H5 q5 ys b2 (ns ++ zzs) e5 h5 hG5 (fun z hz => (List.mem_append.mp hz).elim (hT.nm z) (zzs_nm z)) (by rw [List.length_append, nsl]; decide) hz5
  · walk_at "gx"
    exact j2 H4 pb xs b ns (Same.refl _) hpb hG hT.nm (by omega) (by omega)
theorem law_in_k10 (K : PySem.W.Frag) (H : Hp) (a : Addr) (ns : List Int) (hl : ns.length ≤ 63) (hS : SqL K H a (ns.map V.int)) : sp_k10 K [.ref a] H (fun v _ => v = .bl true) fun _ _ _ => False := ⟨a, ns, rfl, hS, hl, fun _ => rfl⟩
def topS (i : Nat) : Stmt := PySem.Challenge.pw_hushkind_k10_looked.main.body.getD i (.Pass ⟨0, 0, 0, 0⟩)
def memS (st : Stmt) (j : Nat) : Stmt := match st with | .ClassDef (body := b) .. => b.getD j (.Pass ⟨0, 0, 0, 0⟩) | _ => .Pass ⟨0, 0, 0, 0⟩
abbrev s_law_mixed : Stmt := topS 48
abbrev M_law_mixed : List Str := ["_law_number"]
theorem sc_law_mixed : FnScope M_law_mixed ["_law_number"] (defScope s_law_mixed) := ⟨rfl, rfl, rfl, by decide +kernel, rfl, by decide +kernel, by decide +kernel⟩
abbrev s_law_name_by : Stmt := topS 49
abbrev M_law_name_by : List Str := ["_law_cell", "_law_found", "_law_number", "_law_k"]
theorem sc_law_name_by : FnScope M_law_name_by ["_law_cell"] (defScope s_law_name_by) := ⟨rfl, rfl, rfl, by decide +kernel, rfl, by decide +kernel, by decide +kernel⟩
abbrev s_law_twin : Stmt := topS 50
abbrev M_law_twin : List Str := ["_law_name", "_law_cell", "_law_some", "_law_at", "_law_step_here", "_law_found"]
theorem sc_law_twin : FnScope M_law_twin ["_law_name", "_law_cell"] (defScope s_law_twin) := ⟨rfl, rfl, rfl, by decide +kernel, rfl, by decide +kernel, by decide +kernel⟩
abbrev s_law_names : Stmt := topS 51
abbrev M_law_names : List Str := ["_law_one", "_law_other", "_law_names_here", "_law_k", "_law_name"]
theorem sc_law_names : FnScope M_law_names ["_law_one", "_law_other"] (defScope s_law_names) := ⟨rfl, rfl, rfl, by decide +kernel, rfl, by decide +kernel, by decide +kernel⟩
abbrev s_law_cell_at : Stmt := topS 47
abbrev M_law_cell_at : List Str := ["_law_script", "_law_k"]
theorem sc_law_cell_at : FnScope M_law_cell_at ["_law_script", "_law_k"] (defScope s_law_cell_at) := ⟨rfl, rfl, rfl, by decide +kernel, rfl, by decide +kernel, by decide +kernel⟩
abbrev s_law_more : Stmt := topS 76
abbrev M_law_more : List Str := ["_law_names_here", "_law_cell", "_law_many", "_law_found", "_law_k", "_law_row", "_law_name"]
theorem sc_law_more : FnScope M_law_more ["_law_names_here", "_law_cell"] (defScope s_law_more) := ⟨rfl, rfl, rfl, by decide +kernel, rfl, by decide +kernel, by decide +kernel⟩
abbrev s_law_told : Stmt := topS 77
abbrev M_law_told : List Str := ["_law_names_here", "_law_more_here", "_law_cell", "_law_rows", "_law_number", "_law_k", "_law_name", "_law_at"]
theorem sc_law_told : FnScope M_law_told ["_law_names_here", "_law_more_here", "_law_cell"] (defScope s_law_told) := ⟨rfl, rfl, rfl, by decide +kernel, rfl, by decide +kernel, by decide +kernel⟩
abbrev s_law_end_by : Stmt := topS 52
abbrev M_law_end_by : List Str := ["_law_number", "_law_names_here"]
theorem sc_law_end_by : FnScope M_law_end_by ["_law_number", "_law_names_here"] (defScope s_law_end_by) := ⟨rfl, rfl, rfl, by decide +kernel, rfl, by decide +kernel, by decide +kernel⟩
abbrev s_law_formula_by : Stmt := topS 53
abbrev M_law_formula_by : List Str := ["_law_number", "_law_names_here", "_law_low", "_law_divide", "_law_left", "_law_sign", "_law_one"]
theorem sc_law_formula_by : FnScope M_law_formula_by ["_law_number", "_law_names_here", "_law_low", "_law_divide", "_law_left"] (defScope s_law_formula_by) := ⟨rfl, rfl, rfl, by decide +kernel, rfl, by decide +kernel, by decide +kernel⟩
abbrev s_law_all_names : Stmt := topS 54
abbrev M_law_all_names : List Str := ["_law_formula_here"]
theorem sc_law_all_names : FnScope M_law_all_names ["_law_formula_here"] (defScope s_law_all_names) := ⟨rfl, rfl, rfl, by decide +kernel, rfl, by decide +kernel, by decide +kernel⟩
abbrev s_law_row_by : Stmt := topS 55
abbrev M_law_row_by : List Str := ["_law_names_here", "_law_more_here", "_law_dark", "_law_mode", "_law_low", "_law_some", "_law_formula_here", "_law_name"]
theorem sc_law_row_by : FnScope M_law_row_by ["_law_names_here", "_law_more_here", "_law_dark", "_law_mode"] (defScope s_law_row_by) := ⟨rfl, rfl, rfl, by decide +kernel, rfl, by decide +kernel, by decide +kernel⟩
abbrev s_law_closed : Stmt := topS 56
abbrev M_law_closed : List Str := ["_law_stack", "_law_frame"]
theorem sc_law_closed : FnScope M_law_closed ["_law_stack"] (defScope s_law_closed) := ⟨rfl, rfl, rfl, by decide +kernel, rfl, by decide +kernel, by decide +kernel⟩
abbrev s_law_put : Stmt := topS 57
abbrev M_law_put : List Str := ["_law_stack", "_law_names_here", "_law_more_here", "_law_mode", "_law_way", "_law_dark", "_law_frame", "_law_formula_here", "_law_secret_here", "_law_shut", "_law_some"]
theorem sc_law_put : FnScope M_law_put ["_law_stack", "_law_names_here", "_law_more_here", "_law_mode"] (defScope s_law_put) := ⟨rfl, rfl, rfl, by decide +kernel, rfl, by decide +kernel, by decide +kernel⟩
abbrev s_law_block_by : Stmt := topS 58
abbrev M_law_block_by : List Str := ["_law_cells", "_law_names_here", "_law_loose", "_law_stack", "_law_turn", "_law_cell", "_law_more_here", "_law_mode"]
theorem sc_law_block_by : FnScope M_law_block_by ["_law_cells", "_law_names_here", "_law_loose"] (defScope s_law_block_by) := ⟨rfl, rfl, rfl, by decide +kernel, rfl, by decide +kernel, by decide +kernel⟩
abbrev s_law_leaking : Stmt := topS 73
abbrev M_law_leaking : List Str := ["_law_names_here", "_law_way", "_law_dark", "_law_cell", "_law_low", "_law_one", "_law_more_here", "_law_inner"]
theorem sc_law_leaking : FnScope M_law_leaking ["_law_names_here", "_law_way", "_law_dark", "_law_cell"] (defScope s_law_leaking) := ⟨rfl, rfl, rfl, by decide +kernel, rfl, by decide +kernel, by decide +kernel⟩
abbrev s_law_with_leak : Stmt := topS 74
abbrev M_law_with_leak : List Str := ["_law_names_here", "_law_block", "_law_cell", "_law_dark", "_law_rows", "_law_leak", "_law_at"]
theorem sc_law_with_leak : FnScope M_law_with_leak ["_law_names_here", "_law_block", "_law_cell"] (defScope s_law_with_leak) := ⟨rfl, rfl, rfl, by decide +kernel, rfl, by decide +kernel, by decide +kernel⟩
abbrev s_law_drawn : Stmt := topS 75
abbrev M_law_drawn : List Str := ["_law_script", "_law_low", "_law_high", "_law_names_here", "_law_cell", "_law_block", "_law_more_here"]
theorem sc_law_drawn : FnScope M_law_drawn ["_law_script", "_law_low", "_law_high", "_law_names_here"] (defScope s_law_drawn) := ⟨rfl, rfl, rfl, by decide +kernel, rfl, by decide +kernel, by decide +kernel⟩
abbrev s_law_row_of_names : Stmt := topS 71
abbrev M_law_row_of_names : List Str := ["_law_names_here", "_law_many", "_law_step_here", "_law_order", "_law_k", "_law_rows", "_law_place", "_law_before"]
theorem sc_law_row_of_names : FnScope M_law_row_of_names ["_law_names_here", "_law_many", "_law_step_here"] (defScope s_law_row_of_names) := ⟨rfl, rfl, rfl, by decide +kernel, rfl, by decide +kernel, by decide +kernel⟩
abbrev s_law_longer : Stmt := topS 72
abbrev M_law_longer : List Str := ["_law_names_here", "_law_block", "_law_cell", "_law_many", "_law_rows", "_law_k", "_law_last", "_law_leaks_here"]
theorem sc_law_longer : FnScope M_law_longer ["_law_names_here", "_law_block", "_law_cell"] (defScope s_law_longer) := ⟨rfl, rfl, rfl, by decide +kernel, rfl, by decide +kernel, by decide +kernel⟩
abbrev s_law_blocks : Stmt := topS 59
abbrev M_law_blocks : List Str := ["_law_row"]
theorem sc_law_blocks : FnScope M_law_blocks ["_law_row"] (defScope s_law_blocks) := ⟨rfl, rfl, rfl, by decide +kernel, rfl, by decide +kernel, by decide +kernel⟩
abbrev s_law_formula : Stmt := topS 60
abbrev M_law_formula : List Str := ["_law_row"]
theorem sc_law_formula : FnScope M_law_formula ["_law_row"] (defScope s_law_formula) := ⟨rfl, rfl, rfl, by decide +kernel, rfl, by decide +kernel, by decide +kernel⟩
abbrev s_law_listed : Stmt := topS 61
abbrev M_law_listed : List Str := ["_law_block", "_law_around", "_law_rows", "_law_row", "_law_inner"]
theorem sc_law_listed : FnScope M_law_listed ["_law_block", "_law_around", "_law_rows"] (defScope s_law_listed) := ⟨rfl, rfl, rfl, by decide +kernel, rfl, by decide +kernel, by decide +kernel⟩
abbrev s_is_list : Stmt := topS 25
abbrev M_is_list : List Str := ["thing"]
theorem sc_is_list : FnScope M_is_list ["thing"] (defScope s_is_list) := ⟨rfl, rfl, rfl, by decide +kernel, rfl, by decide +kernel, by decide +kernel⟩
abbrev s_is_name : Stmt := topS 15
abbrev M_is_name : List Str := ["thing", "sign"]
theorem sc_is_name : FnScope M_is_name ["thing"] (defScope s_is_name) := ⟨rfl, rfl, rfl, by decide +kernel, rfl, by decide +kernel, by decide +kernel⟩
abbrev s_need_names : Stmt := topS 32
abbrev M_need_names : List Str := ["names", "told", "found", "name"]
theorem sc_need_names : FnScope M_need_names ["names", "told"] (defScope s_need_names) := ⟨rfl, rfl, rfl, by decide +kernel, rfl, by decide +kernel, by decide +kernel⟩
abbrev s_things_of : Stmt := topS 26
abbrev M_things_of : List Str := ["word"]
theorem sc_things_of : FnScope M_things_of ["word"] (defScope s_things_of) := ⟨rfl, rfl, rfl, by decide +kernel, rfl, by decide +kernel, by decide +kernel⟩
abbrev s_blocks_of : Stmt := topS 28
abbrev M_blocks_of : List Str := ["row"]
theorem sc_blocks_of : FnScope M_blocks_of ["row"] (defScope s_blocks_of) := ⟨rfl, rfl, rfl, by decide +kernel, rfl, by decide +kernel, by decide +kernel⟩
abbrev s_need_form : Stmt := topS 29
abbrev M_need_form : List Str := ["row", "block"]
theorem sc_need_form : FnScope M_need_form ["row"] (defScope s_need_form) := ⟨rfl, rfl, rfl, by decide +kernel, rfl, by decide +kernel, by decide +kernel⟩
abbrev s_is_whole : Stmt := topS 13
abbrev M_is_whole : List Str := ["thing"]
theorem sc_is_whole : FnScope M_is_whole ["thing"] (defScope s_is_whole) := ⟨rfl, rfl, rfl, by decide +kernel, rfl, by decide +kernel, by decide +kernel⟩
abbrev s_is_number : Stmt := topS 14
abbrev M_is_number : List Str := ["thing"]
theorem sc_is_number : FnScope M_is_number ["thing"] (defScope s_is_number) := ⟨rfl, rfl, rfl, by decide +kernel, rfl, by decide +kernel, by decide +kernel⟩
abbrev s_is_end : Stmt := topS 16
abbrev M_is_end : List Str := ["thing"]
theorem sc_is_end : FnScope M_is_end ["thing"] (defScope s_is_end) := ⟨rfl, rfl, rfl, by decide +kernel, rfl, by decide +kernel, by decide +kernel⟩
abbrev s_need_formula : Stmt := topS 17
abbrev M_need_formula : List Str := ["thing", "left"]
theorem sc_need_formula : FnScope M_need_formula ["thing", "left"] (defScope s_need_formula) := ⟨rfl, rfl, rfl, by decide +kernel, rfl, by decide +kernel, by decide +kernel⟩
abbrev s_formula_of : Stmt := topS 27
abbrev M_formula_of : List Str := ["row"]
theorem sc_formula_of : FnScope M_formula_of ["row"] (defScope s_formula_of) := ⟨rfl, rfl, rfl, by decide +kernel, rfl, by decide +kernel, by decide +kernel⟩
abbrev s_need_row : Stmt := topS 30
abbrev M_need_row : List Str := ["row", "deep", "blocks", "block"]
theorem sc_need_row : FnScope M_need_row ["row", "deep"] (defScope s_need_row) := ⟨rfl, rfl, rfl, by decide +kernel, rfl, by decide +kernel, by decide +kernel⟩
abbrev s_need_block : Stmt := topS 31
abbrev M_need_block : List Str := ["block", "deep", "row"]
theorem sc_need_block : FnScope M_need_block ["block", "deep"] (defScope s_need_block) := ⟨rfl, rfl, rfl, by decide +kernel, rfl, by decide +kernel, by decide +kernel⟩
abbrev s_Program___init__ : Stmt := memS (topS 36) 0
abbrev M_Program___init__ : List Str := ["self", "opens", "secrets", "block"]
theorem sc_Program___init__ : FnScope M_Program___init__ ["self", "opens", "secrets", "block"] (defScope s_Program___init__) := ⟨rfl, rfl, rfl, by decide +kernel, rfl, by decide +kernel, by decide +kernel⟩
abbrev s_law_has_division : Stmt := topS 64
abbrev M_law_has_division : List Str := ["_law_formula_here"]
theorem sc_law_has_division : FnScope M_law_has_division ["_law_formula_here"] (defScope s_law_has_division) := ⟨rfl, rfl, rfl, by decide +kernel, rfl, by decide +kernel, by decide +kernel⟩
abbrev s_law_divisors : Stmt := topS 63
abbrev M_law_divisors : List Str := ["_law_formula_here", "_law_right_here"]
theorem sc_law_divisors : FnScope M_law_divisors ["_law_formula_here", "_law_right_here"] (defScope s_law_divisors) := ⟨rfl, rfl, rfl, by decide +kernel, rfl, by decide +kernel, by decide +kernel⟩
abbrev s_law_leaks : Stmt := topS 65
abbrev M_law_leaks : List Str := ["_law_pairs", "_law_row", "_law_around", "_law_secret_here", "_law_formula_here", "_law_found", "_law_sources", "_law_name", "_law_right_here", "_law_one"]
theorem sc_law_leaks : FnScope M_law_leaks ["_law_pairs", "_law_row", "_law_around", "_law_secret_here"] (defScope s_law_leaks) := ⟨rfl, rfl, rfl, by decide +kernel, rfl, by decide +kernel, by decide +kernel⟩
abbrev s_law_first : Stmt := topS 66
abbrev M_law_first : List Str := ["_law_pairs", "_law_rows", "_law_secret_here", "_law_k", "_law_one", "_law_found"]
theorem sc_law_first : FnScope M_law_first ["_law_pairs", "_law_rows", "_law_secret_here"] (defScope s_law_first) := ⟨rfl, rfl, rfl, by decide +kernel, rfl, by decide +kernel, by decide +kernel⟩
abbrev s_law_secret : Stmt := topS 62
abbrev M_law_secret : List Str := ["_law_pairs", "_law_rows", "_law_secret_here", "_law_grown", "_law_row", "_law_around", "_law_name"]
theorem sc_law_secret : FnScope M_law_secret ["_law_pairs", "_law_rows"] (defScope s_law_secret) := ⟨rfl, rfl, rfl, by decide +kernel, rfl, by decide +kernel, by decide +kernel⟩
abbrev s_Program_told : Stmt := memS (topS 36) 3
abbrev M_Program_told : List Str := ["self"]
theorem sc_Program_told : FnScope M_Program_told ["self"] (defScope s_Program_told) := ⟨rfl, rfl, rfl, by decide +kernel, rfl, by decide +kernel, by decide +kernel⟩
abbrev s_all_names : Stmt := topS 18
abbrev M_all_names : List Str := ["formula"]
theorem sc_all_names : FnScope M_all_names ["formula"] (defScope s_all_names) := ⟨rfl, rfl, rfl, by decide +kernel, rfl, by decide +kernel, by decide +kernel⟩
abbrev s_names_in : Stmt := topS 19
abbrev M_names_in : List Str := ["formula"]
theorem sc_names_in : FnScope M_names_in ["formula"] (defScope s_names_in) := ⟨rfl, rfl, rfl, by decide +kernel, rfl, by decide +kernel, by decide +kernel⟩
abbrev s_many_in : Stmt := topS 34
abbrev M_many_in : List Str := ["block", "row"]
theorem sc_many_in : FnScope M_many_in ["block"] (defScope s_many_in) := ⟨rfl, rfl, rfl, by decide +kernel, rfl, by decide +kernel, by decide +kernel⟩
abbrev s_size_of : Stmt := topS 33
abbrev M_size_of : List Str := ["row", "block"]
theorem sc_size_of : FnScope M_size_of ["row"] (defScope s_size_of) := ⟨rfl, rfl, rfl, by decide +kernel, rfl, by decide +kernel, by decide +kernel⟩
abbrev s_rows_in : Stmt := topS 38
abbrev M_rows_in : List Str := ["block", "number", "around", "rows", "row", "inner", "part", "more"]
theorem sc_rows_in : FnScope M_rows_in ["block", "number", "around"] (defScope s_rows_in) := ⟨rfl, rfl, rfl, by decide +kernel, rfl, by decide +kernel, by decide +kernel⟩
abbrev s_Program_block : Stmt := memS (topS 36) 4
abbrev M_Program_block : List Str := ["self"]
theorem sc_Program_block : FnScope M_Program_block ["self"] (defScope s_Program_block) := ⟨rfl, rfl, rfl, by decide +kernel, rfl, by decide +kernel, by decide +kernel⟩
abbrev s_sources_of : Stmt := topS 39
abbrev M_sources_of : List Str := ["row", "around", "found"]
theorem sc_sources_of : FnScope M_sources_of ["row", "around"] (defScope s_sources_of) := ⟨rfl, rfl, rfl, by decide +kernel, rfl, by decide +kernel, by decide +kernel⟩
abbrev s_flows : Stmt := topS 40
abbrev M_flows : List Str := ["program", "found", "number", "row", "around", "source"]
theorem sc_flows : FnScope M_flows ["program"] (defScope s_flows) := ⟨rfl, rfl, rfl, by decide +kernel, rfl, by decide +kernel, by decide +kernel⟩
abbrev s_Program_kind : Stmt := memS (topS 36) 2
abbrev M_Program_kind : List Str := ["self", "name"]
theorem sc_Program_kind : FnScope M_Program_kind ["self", "name"] (defScope s_Program_kind) := ⟨rfl, rfl, rfl, by decide +kernel, rfl, by decide +kernel, by decide +kernel⟩
abbrev s_ways_to : Stmt := topS 41
abbrev M_ways_to : List Str := ["program", "chains", "name", "rows", "flow", "known", "fresh", "number", "source"]
theorem sc_ways_to : FnScope M_ways_to ["program"] (defScope s_ways_to) := ⟨rfl, rfl, rfl, by decide +kernel, rfl, by decide +kernel, by decide +kernel⟩
abbrev s_shortest : Stmt := topS 42
abbrev M_shortest : List Str := ["chains", "sources", "best", "source"]
theorem sc_shortest : FnScope M_shortest ["chains", "sources"] (defScope s_shortest) := ⟨rfl, rfl, rfl, by decide +kernel, rfl, by decide +kernel, by decide +kernel⟩
abbrev s_divides : Stmt := topS 22
abbrev M_divides : List Str := ["formula"]
theorem sc_divides : FnScope M_divides ["formula"] (defScope s_divides) := ⟨rfl, rfl, rfl, by decide +kernel, rfl, by decide +kernel, by decide +kernel⟩
abbrev s_all_right : Stmt := topS 20
abbrev M_all_right : List Str := ["formula", "found"]
theorem sc_all_right : FnScope M_all_right ["formula"] (defScope s_all_right) := ⟨rfl, rfl, rfl, by decide +kernel, rfl, by decide +kernel, by decide +kernel⟩
abbrev s_right_names : Stmt := topS 21
abbrev M_right_names : List Str := ["formula"]
theorem sc_right_names : FnScope M_right_names ["formula"] (defScope s_right_names) := ⟨rfl, rfl, rfl, by decide +kernel, rfl, by decide +kernel, by decide +kernel⟩
abbrev s_leak_of : Stmt := topS 43
abbrev M_leak_of : List Str := ["program", "chains", "number", "row", "around", "chain"]
theorem sc_leak_of : FnScope M_leak_of ["program", "chains", "number", "row", "around"] (defScope s_leak_of) := ⟨rfl, rfl, rfl, by decide +kernel, rfl, by decide +kernel, by decide +kernel⟩
abbrev s_looked : Stmt := topS 44
abbrev M_looked : List Str := ["program", "chains", "number", "row", "around", "leak"]
theorem sc_looked : FnScope M_looked ["program"] (defScope s_looked) := ⟨rfl, rfl, rfl, by decide +kernel, rfl, by decide +kernel, by decide +kernel⟩
abbrev s_law_whole : Stmt := topS 46
abbrev M_law_whole : List Str := ["_law_found"]
theorem sc_law_whole : FnScope M_law_whole ["_law_found"] (defScope s_law_whole) := ⟨rfl, rfl, rfl, by decide +kernel, rfl, by decide +kernel, by decide +kernel⟩
abbrev s_law_step : Stmt := topS 68
abbrev M_law_step : List Str := ["_law_pairs", "_law_rows", "_law_ahead", "_law_pair", "_law_row", "_law_around"]
theorem sc_law_step : FnScope M_law_step ["_law_pairs", "_law_rows", "_law_ahead", "_law_pair"] (defScope s_law_step) := ⟨rfl, rfl, rfl, by decide +kernel, rfl, by decide +kernel, by decide +kernel⟩
abbrev s_law_far : Stmt := topS 67
abbrev M_law_far : List Str := ["_law_pairs", "_law_rows", "_law_far_here", "_law_name", "_law_step_here", "_law_known", "_law_row", "_law_around"]
theorem sc_law_far : FnScope M_law_far ["_law_pairs", "_law_rows"] (defScope s_law_far) := ⟨rfl, rfl, rfl, by decide +kernel, rfl, by decide +kernel, by decide +kernel⟩
abbrev s_law_chained : Stmt := topS 69
abbrev M_law_chained : List Str := ["_law_pairs", "_law_rows", "_law_chain", "_law_leak", "_law_k", "_law_far_here", "_law_name"]
theorem sc_law_chained : FnScope M_law_chained ["_law_pairs", "_law_rows", "_law_chain", "_law_leak"] (defScope s_law_chained) := ⟨rfl, rfl, rfl, by decide +kernel, rfl, by decide +kernel, by decide +kernel⟩
abbrev s_law_right : Stmt := topS 70
abbrev M_law_right : List Str := ["_law_pairs", "_law_rows", "_law_told_here", "_law_leak"]
theorem sc_law_right : FnScope M_law_right ["_law_pairs", "_law_rows", "_law_told_here", "_law_leak"] (defScope s_law_right) := ⟨rfl, rfl, rfl, by decide +kernel, rfl, by decide +kernel, by decide +kernel⟩
abbrev s_k10 : Stmt := topS 78
abbrev M_k10 : List Str := ["_law_script", "_law_names_here", "_law_more_here", "_law_pairs", "_law_block", "_law_rows", "_law_program", "_law_leak", "_law_told_here"]
theorem sc_k10 : FnScope M_k10 ["_law_script"] (defScope s_k10) := ⟨rfl, rfl, rfl, by decide +kernel, rfl, by decide +kernel, by decide +kernel⟩
structure Top (K : PySem.W.Frag) (mg : Str → Option Value) : Prop where
  f_law_mixed : DefAt K mg "_law_mixed" s_law_mixed ["_law_number"]
  f_law_name_by : DefAt K mg "_law_name_by" s_law_name_by ["_law_cell"]
  f_law_twin : DefAt K mg "_law_twin" s_law_twin ["_law_name", "_law_cell"]
  f_law_names : DefAt K mg "_law_names" s_law_names ["_law_one", "_law_other"]
  f_law_cell_at : DefAt K mg "_law_cell_at" s_law_cell_at ["_law_script", "_law_k"]
  f_law_more : DefAt K mg "_law_more" s_law_more ["_law_names_here", "_law_cell"]
  f_law_told : DefAt K mg "_law_told" s_law_told ["_law_names_here", "_law_more_here", "_law_cell"]
  f_law_end_by : DefAt K mg "_law_end_by" s_law_end_by ["_law_number", "_law_names_here"]
  f_law_formula_by : DefAt K mg "_law_formula_by" s_law_formula_by ["_law_number", "_law_names_here", "_law_low", "_law_divide", "_law_left"]
  f_law_all_names : DefAt K mg "_law_all_names" s_law_all_names ["_law_formula_here"]
  f_law_row_by : DefAt K mg "_law_row_by" s_law_row_by ["_law_names_here", "_law_more_here", "_law_dark", "_law_mode"]
  f_law_closed : DefAt K mg "_law_closed" s_law_closed ["_law_stack"]
  f_law_put : DefAt K mg "_law_put" s_law_put ["_law_stack", "_law_names_here", "_law_more_here", "_law_mode"]
  f_law_block_by : DefAt K mg "_law_block_by" s_law_block_by ["_law_cells", "_law_names_here", "_law_loose"]
  f_law_leaking : DefAt K mg "_law_leaking" s_law_leaking ["_law_names_here", "_law_way", "_law_dark", "_law_cell"]
  f_law_with_leak : DefAt K mg "_law_with_leak" s_law_with_leak ["_law_names_here", "_law_block", "_law_cell"]
  f_law_drawn : DefAt K mg "_law_drawn" s_law_drawn ["_law_script", "_law_low", "_law_high", "_law_names_here"]
  f_law_row_of_names : DefAt K mg "_law_row_of_names" s_law_row_of_names ["_law_names_here", "_law_many", "_law_step_here"]
  f_law_longer : DefAt K mg "_law_longer" s_law_longer ["_law_names_here", "_law_block", "_law_cell"]
  f_law_blocks : DefAt K mg "_law_blocks" s_law_blocks ["_law_row"]
  f_law_formula : DefAt K mg "_law_formula" s_law_formula ["_law_row"]
  f_law_listed : DefAt K mg "_law_listed" s_law_listed ["_law_block", "_law_around", "_law_rows"]
  f_is_list : DefAt K mg "is_list" s_is_list ["thing"]
  f_is_name : DefAt K mg "is_name" s_is_name ["thing"]
  f_need_names : DefAt K mg "need_names" s_need_names ["names", "told"]
  f_things_of : DefAt K mg "things_of" s_things_of ["word"]
  f_blocks_of : DefAt K mg "blocks_of" s_blocks_of ["row"]
  f_need_form : DefAt K mg "need_form" s_need_form ["row"]
  f_is_whole : DefAt K mg "is_whole" s_is_whole ["thing"]
  f_is_number : DefAt K mg "is_number" s_is_number ["thing"]
  f_is_end : DefAt K mg "is_end" s_is_end ["thing"]
  f_need_formula : DefAt K mg "need_formula" s_need_formula ["thing", "left"]
  f_formula_of : DefAt K mg "formula_of" s_formula_of ["row"]
  f_need_row : DefAt K mg "need_row" s_need_row ["row", "deep"]
  f_need_block : DefAt K mg "need_block" s_need_block ["block", "deep"]
  f_law_has_division : DefAt K mg "_law_has_division" s_law_has_division ["_law_formula_here"]
  f_law_divisors : DefAt K mg "_law_divisors" s_law_divisors ["_law_formula_here", "_law_right_here"]
  f_law_leaks : DefAt K mg "_law_leaks" s_law_leaks ["_law_pairs", "_law_row", "_law_around", "_law_secret_here"]
  f_law_first : DefAt K mg "_law_first" s_law_first ["_law_pairs", "_law_rows", "_law_secret_here"]
  f_law_secret : DefAt K mg "_law_secret" s_law_secret ["_law_pairs", "_law_rows"]
  f_all_names : DefAt K mg "all_names" s_all_names ["formula"]
  f_names_in : DefAt K mg "names_in" s_names_in ["formula"]
  f_many_in : DefAt K mg "many_in" s_many_in ["block"]
  f_size_of : DefAt K mg "size_of" s_size_of ["row"]
  f_rows_in : DefAt K mg "rows_in" s_rows_in ["block", "number", "around"]
  f_sources_of : DefAt K mg "sources_of" s_sources_of ["row", "around"]
  f_flows : DefAt K mg "flows" s_flows ["program"]
  f_ways_to : DefAt K mg "ways_to" s_ways_to ["program"]
  f_shortest : DefAt K mg "shortest" s_shortest ["chains", "sources"]
  f_divides : DefAt K mg "divides" s_divides ["formula"]
  f_all_right : DefAt K mg "all_right" s_all_right ["formula"]
  f_right_names : DefAt K mg "right_names" s_right_names ["formula"]
  f_leak_of : DefAt K mg "leak_of" s_leak_of ["program", "chains", "number", "row", "around"]
  f_looked : DefAt K mg "looked" s_looked ["program"]
  f_law_whole : DefAt K mg "_law_whole" s_law_whole ["_law_found"]
  f_law_step : DefAt K mg "_law_step" s_law_step ["_law_pairs", "_law_rows", "_law_ahead", "_law_pair"]
  f_law_far : DefAt K mg "_law_far" s_law_far ["_law_pairs", "_law_rows"]
  f_law_chained : DefAt K mg "_law_chained" s_law_chained ["_law_pairs", "_law_rows", "_law_chain", "_law_leak"]
  f_law_right : DefAt K mg "_law_right" s_law_right ["_law_pairs", "_law_rows", "_law_told_here", "_law_leak"]
  c_Program : ∃ C, CC K "Program" as_Program C ∧ mg "Program" = some (.ref C) ∧ InitAt K C "Program.__init__" s_Program___init__ ["self", "opens", "secrets", "block"] ∧ MethAt K C "told" "Program.told" s_Program_told ["self"] ∧ MethAt K C "block" "Program.block" s_Program_block ["self"] ∧ MethAt K C "kind" "Program.kind" s_Program_kind ["self", "name"]
  z_range : mg "range" = none
  z_len : mg "len" = none
  z_str : mg "str" = none
  z_list : mg "list" = none
  z_enumerate : mg "enumerate" = none
  z_max : mg "max" = none
  z_int : mg "int" = none
  z_tuple : mg "tuple" = none
  z_isinstance : mg "isinstance" = none
  z_bool : mg "bool" = none
  z_sorted : mg "sorted" = none
  z_set : mg "set" = none
  z_sum : mg "sum" = none
  z_dict : mg "dict" = none
  z_min : mg "min" = none
  g_WORDS : ∃ a, mg "WORDS" = some (.ref a) ∧ ∀ H, SqT K H a (words.map V.str)
  g_LETTERS : ∃ t, mg "LETTERS" = some (.str "abcdefghijklmnopqrstuvwxyz" t)
  g_FIGURES : ∃ t, mg "FIGURES" = some (.str "0123456789" t)
  g_LIMIT : ∃ t, mg "LIMIT" = some (.int 1000000 t)
  g_SIGNS : ∃ a, mg "SIGNS" = some (.ref a) ∧ ∀ H, SqT K H a (sgs.map V.str)
  g_DEEPEST_ROW : ∃ t, mg "DEEPEST_ROW" = some (.int 8 t)
  g_MOST_DEEP : ∃ t, mg "MOST_DEEP" = some (.int 12 t)
section
variable {P : Program} {w : World} {K : PySem.W.Frag} {mg : Str → Option Value} {base : Heap}
theorem ok_law_mixed (T : Top K mg) : Cal P w K mg base 1 "_law_mixed" (sp_law_mixed K) := by
  exact cal_of (k := 0) T.f_law_mixed sc_law_mixed (by intro vs H Q E h; repeat (first | (obtain ⟨rfl, _⟩ := h; rfl) | (obtain ⟨_, h⟩ := h))) fun f cdv A outer s H vs Q E hr h => ⟨t_law_mixed K, PSs.nox (pss_one (ps_ret (pe_op o_mod (pe_op o_add (pe_op o_mul (pv 0) pe_int) pe_int) pe_int))), pure_law_mixed K vs H Q E h⟩
theorem ok_law_name_by (T : Top K mg) : Cal P w K mg base 2 "_law_name_by" (sp_law_name_by K) := by
  have c_law_mixed : Cal P w K mg base 1 "_law_mixed" (sp_law_mixed K) := ok_law_mixed T
  exact cal_of (k := 1) T.f_law_name_by sc_law_name_by (by intro vs H Q E h; repeat (first | (obtain ⟨rfl, _⟩ := h; rfl) | (obtain ⟨_, h⟩ := h))) fun f cdv A outer s H vs Q E hr h => ⟨t_law_name_by K, PSs.nox (pss_cons (ps_set (i := 1) sc_law_name_by.nd rfl (by first | exact Or.inl rfl | exact Or.inr rfl) (pe_ix ix_seq pe_str (pe_op o_mod (pe_op o_div (pv 0) pe_int) pe_int) (fun _ _ => rfl))) (pss_cons (ps_set (i := 2) sc_law_name_by.nd rfl (by first | exact Or.inl rfl | exact Or.inr rfl) (pv 0)) (pss_cons (ps_for PassesOwn.never rfl (pi_range1 (by rfl) T.z_range (pa_cons (pe_op o_mod (pv 0) pe_int) pa_nil)) (pg_name (i := 3) sc_law_name_by.nd rfl (by first | exact Or.inl rfl | exact Or.inr rfl)) (pss_cons (ps_set (i := 2) sc_law_name_by.nd rfl (by first | exact Or.inl rfl | exact Or.inr rfl) (pe_f c_law_mixed hr (by decide) (pa_cons (pv 2) pa_nil))) (pss_one (ps_set (i := 1) sc_law_name_by.nd rfl (by first | exact Or.inl rfl | exact Or.inr rfl) (pe_op o_add (pv 1) (pe_ix ix_seq pe_str (pe_op o_mod (pv 2) pe_int) (fun _ _ => rfl))))))) (pss_cons (ps_if (pt_cmpR o_in (pv 1) (pe_lst (pa_cons pe_str (pa_cons pe_str (pa_cons pe_str (pa_cons pe_str (pa_cons pe_str (pa_cons pe_str (pa_cons pe_str pa_nil)))))))) (by first | exact nomark _ | rfl)) (pss_one (ps_ret (pe_op o_add (pv 1) pe_str))) pss_nil) (pss_one (ps_ret (pv 1))))))), pure_law_name_by K vs H Q E h⟩
theorem ok_law_twin (T : Top K mg) : Cal P w K mg base 1 "_law_twin" (sp_law_twin K) := by
  exact cal_of (k := 0) T.f_law_twin sc_law_twin (by intro vs H Q E h; repeat (first | (obtain ⟨rfl, _⟩ := h; rfl) | (obtain ⟨_, h⟩ := h))) fun f cdv A outer s H vs Q E hr h => ⟨t_law_twin K, PSs.nox (pss_cons (ps_set (i := 2) sc_law_twin.nd rfl (by first | exact Or.inl rfl | exact Or.inr rfl) pe_str) (pss_cons (ps_set (i := 3) sc_law_twin.nd rfl (by first | exact Or.inl rfl | exact Or.inr rfl) (pe_op o_mod (pv 1) (pe_callB o_len (by rfl) T.z_len (by decide +kernel) (pa_cons (pv 0) pa_nil)))) (pss_cons (ps_if (pt_cmpR o_gt (pv 3) pe_int (by first | exact nomark _ | rfl)) (pss_one (ps_set (i := 2) sc_law_twin.nd rfl (by first | exact Or.inl rfl | exact Or.inr rfl) (pe_op o_add (pv 2) pe_str))) pss_nil) (pss_cons (ps_set (i := 4) sc_law_twin.nd rfl (by first | exact Or.inl rfl | exact Or.inr rfl) (pe_op o_add (pe_op o_add (pe_bm PySem.F.plainAttrs_str PySem.F.slot_str_find PySem.F.type_str_find mt_find (pv 2) (pa_cons (pe_ix ix_seq (pv 0) (pv 3) (fun _ _ => rfl)) pa_nil)) pe_int) (pe_op o_mod (pe_op o_div (pv 1) pe_int) (pe_op o_sub (pe_callB o_len (by rfl) T.z_len (by decide +kernel) (pa_cons (pv 2) pa_nil)) pe_int)))) (pss_cons (ps_set (i := 5) sc_law_twin.nd rfl (by first | exact Or.inl rfl | exact Or.inr rfl) (pe_op o_add (pe_op o_add (pe_slice o_sl (pv 0) po_none (po_some (pv 3))) (pe_ix ix_seq (pv 2) (pe_op o_mod (pv 4) (pe_callB o_len (by rfl) T.z_len (by decide +kernel) (pa_cons (pv 2) pa_nil))) (fun _ _ => rfl))) (pe_slice o_sl (pv 0) (po_some (pe_op o_add (pv 3) pe_int)) po_none))) (pss_cons (ps_if (pt_cmpR o_in (pv 5) (pe_lst (pa_cons pe_str (pa_cons pe_str (pa_cons pe_str (pa_cons pe_str (pa_cons pe_str (pa_cons pe_str (pa_cons pe_str pa_nil)))))))) (by first | exact nomark _ | rfl)) (pss_one (ps_ret (pe_op o_add (pv 5) pe_str))) pss_nil) (pss_one (ps_ret (pv 5))))))))), pure_law_twin K vs H Q E h⟩
theorem ok_law_names (T : Top K mg) : Cal P w K mg base 3 "_law_names" (sp_law_names K) := by
  have c_law_mixed : Cal P w K mg base 1 "_law_mixed" (sp_law_mixed K) := ok_law_mixed T
  have c_law_name_by : Cal P w K mg base 2 "_law_name_by" (sp_law_name_by K) := ok_law_name_by T
  have c_law_twin : Cal P w K mg base 1 "_law_twin" (sp_law_twin K) := ok_law_twin T
  exact cal_of (k := 2) T.f_law_names sc_law_names (by intro vs H Q E h; repeat (first | (obtain ⟨rfl, _⟩ := h; rfl) | (obtain ⟨_, h⟩ := h))) fun f cdv A outer s H vs Q E hr h => ⟨t_law_names K, PSs.nox (pss_cons (ps_set (i := 2) sc_law_names.nd rfl (by first | exact Or.inl rfl | exact Or.inr rfl) (pe_lst pa_nil)) (pss_cons (ps_for PassesOwn.never rfl (pi_range1 (by rfl) T.z_range (pa_cons pe_int pa_nil)) (pg_name (i := 3) sc_law_names.nd rfl (by first | exact Or.inl rfl | exact Or.inr rfl)) (pss_cons (ps_set (i := 0) sc_law_names.nd rfl (by first | exact Or.inl rfl | exact Or.inr rfl) (pe_f c_law_mixed hr (by decide) (pa_cons (pv 0) pa_nil))) (pss_cons (ps_set (i := 4) sc_law_names.nd rfl (by first | exact Or.inl rfl | exact Or.inr rfl) (pe_f c_law_name_by hr (by decide) (pa_cons (pe_op o_div (pv 0) pe_int) pa_nil))) (pss_cons (ps_if (PW.pt (pw_and (pt_cmpR (o_eq hr.units) (pe_op o_mod (pv 3) pe_int) pe_int (by first | exact nomark _ | rfl)) (pw_and1 (pt_cmpR (o_eq hr.units) (pe_op o_mod (pe_op o_div (pv 1) pe_int) pe_int) pe_int (by first | exact nomark _ | rfl))))) (pss_one (ps_set (i := 4) sc_law_names.nd rfl (by first | exact Or.inl rfl | exact Or.inr rfl) (pe_f c_law_twin hr (by decide) (pa_cons (pe_ix ix_seq (pv 2) (pe_op o_sub (pv 3) pe_int) (fun _ _ => rfl)) (pa_cons (pe_f c_law_mixed hr (by decide) (pa_cons (pe_op o_add (pv 1) (pv 3)) pa_nil)) pa_nil))))) pss_nil) (pss_cons (ps_while PassesOwn.never (PW.pt (pw_or (pt_cmpR o_in (pv 4) (pv 2) (by first | exact nomark _ | rfl)) (pw_or1 (pt_cmpR o_in (pv 4) (pe_lst (pa_cons pe_str (pa_cons pe_str (pa_cons pe_str (pa_cons pe_str (pa_cons pe_str (pa_cons pe_str (pa_cons pe_str pa_nil)))))))) (by first | exact nomark _ | rfl))))) (pss_cons (ps_set (i := 4) sc_law_names.nd rfl (by first | exact Or.inl rfl | exact Or.inr rfl) (pe_op o_add (pe_slice o_sl (pv 4) po_none (po_some pe_int)) (pe_ix ix_seq pe_str (pe_op o_mod (pe_op o_add (pe_op o_add (pv 1) (pe_callB o_len (by rfl) T.z_len (by decide +kernel) (pa_cons (pv 4) pa_nil))) (pv 3)) pe_int) (fun _ _ => rfl)))) (pss_one (ps_set (i := 1) sc_law_names.nd rfl (by first | exact Or.inl rfl | exact Or.inr rfl) (pe_op o_add (pv 1) pe_int))))) (pss_one (ps_expr (pe_bm PySem.F.plainAttrs_list PySem.F.slot_list_append PySem.F.type_list_append mt_append (pv 2) (pa_cons (pv 4) pa_nil))))))))) (pss_one (ps_ret (pv 2))))), pure_law_names K vs H Q E h⟩
theorem ok_law_cell_at (T : Top K mg) : Cal P w K mg base 1 "_law_cell_at" (sp_law_cell_at K) := by
  exact cal_of (k := 0) T.f_law_cell_at sc_law_cell_at (by intro vs H Q E h; repeat (first | (obtain ⟨rfl, _⟩ := h; rfl) | (obtain ⟨_, h⟩ := h))) fun f cdv A outer s H vs Q E hr h => ⟨t_law_cell_at K, PSs.nox (pss_cons (ps_if (pt_cmpR o_lt (pv 1) (pe_callB o_len (by rfl) T.z_len (by decide +kernel) (pa_cons (pv 0) pa_nil)) (by first | exact nomark _ | rfl)) (pss_one (ps_ret (pe_ix ix_seq (pv 0) (pv 1) (fun _ _ => rfl)))) pss_nil) (pss_one (ps_ret pe_int))), pure_law_cell_at K vs H Q E h⟩
theorem ok_law_more (T : Top K mg) : Cal P w K mg base 1 "_law_more" (sp_law_more K) := by
  exact cal_of (k := 0) T.f_law_more sc_law_more (by intro vs H Q E h; repeat (first | (obtain ⟨rfl, _⟩ := h; rfl) | (obtain ⟨_, h⟩ := h))) fun f cdv A outer s H vs Q E hr h => ⟨t_law_more K, PSs.nox (pss_cons (ps_set (i := 2) sc_law_more.nd rfl (by first | exact Or.inl rfl | exact Or.inr rfl) (pe_ix ix_seq (pe_lst (pa_cons pe_int (pa_cons (pe_op o_mod (pe_op o_div (pv 1) pe_int) pe_int) (pa_cons (pe_op o_mod (pe_op o_div (pv 1) pe_int) pe_int) (pa_cons pe_int pa_nil))))) (pe_op o_mod (pv 1) pe_int) (fun _ _ => rfl))) (pss_cons (ps_set (i := 3) sc_law_more.nd rfl (by first | exact Or.inl rfl | exact Or.inr rfl) (pe_lst (pa_cons (pe_lc (own := [("_law_k", 4)]) (g := (gName 4)) (tt := tYes) rfl sc_law_more.nd (pi_range1 (by rfl) T.z_range (pa_cons (pv 2) pa_nil)) (blkOk_by (own := [("_law_k", 4)]) (N := M_law_more) (sc := defScope s_law_more) (by decide +kernel)) (fun _ _ _ _ _ => (pg_name (i := 4) sc_law_more.nd rfl (by first | exact Or.inl rfl | exact Or.inr rfl))) (fun _ _ _ _ _ => pts_nil) (fun _ _ _ _ _ => (pe_op o_add pe_str (pe_callTy o_str (by rfl) T.z_str (by decide +kernel) (pa_cons (pv 4) pa_nil))))) (pa_cons (pe_lc (own := [("_law_k", 4)]) (g := (gName 4)) (tt := tYes) rfl sc_law_more.nd (pi_range1 (by rfl) T.z_range (pa_cons (pe_op o_add (pv 2) (pe_op o_mod (pe_op o_div (pv 1) pe_int) pe_int)) pa_nil)) (blkOk_by (own := [("_law_k", 4)]) (N := M_law_more) (sc := defScope s_law_more) (by decide +kernel)) (fun _ _ _ _ _ => (pg_name (i := 4) sc_law_more.nd rfl (by first | exact Or.inl rfl | exact Or.inr rfl))) (fun _ _ _ _ _ => pts_nil) (fun _ _ _ _ _ => (pe_op o_add pe_str (pe_callTy o_str (by rfl) T.z_str (by decide +kernel) (pa_cons (pv 4) pa_nil))))) pa_nil)))) (pss_one (ps_ret (pe_lc (own := [("_law_row", 5)]) (g := (gName 5)) (tt := tYes) rfl sc_law_more.nd (pi_seq (pv 3)) (blkOk_by (own := [("_law_row", 5)]) (N := M_law_more) (sc := defScope s_law_more) (by decide +kernel)) (fun _ _ _ _ _ => (pg_name (i := 5) sc_law_more.nd rfl (by first | exact Or.inl rfl | exact Or.inr rfl))) (fun _ _ _ _ _ => pts_nil) (fun _ _ _ _ _ => (pe_lc (own := [("_law_name", 6)]) (g := (gName 6)) (tt := (tTest (tOp (rIn2 K true) (tVar 6) (tVar 0)))) rfl sc_law_more.nd (pi_seq (pv 5)) (blkOk_by (own := [("_law_name", 6)]) (N := M_law_more) (by rfl)) (fun _ _ _ _ _ => (pg_name (i := 6) sc_law_more.nd rfl (by first | exact Or.inl rfl | exact Or.inr rfl))) (fun _ _ _ _ _ => (pts_one (pt_cmpR o_nin (pv 6) (pv 0) (by first | exact nomark _ | rfl)))) (fun _ _ _ _ _ => (pv 6))))))))), pure_law_more K vs H Q E h⟩
theorem ok_law_told (T : Top K mg) : Cal P w K mg base 1 "_law_told" (sp_law_told K) := by
  exact cal_of (k := 0) T.f_law_told sc_law_told (by intro vs H Q E h; repeat (first | (obtain ⟨rfl, _⟩ := h; rfl) | (obtain ⟨_, h⟩ := h))) fun f cdv A outer s H vs Q E hr h => ⟨t_law_told K, PSs.nox (pss_cons (ps_set (i := 3) sc_law_told.nd rfl (by first | exact Or.inl rfl | exact Or.inr rfl) (pe_lst (pa_cons (pe_callTy (o_list rfl) (by rfl) T.z_list (by decide +kernel) (pa_cons (pe_ix ix_seq (pv 1) pe_int (fun _ _ => rfl)) pa_nil)) (pa_cons (pe_callTy (o_list rfl) (by rfl) T.z_list (by decide +kernel) (pa_cons (pe_ix ix_seq (pv 1) pe_int (fun _ _ => rfl)) pa_nil)) pa_nil)))) (pss_cons (ps_set (i := 4) sc_law_told.nd rfl (by first | exact Or.inl rfl | exact Or.inr rfl) (pv 2)) (pss_cons (ps_for PassesOwn.never rfl (pi_enum (by rfl) T.z_enumerate (pa_cons (pv 0) pa_nil)) (pg_tup rfl (pgs_cons (pg_name (i := 5) sc_law_told.nd rfl (by first | exact Or.inl rfl | exact Or.inr rfl)) (pgs_cons (pg_name (i := 6) sc_law_told.nd rfl (by first | exact Or.inl rfl | exact Or.inr rfl)) pgs_nil))) (pss_cons (ps_if (pt_cmpR o_gt (pe_op o_mod (pv 4) pe_int) pe_int (by first | exact nomark _ | rfl)) (pss_one (ps_expr (pe_bm PySem.F.plainAttrs_list PySem.F.slot_list_append PySem.F.type_list_append mt_append (pe_ix ix_seq (pv 3) (pe_op o_div (pv 5) pe_int) (fun _ _ => rfl)) (pa_cons (pv 6) pa_nil)))) pss_nil) (pss_one (ps_set (i := 4) sc_law_told.nd rfl (by first | exact Or.inl rfl | exact Or.inr rfl) (pe_op o_div (pv 4) pe_int))))) (pss_cons (ps_set (i := 7) sc_law_told.nd rfl (by first | exact Or.inl rfl | exact Or.inr rfl) (pe_lst (pa_cons (pe_op o_mod (pe_op o_div (pv 2) pe_int) (pe_callB (o_max rfl) (by rfl) T.z_max (by decide +kernel) (pa_cons pe_int (pa_cons (pe_callB o_len (by rfl) T.z_len (by decide +kernel) (pa_cons (pe_ix ix_seq (pv 3) pe_int (fun _ _ => rfl)) pa_nil)) pa_nil)))) (pa_cons (pe_op o_mod (pe_op o_div (pv 2) pe_int) (pe_callB (o_max rfl) (by rfl) T.z_max (by decide +kernel) (pa_cons pe_int (pa_cons (pe_callB o_len (by rfl) T.z_len (by decide +kernel) (pa_cons (pe_ix ix_seq (pv 3) pe_int (fun _ _ => rfl)) pa_nil)) pa_nil)))) pa_nil)))) (pss_one (ps_ret (pe_lst (pa_cons (pe_op o_add (pe_slice o_sl (pe_ix ix_seq (pv 3) pe_int (fun _ _ => rfl)) (po_some (pe_ix ix_seq (pv 7) pe_int (fun _ _ => rfl))) po_none) (pe_slice o_sl (pe_ix ix_seq (pv 3) pe_int (fun _ _ => rfl)) po_none (po_some (pe_ix ix_seq (pv 7) pe_int (fun _ _ => rfl))))) (pa_cons (pe_op o_add (pe_slice o_sl (pe_ix ix_seq (pv 3) pe_int (fun _ _ => rfl)) (po_some (pe_ix ix_seq (pv 7) pe_int (fun _ _ => rfl))) po_none) (pe_slice o_sl (pe_ix ix_seq (pv 3) pe_int (fun _ _ => rfl)) po_none (po_some (pe_ix ix_seq (pv 7) pe_int (fun _ _ => rfl))))) pa_nil))))))))), pure_law_told K vs H Q E h⟩
theorem ok_law_end_by (T : Top K mg) : Cal P w K mg base 1 "_law_end_by" (sp_law_end_by K) := by
  exact cal_of (k := 0) T.f_law_end_by sc_law_end_by (by intro vs H Q E h; repeat (first | (obtain ⟨rfl, _⟩ := h; rfl) | (obtain ⟨_, h⟩ := h))) fun f cdv A outer s H vs Q E hr h => ⟨t_law_end_by K, PSs.nox (pss_cons (ps_if (PW.pt (pw_and (pt_cmpR (o_ne hr.units) (pv 1) (pe_lst pa_nil) (by first | exact nomark _ | rfl)) (pw_and1 (pt_cmpR o_gt (pe_op o_mod (pv 0) pe_int) pe_int (by first | exact nomark _ | rfl))))) (pss_one (ps_ret (pe_tup (pa_cons pe_str (pa_cons (pe_ix ix_seq (pv 1) (pe_op o_mod (pe_op o_div (pv 0) pe_int) (pe_callB o_len (by rfl) T.z_len (by decide +kernel) (pa_cons (pv 1) pa_nil))) (fun _ _ => rfl)) pa_nil))))) pss_nil) (pss_cons (ps_if (pt_cmpR (o_eq hr.units) (pe_op o_mod (pe_op o_div (pv 0) pe_int) pe_int) pe_int (by first | exact nomark _ | rfl)) (pss_one (ps_ret (pe_tup (pa_cons pe_str (pa_cons (pe_op o_mod (pe_op o_div (pv 0) pe_int) (pe_op o_pow pe_int pe_int)) pa_nil))))) pss_nil) (pss_one (ps_ret (pe_tup (pa_cons pe_str (pa_cons (pe_op o_mod (pe_op o_div (pv 0) pe_int) pe_int) pa_nil))))))), pure_law_end_by K vs H Q E h⟩
theorem ok_law_formula_by (T : Top K mg) : ∀ n : Nat, Cal P w K mg base (1 + n) "_law_formula_by" (sp_law_formula_by K n)
  | 0 => cal_none T.f_law_formula_by no_law_formula_by
  | n + 1 => by
    have c_law_formula_by : Cal P w K mg base (1 + n) "_law_formula_by" (sp_law_formula_by K n) := ok_law_formula_by T n
    have c_law_mixed : Cal P w K mg base 1 "_law_mixed" (sp_law_mixed K) := ok_law_mixed T
    have c_law_end_by : Cal P w K mg base 1 "_law_end_by" (sp_law_end_by K) := ok_law_end_by T
    exact cal_of (k := 1 + n) T.f_law_formula_by sc_law_formula_by (by intro vs H Q E h; repeat (first | (obtain ⟨rfl, _⟩ := h; rfl) | (obtain ⟨_, h⟩ := h))) fun f cdv A outer s H vs Q E hr h => ⟨t_law_formula_by K n, PSs.nox (pss_cons (ps_set (i := 0) sc_law_formula_by.nd rfl (by first | exact Or.inl rfl | exact Or.inr rfl) (pe_f c_law_mixed hr (by omega) (pa_cons (pv 0) pa_nil))) (pss_cons (ps_if (PW.pt (pw_or (pt_cmpR (o_eq hr.units) (pv 4) pe_int (by first | exact nomark _ | rfl)) (pw_or1 (pt_cmpR o_lt (pe_op o_mod (pv 0) pe_int) pe_int (by first | exact nomark _ | rfl))))) (pss_one (ps_ret (pe_f c_law_end_by hr (by omega) (pa_cons (pe_op o_div (pv 0) pe_int) (pa_cons (pv 1) pa_nil))))) pss_nil) (pss_cons (ps_set (i := 5) sc_law_formula_by.nd rfl (by first | exact Or.inl rfl | exact Or.inr rfl) (pe_ix ix_seq (pe_lst (pa_cons pe_str (pa_cons pe_str (pa_cons pe_str (pa_cons pe_str (pa_cons pe_str (pa_cons pe_str (pa_cons pe_str (pa_cons pe_str (pa_cons pe_str (pa_cons pe_str pa_nil))))))))))) (pe_op o_mod (pe_op o_div (pv 0) pe_int) (pe_ix ix_seq (pe_lst (pa_cons pe_int (pa_cons pe_int pa_nil))) (pe_callTy o_int (by rfl) T.z_int (by decide +kernel) (pa_cons (pv 3) pa_nil)) (fun _ _ => rfl))) (fun _ _ => rfl))) (pss_cons (ps_set (i := 6) sc_law_formula_by.nd rfl (by first | exact Or.inl rfl | exact Or.inr rfl) (pe_f c_law_formula_by hr (by omega) (pa_cons (pe_op o_add (pe_op o_mul (pv 0) pe_int) pe_int) (pa_cons (pv 1) (pa_cons (pv 2) (pa_cons (pv 3) (pa_cons (pe_op o_sub (pv 4) pe_int) pa_nil))))))) (pss_cons (ps_if (PW.pt (pw_and (pt_cmpR (o_eq hr.units) (pv 5) pe_str (by first | exact nomark _ | rfl)) (pw_and1 (pt_cmpR o_lt (pe_op o_mod (pe_op o_div (pv 0) pe_int) pe_int) pe_int (by first | exact nomark _ | rfl))))) (pss_one (ps_ret (pe_tup (pa_cons (pv 5) (pa_cons (pv 6) (pa_cons (pe_tup (pa_cons pe_str (pa_cons (pe_op o_add pe_int (pe_op o_mod (pe_op o_div (pv 0) pe_int) pe_int)) pa_nil))) pa_nil)))))) pss_nil) (pss_cons (ps_if (pt_cmpR (o_eq hr.units) (pv 5) pe_str (by first | exact nomark _ | rfl)) (pss_one (ps_ret (pe_tup (pa_cons (pv 5) (pa_cons (pv 6) (pa_cons (pe_f c_law_formula_by hr (by omega) (pa_cons (pe_op o_add (pe_op o_mul (pv 0) pe_int) pe_int) (pa_cons (pv 2) (pa_cons (pv 2) (pa_cons (pv 3) (pa_cons (pe_op o_sub (pv 4) pe_int) pa_nil)))))) pa_nil)))))) pss_nil) (pss_one (ps_ret (pe_tup (pa_cons (pv 5) (pa_cons (pv 6) (pa_cons (pe_f c_law_formula_by hr (by omega) (pa_cons (pe_op o_add (pe_op o_mul (pv 0) pe_int) pe_int) (pa_cons (pv 1) (pa_cons (pv 2) (pa_cons (pv 3) (pa_cons (pe_op o_sub (pv 4) pe_int) pa_nil)))))) pa_nil)))))))))))), pure_law_formula_by K n vs H Q E h⟩
theorem ok_law_all_names (T : Top K mg) : ∀ n : Nat, Cal P w K mg base (0 + n) "_law_all_names" (sp_law_all_names K n)
  | 0 => cal_none T.f_law_all_names no_law_all_names
  | n + 1 => by
    have c_law_all_names : Cal P w K mg base (0 + n) "_law_all_names" (sp_law_all_names K n) := ok_law_all_names T n
    exact cal_of (k := 0 + n) T.f_law_all_names sc_law_all_names (by intro vs H Q E h; repeat (first | (obtain ⟨rfl, _⟩ := h; rfl) | (obtain ⟨_, h⟩ := h))) fun f cdv A outer s H vs Q E hr h => ⟨t_law_all_names K n, PSs.nox (pss_cons (ps_if (pt_cmpR (o_eq hr.units) (pe_ix ix_seq (pv 0) pe_int (fun _ _ => rfl)) pe_str (by first | exact nomark _ | rfl)) (pss_one (ps_ret (pe_lst pa_nil))) pss_nil) (pss_cons (ps_if (pt_cmpR (o_eq hr.units) (pe_ix ix_seq (pv 0) pe_int (fun _ _ => rfl)) pe_str (by first | exact nomark _ | rfl)) (pss_one (ps_ret (pe_lst (pa_cons (pe_ix ix_seq (pv 0) pe_int (fun _ _ => rfl)) pa_nil)))) pss_nil) (pss_one (ps_ret (pe_op o_add (pe_f c_law_all_names hr (by omega) (pa_cons (pe_ix ix_seq (pv 0) pe_int (fun _ _ => rfl)) pa_nil)) (pe_f c_law_all_names hr (by omega) (pa_cons (pe_ix ix_seq (pv 0) pe_int (fun _ _ => rfl)) pa_nil))))))), pure_law_all_names K n vs H Q E h⟩
theorem ok_law_row_by (T : Top K mg) : Cal P w K mg base 19 "_law_row_by" (sp_law_row_by K) := by
  have c_law_formula_by : Cal P w K mg base 7 "_law_formula_by" (sp_law_formula_by K 6) := ok_law_formula_by T 6
  have c_law_all_names : Cal P w K mg base 18 "_law_all_names" (sp_law_all_names K 18) := ok_law_all_names T 18
  exact cal_of (k := 18) T.f_law_row_by sc_law_row_by (by intro vs H Q E h; repeat (first | (obtain ⟨rfl, _⟩ := h; rfl) | (obtain ⟨_, h⟩ := h))) fun f cdv A outer s H vs Q E hr h => ⟨t_law_row_by K, PSs.nox (pss_cons (ps_set (i := 4) sc_law_row_by.nd rfl (by first | exact Or.inl rfl | exact Or.inr rfl) (pe_slice o_sl (pv 0) po_none (po_some pe_int))) (pss_cons (ps_set (i := 5) sc_law_row_by.nd rfl (by first | exact Or.inl rfl | exact Or.inr rfl) (pv 0)) (pss_cons (ps_if (PW.pt (pw_or (PW.pt (pw_and (pt_cmpR (o_eq hr.units) (pv 3) pe_int (by first | exact nomark _ | rfl)) (pw_and1 (pt_cmpR (o_eq hr.units) (pe_op o_mod (pe_op o_div (pv 1) pe_int) pe_int) pe_int (by first | exact nomark _ | rfl))))) (pw_or1 (PW.pt (pw_and (pt_cmpR (o_eq hr.units) (pv 3) pe_int (by first | exact nomark _ | rfl)) (pw_and (pt_val (pv 2)) (pw_and1 (pt_cmpR o_gt (pe_op o_mod (pe_op o_div (pv 1) pe_int) pe_int) pe_int (by first | exact nomark _ | rfl))))))))) (pss_one (ps_set (i := 5) sc_law_row_by.nd rfl (by first | exact Or.inl rfl | exact Or.inr rfl) (pv 4))) (pss_one (ps_if (pt_cmpR (o_eq hr.units) (pv 3) pe_int (by first | exact nomark _ | rfl)) (pss_one (ps_set (i := 5) sc_law_row_by.nd rfl (by first | exact Or.inl rfl | exact Or.inr rfl) (pe_slice o_sl (pv 0) (po_some pe_int) po_none))) pss_nil))) (pss_cons (ps_if (pt_cmpR o_gt (pv 3) pe_int (by first | exact nomark _ | rfl)) (pss_one (ps_set (i := 4) sc_law_row_by.nd rfl (by first | exact Or.inl rfl | exact Or.inr rfl) (pv 5))) pss_nil) (pss_cons (ps_set (i := 6) sc_law_row_by.nd rfl (by first | exact Or.inl rfl | exact Or.inr rfl) (pe_f c_law_formula_by hr (by decide) (pa_cons (pv 1) (pa_cons (pv 5) (pa_cons (pv 4) (pa_cons (pe_or (pe_cmpR o_gt (pv 3) pe_int (by first | exact nomark _ | rfl)) (pe_one (pe_not (pv 2)))) (pa_cons (pe_op o_add pe_int (pe_op o_mod (pe_op o_div (pv 1) pe_int) pe_int)) pa_nil))))))) (pss_one (ps_ret (pe_tup (pa_cons (pv 6) (pa_cons (pe_cmpR (o_ne hr.units) (pe_lc (own := [("_law_name", 7)]) (g := (gName 7)) (tt := (tTest (tOp (rIn2 K false) (tVar 7) (tSl (rSl K) (tVar 0) (tPart (tC (.int 5))) tNoPart)))) rfl sc_law_row_by.nd (pi_seq (pe_f c_law_all_names hr (by decide) (pa_cons (pv 6) pa_nil))) (blkOk_by (own := [("_law_name", 7)]) (N := M_law_row_by) (sc := defScope s_law_row_by) (by decide +kernel)) (fun _ _ _ _ _ => (pg_name (i := 7) sc_law_row_by.nd rfl (by first | exact Or.inl rfl | exact Or.inr rfl))) (fun _ _ _ _ _ => (pts_one (pt_cmpR o_in (pv 7) (pe_slice o_sl (pv 0) (po_some pe_int) po_none) (by first | exact nomark _ | rfl)))) (fun _ _ _ _ _ => (pv 7))) (pe_lst pa_nil) (by first | exact nomark _ | rfl)) pa_nil)))))))))), pure_law_row_by K vs H Q E h⟩
theorem ok_law_closed (T : Top K mg) : Cal P w K mg base 1 "_law_closed" (sp_law_closed K) := by
  exact cal_of (k := 0) T.f_law_closed sc_law_closed (by intro vs H Q E h; repeat (first | (obtain ⟨rfl, _⟩ := h; rfl) | (obtain ⟨_, h⟩ := h))) fun f cdv A outer s H vs Q E hr h => ⟨t_law_closed K, PSs.nox (pss_cons (ps_set (i := 1) sc_law_closed.nd rfl (by first | exact Or.inl rfl | exact Or.inr rfl) (pe_bm0 PySem.F.plainAttrs_list PySem.F.slot_list_pop PySem.F.type_list_pop mt_pop (pv 0))) (pss_one (ps_if (pt_cmpR (o_eq hr.units) (pe_ix ix_seq (pv 1) pe_int (fun _ _ => rfl)) pe_str (by first | exact nomark _ | rfl)) (pss_cons (ps_if (PW.pt (pw_and (pt_cmpR (o_eq hr.units) (pe_ix ix_seq (pe_ix ix_seq (pv 1) pe_int (fun _ _ => rfl)) pe_int (fun _ _ => rfl)) pe_str (by first | exact nomark _ | rfl)) (pw_and1 (pt_cmpR (o_eq hr.units) (pe_ix ix_seq (pe_ix ix_seq (pe_ix ix_seq (pv 1) pe_int (fun _ _ => rfl)) pe_int (fun _ _ => rfl)) pe_int (fun _ _ => rfl)) pe_str (by first | exact nomark _ | rfl))))) (pss_one (ps_expr (pe_bm PySem.F.plainAttrs_list PySem.F.slot_list_append PySem.F.type_list_append mt_append (pe_ix ix_seq (pv 1) pe_int (fun _ _ => rfl)) (pa_cons (pe_tup (pa_cons pe_str (pa_cons (pe_ix ix_seq (pe_ix ix_seq (pe_ix ix_seq (pv 1) pe_int (fun _ _ => rfl)) pe_int (fun _ _ => rfl)) pe_int (fun _ _ => rfl)) (pa_cons (pe_tup (pa_cons pe_str (pa_cons (pe_ix ix_seq (pe_ix ix_seq (pv 1) pe_int (fun _ _ => rfl)) pe_int (fun _ _ => rfl)) (pa_cons (pe_tup (pa_cons pe_str (pa_cons pe_int pa_nil))) pa_nil)))) pa_nil)))) pa_nil)))) pss_nil) (pss_one (ps_expr (pe_bm PySem.F.plainAttrs_list PySem.F.slot_list_append PySem.F.type_list_append mt_append (pe_ix ix_seq (pe_ix ix_seq (pv 0) (pe_un o_neg pe_int) (fun _ _ => rfl)) pe_int (fun _ _ => rfl)) (pa_cons (pe_tup (pa_cons pe_str (pa_cons (pe_ix ix_seq (pv 1) pe_int (fun _ _ => rfl)) (pa_cons (pe_callTy o_tuple (by rfl) T.z_tuple (by decide +kernel) (pa_cons (pe_ix ix_seq (pv 1) pe_int (fun _ _ => rfl)) pa_nil)) pa_nil)))) pa_nil))))) (pss_one (ps_if (pt_cmpR o_isN (pe_ix ix_seq (pv 1) pe_int (fun _ _ => rfl)) pe_non (by first | exact nomark _ | rfl)) (pss_one (ps_expr (pe_bm PySem.F.plainAttrs_list PySem.F.slot_list_append PySem.F.type_list_append mt_append (pv 0) (pa_cons (pe_lst (pa_cons (pe_ix ix_seq (pv 1) pe_int (fun _ _ => rfl)) (pa_cons (pe_ix ix_seq (pv 1) pe_int (fun _ _ => rfl)) (pa_cons (pe_lst pa_nil) (pa_cons (pe_ix ix_seq (pv 1) pe_int (fun _ _ => rfl)) (pa_cons (pe_callTy o_tuple (by rfl) T.z_tuple (by decide +kernel) (pa_cons (pe_ix ix_seq (pv 1) pe_int (fun _ _ => rfl)) pa_nil)) pa_nil)))))) pa_nil)))) (pss_one (ps_expr (pe_bm PySem.F.plainAttrs_list PySem.F.slot_list_append PySem.F.type_list_append mt_append (pe_ix ix_seq (pe_ix ix_seq (pv 0) (pe_un o_neg pe_int) (fun _ _ => rfl)) pe_int (fun _ _ => rfl)) (pa_cons (pe_tup (pa_cons pe_str (pa_cons (pe_ix ix_seq (pv 1) pe_int (fun _ _ => rfl)) (pa_cons (pe_ix ix_seq (pv 1) pe_int (fun _ _ => rfl)) (pa_cons (pe_callTy o_tuple (by rfl) T.z_tuple (by decide +kernel) (pa_cons (pe_ix ix_seq (pv 1) pe_int (fun _ _ => rfl)) pa_nil)) pa_nil))))) pa_nil))))))))), pure_law_closed K vs H Q E h⟩
theorem ok_law_put (T : Top K mg) : Cal P w K mg base 20 "_law_put" (sp_law_put K) := by
  have c_law_row_by : Cal P w K mg base 19 "_law_row_by" (sp_law_row_by K) := ok_law_row_by T
  have c_law_closed : Cal P w K mg base 1 "_law_closed" (sp_law_closed K) := ok_law_closed T
  exact cal_of (k := 19) T.f_law_put sc_law_put (by intro vs H Q E h; repeat (first | (obtain ⟨rfl, _⟩ := h; rfl) | (obtain ⟨_, h⟩ := h))) fun f cdv A outer s H vs Q E hr h => ⟨t_law_put K, PSs.nox (pss_cons (ps_set (i := 4) sc_law_put.nd rfl (by first | exact Or.inl rfl | exact Or.inr rfl) (pe_op o_mod (pv 2) pe_int)) (pss_cons (ps_set (i := 5) sc_law_put.nd rfl (by first | exact Or.inl rfl | exact Or.inr rfl) (pe_cmpR (o_ne hr.units) (pe_lc (own := [("_law_frame", 6)]) (g := (gName 6)) (tt := (tB (tOp (rIx K) (tVar 6) (tC (.int 3))))) rfl sc_law_put.nd (pi_seq (pv 0)) (blkOk_by (own := [("_law_frame", 6)]) (N := M_law_put) (sc := defScope s_law_put) (by decide +kernel)) (fun _ _ _ _ _ => (pg_name (i := 6) sc_law_put.nd rfl (by first | exact Or.inl rfl | exact Or.inr rfl))) (fun _ _ _ _ _ => (pts_one (pt_val (pe_ix ix_seq (pv 6) pe_int (fun _ _ => rfl))))) (fun _ _ _ _ _ => (pv 6))) (pe_lst pa_nil) (by first | exact nomark _ | rfl))) (pss_cons (ps_asg (pe_f c_law_row_by hr (by decide) (pa_cons (pv 1) (pa_cons (pv 2) (pa_cons (pv 5) (pa_cons (pv 3) pa_nil))))) (pg_tup rfl (pgs_cons (pg_name (i := 7) sc_law_put.nd rfl (by first | exact Or.inl rfl | exact Or.inr rfl)) (pgs_cons (pg_name (i := 8) sc_law_put.nd rfl (by first | exact Or.inl rfl | exact Or.inr rfl)) pgs_nil)))) (pss_cons (ps_set (i := 9) sc_law_put.nd rfl (by first | exact Or.inl rfl | exact Or.inr rfl) (pe_and (pe_cmpR (o_eq hr.units) (pv 3) pe_int (by first | exact nomark _ | rfl)) (pe_one (pe_or (pv 5) (pe_one (pv 8)))))) (pss_cons (ps_if (pt_cmpR (o_eq hr.units) (pv 3) pe_int (by first | exact nomark _ | rfl)) (pss_one (ps_set (i := 4) sc_law_put.nd rfl (by first | exact Or.inl rfl | exact Or.inr rfl) (pe_ix ix_seq (pe_lst (pa_cons pe_int (pa_cons pe_int (pa_cons pe_int (pa_cons pe_int pa_nil))))) (pe_op o_mod (pe_op o_div (pv 2) pe_int) pe_int) (fun _ _ => rfl)))) pss_nil) (pss_one (ps_if (pt_cmpR o_lt (pv 4) pe_int (by first | exact nomark _ | rfl)) (pss_cons (ps_set (i := 10) sc_law_put.nd rfl (by first | exact Or.inl rfl | exact Or.inr rfl) (pe_ix ix_seq (pe_lst (pa_cons (pv 1) (pa_cons (pv 1) (pa_cons (pe_ix ix_seq (pe_lst (pa_cons (pe_slice o_sl (pv 1) po_none (po_some pe_int)) (pa_cons (pe_slice o_sl (pv 1) (po_some pe_int) po_none) pa_nil))) (pe_callTy o_int (by rfl) T.z_int (by decide +kernel) (pa_cons (pe_cmpR (o_eq hr.units) (pe_op o_mod (pe_op o_div (pv 2) pe_int) pe_int) pe_int (by first | exact nomark _ | rfl)) pa_nil)) (fun _ _ => rfl)) pa_nil)))) (pv 3) (fun _ _ => rfl))) (pss_cons (ps_if (pt_val (pv 9)) (pss_one (ps_set (i := 10) sc_law_put.nd rfl (by first | exact Or.inl rfl | exact Or.inr rfl) (pe_slice o_sl (pv 1) (po_some pe_int) po_none))) pss_nil) (pss_one (ps_expr (pe_bm PySem.F.plainAttrs_list PySem.F.slot_list_append PySem.F.type_list_append mt_append (pe_ix ix_seq (pe_ix ix_seq (pv 0) (pe_un o_neg pe_int) (fun _ _ => rfl)) pe_int (fun _ _ => rfl)) (pa_cons (pe_tup (pa_cons pe_str (pa_cons (pe_ix ix_seq (pv 10) (pe_op o_mod (pe_op o_div (pv 2) pe_int) (pe_callB o_len (by rfl) T.z_len (by decide +kernel) (pa_cons (pv 10) pa_nil))) (fun _ _ => rfl)) (pa_cons (pv 7) pa_nil)))) pa_nil)))))) (pss_one (ps_if (PW.pt (pw_and (pt_cmpR (o_eq hr.units) (pv 4) pe_int (by first | exact nomark _ | rfl)) (pw_and1 (pt_not (pt_val (pv 9)))))) (pss_one (ps_expr (pe_bm PySem.F.plainAttrs_list PySem.F.slot_list_append PySem.F.type_list_append mt_append (pe_ix ix_seq (pe_ix ix_seq (pv 0) (pe_un o_neg pe_int) (fun _ _ => rfl)) pe_int (fun _ _ => rfl)) (pa_cons (pe_tup (pa_cons pe_str (pa_cons (pv 7) pa_nil))) pa_nil)))) (pss_one (ps_if (pt_cmpR (o_eq hr.units) (pv 4) pe_int (by first | exact nomark _ | rfl)) (pss_one (ps_expr (pe_bm PySem.F.plainAttrs_list PySem.F.slot_list_append PySem.F.type_list_append mt_append (pe_ix ix_seq (pe_ix ix_seq (pv 0) (pe_un o_neg pe_int) (fun _ _ => rfl)) pe_int (fun _ _ => rfl)) (pa_cons (pe_tup (pa_cons pe_str pa_nil)) pa_nil)))) (pss_one (ps_if (PW.pt (pw_and (pt_cmpR o_lt (pv 4) pe_int (by first | exact nomark _ | rfl)) (pw_and1 (pt_cmpR o_lt (pe_callB o_len (by rfl) T.z_len (by decide +kernel) (pa_cons (pv 0) pa_nil)) pe_int (by first | exact nomark _ | rfl))))) (pss_one (ps_expr (pe_bm PySem.F.plainAttrs_list PySem.F.slot_list_append PySem.F.type_list_append mt_append (pv 0) (pa_cons (pe_lst (pa_cons pe_str (pa_cons (pv 7) (pa_cons (pe_lst pa_nil) (pa_cons (pv 8) (pa_cons pe_non pa_nil)))))) pa_nil)))) (pss_one (ps_if (PW.pt (pw_and (pt_cmpR o_lt (pv 4) pe_int (by first | exact nomark _ | rfl)) (pw_and (pt_cmpR o_lt (pe_callB o_len (by rfl) T.z_len (by decide +kernel) (pa_cons (pv 0) pa_nil)) pe_int (by first | exact nomark _ | rfl)) (pw_and1 (pt_not (pt_val (pv 9))))))) (pss_cons (ps_if (PW.pt (pw_and (pt_cmpR (o_eq hr.units) (pv 3) pe_int (by first | exact nomark _ | rfl)) (pw_and1 (pt_cmpR o_gt (pe_op o_mod (pe_op o_div (pv 2) pe_int) pe_int) pe_int (by first | exact nomark _ | rfl))))) (pss_one (ps_set (i := 7) sc_law_put.nd rfl (by first | exact Or.inl rfl | exact Or.inr rfl) (pe_tup (pa_cons pe_str (pa_cons (pe_tup (pa_cons pe_str (pa_cons (pe_ix ix_seq (pv 1) (pe_op o_mod (pe_op o_div (pv 2) pe_int) pe_int) (fun _ _ => rfl)) pa_nil))) (pa_cons (pe_tup (pa_cons pe_str (pa_cons (pe_op o_add pe_int (pe_op o_mod (pe_op o_div (pv 2) pe_int) pe_int)) pa_nil))) pa_nil)))))) pss_nil) (pss_one (ps_expr (pe_bm PySem.F.plainAttrs_list PySem.F.slot_list_append PySem.F.type_list_append mt_append (pv 0) (pa_cons (pe_lst (pa_cons pe_str (pa_cons (pv 7) (pa_cons (pe_lst pa_nil) (pa_cons (pv 8) (pa_cons pe_non pa_nil)))))) pa_nil))))) (pss_one (ps_if (pt_cmpR o_gt (pe_callB o_len (by rfl) T.z_len (by decide +kernel) (pa_cons (pv 0) pa_nil)) pe_int (by first | exact nomark _ | rfl)) (pss_one (ps_expr (pe_f c_law_closed hr (by decide) (pa_cons (pv 0) pa_nil)))) pss_nil))))))))))))))))), pure_law_put K vs H Q E h⟩
theorem ok_law_block_by (T : Top K mg) : Cal P w K mg base 21 "_law_block_by" (sp_law_block_by K) := by
  have c_law_mixed : Cal P w K mg base 1 "_law_mixed" (sp_law_mixed K) := ok_law_mixed T
  have c_law_put : Cal P w K mg base 20 "_law_put" (sp_law_put K) := ok_law_put T
  have c_law_closed : Cal P w K mg base 1 "_law_closed" (sp_law_closed K) := ok_law_closed T
  exact cal_of (k := 20) T.f_law_block_by sc_law_block_by (by intro vs H Q E h; repeat (first | (obtain ⟨rfl, _⟩ := h; rfl) | (obtain ⟨_, h⟩ := h))) fun f cdv A outer s H vs Q E hr h => ⟨t_law_block_by K, PSs.nox (pss_cons (ps_set (i := 3) sc_law_block_by.nd rfl (by first | exact Or.inl rfl | exact Or.inr rfl) (pe_lst (pa_cons (pe_lst (pa_cons pe_str (pa_cons pe_non (pa_cons (pe_lst pa_nil) (pa_cons pe_bl (pa_cons pe_non pa_nil)))))) pa_nil))) (pss_cons (ps_for PassesOwn.never rfl (pi_enum (by rfl) T.z_enumerate (pa_cons (pv 0) pa_nil)) (pg_tup rfl (pgs_cons (pg_name (i := 4) sc_law_block_by.nd rfl (by first | exact Or.inl rfl | exact Or.inr rfl)) (pgs_cons (pg_name (i := 5) sc_law_block_by.nd rfl (by first | exact Or.inl rfl | exact Or.inr rfl)) pgs_nil))) (pss_cons (ps_set (i := 6) sc_law_block_by.nd rfl (by first | exact Or.inl rfl | exact Or.inr rfl) (pe_f c_law_mixed hr (by decide) (pa_cons (pe_op o_mul (pe_f c_law_mixed hr (by decide) (pa_cons (pe_op o_add (pv 5) (pe_op o_mul pe_int (pv 4))) pa_nil)) (pe_op o_add (pv 4) pe_int)) pa_nil))) (pss_cons (ps_set (i := 7) sc_law_block_by.nd rfl (by first | exact Or.inl rfl | exact Or.inr rfl) pe_int) (pss_cons (ps_if (PW.pt (pw_and (pt_cmpR (o_eq hr.units) (pv 2) pe_int (by first | exact nomark _ | rfl)) (pw_and1 (pt_cmpR (o_eq hr.units) (pe_op o_mod (pe_op o_div (pv 6) pe_int) pe_int) pe_int (by first | exact nomark _ | rfl))))) (pss_one (ps_set (i := 7) sc_law_block_by.nd rfl (by first | exact Or.inl rfl | exact Or.inr rfl) pe_int)) pss_nil) (pss_cons (ps_if (PW.pt (pw_and (pt_cmpR o_gt (pv 2) pe_int (by first | exact nomark _ | rfl)) (pw_and1 (pt_cmpR (o_eq hr.units) (pv 4) (pe_op o_mod (pv 2) (pe_callB o_len (by rfl) T.z_len (by decide +kernel) (pa_cons (pv 0) pa_nil))) (by first | exact nomark _ | rfl))))) (pss_one (ps_set (i := 7) sc_law_block_by.nd rfl (by first | exact Or.inl rfl | exact Or.inr rfl) pe_int)) pss_nil) (pss_one (ps_expr (pe_f c_law_put hr (by decide) (pa_cons (pv 3) (pa_cons (pv 1) (pa_cons (pv 6) (pa_cons (pv 7) pa_nil)))))))))))) (pss_cons (ps_while PassesOwn.never (pt_cmpR o_gt (pe_callB o_len (by rfl) T.z_len (by decide +kernel) (pa_cons (pv 3) pa_nil)) pe_int (by first | exact nomark _ | rfl)) (pss_one (ps_expr (pe_f c_law_closed hr (by decide) (pa_cons (pv 3) pa_nil))))) (pss_one (ps_ret (pe_ix ix_seq (pe_ix ix_seq (pv 3) pe_int (fun _ _ => rfl)) pe_int (fun _ _ => rfl))))))), pure_law_block_by K vs H Q E h⟩
theorem ok_law_leaking (T : Top K mg) : Cal P w K mg base 1 "_law_leaking" (sp_law_leaking K) := by
  exact cal_of (k := 0) T.f_law_leaking sc_law_leaking (by intro vs H Q E h; repeat (first | (obtain ⟨rfl, _⟩ := h; rfl) | (obtain ⟨_, h⟩ := h))) fun f cdv A outer s H vs Q E hr h => ⟨t_law_leaking K, PSs.nox (pss_cons (ps_set (i := 4) sc_law_leaking.nd rfl (by first | exact Or.inl rfl | exact Or.inr rfl) (pe_ix ix_seq (pv 0) (pe_op o_mod (pv 3) pe_int) (fun _ _ => rfl))) (pss_cons (ps_set (i := 5) sc_law_leaking.nd rfl (by first | exact Or.inl rfl | exact Or.inr rfl) (pe_ix ix_seq (pe_lst (pa_cons (pe_tup (pa_cons pe_str (pa_cons (pv 2) pa_nil))) (pa_cons (pe_tup (pa_cons pe_str (pa_cons (pe_tup (pa_cons pe_str (pa_cons (pv 4) pa_nil))) (pa_cons (pe_tup (pa_cons pe_str (pa_cons (pv 2) pa_nil))) pa_nil)))) (pa_cons (pe_tup (pa_cons pe_str (pa_cons (pe_tup (pa_cons pe_str (pa_cons (pv 2) pa_nil))) (pa_cons (pe_tup (pa_cons pe_str (pa_cons pe_int pa_nil))) pa_nil)))) pa_nil)))) (pe_op o_mod (pe_op o_div (pv 3) pe_int) pe_int) (fun _ _ => rfl))) (pss_cons (ps_set (i := 6) sc_law_leaking.nd rfl (by first | exact Or.inl rfl | exact Or.inr rfl) (pe_tup (pa_cons pe_str (pa_cons (pv 4) (pa_cons (pe_tup (pa_cons pe_str (pa_cons (pe_tup (pa_cons pe_str (pa_cons (pv 4) pa_nil))) (pa_cons (pe_tup (pa_cons pe_str (pa_cons pe_int pa_nil))) pa_nil)))) pa_nil))))) (pss_cons (ps_if (pt_cmpR (o_eq hr.units) (pv 1) pe_int (by first | exact nomark _ | rfl)) (pss_one (ps_ret (pe_tup (pa_cons pe_str (pa_cons (pe_ix ix_seq (pv 0) (pe_op o_mod (pe_op o_div (pv 3) pe_int) pe_int) (fun _ _ => rfl)) (pa_cons (pv 5) pa_nil)))))) pss_nil) (pss_cons (ps_if (pt_cmpR (o_eq hr.units) (pv 1) pe_int (by first | exact nomark _ | rfl)) (pss_one (ps_ret (pe_tup (pa_cons pe_str (pa_cons (pv 5) pa_nil))))) pss_nil) (pss_cons (ps_if (pt_cmpR (o_eq hr.units) (pv 1) pe_int (by first | exact nomark _ | rfl)) (pss_one (ps_ret (pe_tup (pa_cons pe_str (pa_cons (pe_tup (pa_cons pe_str (pa_cons (pe_tup (pa_cons pe_str (pa_cons (pv 2) pa_nil))) (pa_cons (pe_tup (pa_cons pe_str (pa_cons pe_int pa_nil))) pa_nil)))) (pa_cons (pe_tup (pa_cons (pe_tup (pa_cons pe_str (pa_cons (pv 2) (pa_cons (pe_tup (pa_cons pe_str (pa_cons (pe_tup (pa_cons pe_str (pa_cons (pv 2) pa_nil))) (pa_cons (pe_tup (pa_cons pe_str (pa_cons pe_int pa_nil))) pa_nil)))) pa_nil)))) pa_nil)) pa_nil)))))) pss_nil) (pss_cons (ps_if (pt_cmpR (o_eq hr.units) (pv 1) pe_int (by first | exact nomark _ | rfl)) (pss_one (ps_ret (pe_tup (pa_cons pe_str (pa_cons (pe_ix ix_seq (pv 0) (pe_op o_add pe_int (pe_op o_mod (pe_op o_div (pv 3) pe_int) pe_int)) (fun _ _ => rfl)) (pa_cons (pe_tup (pa_cons pe_str (pa_cons (pe_tup (pa_cons pe_str (pa_cons pe_int pa_nil))) (pa_cons (pv 5) pa_nil)))) pa_nil)))))) pss_nil) (pss_cons (ps_set (i := 7) sc_law_leaking.nd rfl (by first | exact Or.inl rfl | exact Or.inr rfl) (pe_ix ix_seq (pe_lst (pa_cons (pe_tup (pa_cons pe_str (pa_cons (pe_ix ix_seq (pv 0) (pe_op o_mod (pe_op o_div (pv 3) pe_int) pe_int) (fun _ _ => rfl)) (pa_cons (pe_tup (pa_cons pe_str (pa_cons (pe_tup (pa_cons pe_str (pa_cons (pv 4) pa_nil))) (pa_cons (pe_tup (pa_cons pe_str (pa_cons pe_int pa_nil))) pa_nil)))) pa_nil)))) (pa_cons (pe_tup (pa_cons pe_str (pa_cons (pe_tup (pa_cons pe_str (pa_cons (pv 4) pa_nil))) pa_nil))) pa_nil))) (pe_op o_mod (pv 1) pe_int) (fun _ _ => rfl))) (pss_cons (ps_if (pt_cmpR (o_eq hr.units) (pv 1) pe_int (by first | exact nomark _ | rfl)) (pss_one (ps_set (i := 7) sc_law_leaking.nd rfl (by first | exact Or.inl rfl | exact Or.inr rfl) (pe_tup (pa_cons pe_str (pa_cons (pe_tup (pa_cons pe_str (pa_cons (pe_tup (pa_cons pe_str (pa_cons (pv 4) pa_nil))) (pa_cons (pe_tup (pa_cons pe_str (pa_cons pe_int pa_nil))) pa_nil)))) (pa_cons (pe_tup (pa_cons (pv 6) pa_nil)) pa_nil)))))) pss_nil) (pss_cons (ps_if (pt_cmpR (o_eq hr.units) (pv 1) pe_int (by first | exact nomark _ | rfl)) (pss_one (ps_set (i := 7) sc_law_leaking.nd rfl (by first | exact Or.inl rfl | exact Or.inr rfl) (pe_tup (pa_cons pe_str (pa_cons (pe_ix ix_seq (pv 0) (pe_op o_add pe_int (pe_op o_mod (pe_op o_div (pv 3) pe_int) pe_int)) (fun _ _ => rfl)) (pa_cons (pe_tup (pa_cons pe_str (pa_cons (pe_tup (pa_cons pe_str (pa_cons (pv 4) pa_nil))) (pa_cons (pe_tup (pa_cons pe_str (pa_cons (pe_op o_mod (pe_op o_div (pv 3) pe_int) pe_int) pa_nil))) pa_nil)))) pa_nil)))))) pss_nil) (pss_one (ps_ret (pe_tup (pa_cons pe_str (pa_cons (pv 5) (pa_cons (pe_ix ix_seq (pe_lst (pa_cons (pe_tup (pa_cons (pv 7) pa_nil)) (pa_cons (pe_tup pa_nil) pa_nil))) (pe_op o_mod (pe_op o_div (pv 3) pe_int) pe_int) (fun _ _ => rfl)) (pa_cons (pe_ix ix_seq (pe_lst (pa_cons (pe_tup (pa_cons (pv 7) pa_nil)) (pa_cons (pe_tup pa_nil) pa_nil))) (pe_op o_sub pe_int (pe_op o_mod (pe_op o_div (pv 3) pe_int) pe_int)) (fun _ _ => rfl)) pa_nil))))))))))))))))), pure_law_leaking K vs H Q E h⟩
theorem ok_law_with_leak (T : Top K mg) : Cal P w K mg base 2 "_law_with_leak" (sp_law_with_leak K) := by
  have c_law_leaking : Cal P w K mg base 1 "_law_leaking" (sp_law_leaking K) := ok_law_leaking T
  have c_law_mixed : Cal P w K mg base 1 "_law_mixed" (sp_law_mixed K) := ok_law_mixed T
  exact cal_of (k := 1) T.f_law_with_leak sc_law_with_leak (by intro vs H Q E h; repeat (first | (obtain ⟨rfl, _⟩ := h; rfl) | (obtain ⟨_, h⟩ := h))) fun f cdv A outer s H vs Q E hr h => ⟨t_law_with_leak K, PSs.nox (pss_cons (ps_set (i := 3) sc_law_with_leak.nd rfl (by first | exact Or.inl rfl | exact Or.inr rfl) (pe_ix ix_seq (pv 0) (pe_op o_add pe_int (pe_op o_mod (pe_op o_div (pv 2) pe_int) pe_int)) (fun _ _ => rfl))) (pss_cons (ps_set (i := 4) sc_law_with_leak.nd rfl (by first | exact Or.inl rfl | exact Or.inr rfl) (pe_lst pa_nil)) (pss_cons (ps_if (pt_cmpR (o_eq hr.units) (pe_op o_mod (pv 2) pe_int) pe_int (by first | exact nomark _ | rfl)) (pss_cons (ps_expr (pe_bm PySem.F.plainAttrs_list PySem.F.slot_list_append PySem.F.type_list_append mt_append (pv 4) (pa_cons (pe_tup (pa_cons pe_str (pa_cons (pe_ix ix_seq (pv 0) (pe_op o_add pe_int (pe_op o_mod (pe_op o_div (pv 2) pe_int) pe_int)) (fun _ _ => rfl)) (pa_cons (pe_tup (pa_cons pe_str (pa_cons (pe_tup (pa_cons pe_str (pa_cons (pv 3) pa_nil))) (pa_cons (pe_tup (pa_cons pe_str (pa_cons pe_int pa_nil))) pa_nil)))) pa_nil)))) pa_nil))) (pss_one (ps_set (i := 3) sc_law_with_leak.nd rfl (by first | exact Or.inl rfl | exact Or.inr rfl) (pe_ix ix_seq (pv 0) (pe_op o_add pe_int (pe_op o_mod (pe_op o_div (pv 2) pe_int) pe_int)) (fun _ _ => rfl))))) pss_nil) (pss_cons (ps_set (i := 5) sc_law_with_leak.nd rfl (by first | exact Or.inl rfl | exact Or.inr rfl) (pe_f c_law_leaking hr (by decide) (pa_cons (pv 0) (pa_cons (pe_op o_mod (pe_op o_div (pv 2) pe_int) pe_int) (pa_cons (pv 3) (pa_cons (pe_f c_law_mixed hr (by decide) (pa_cons (pv 2) pa_nil)) pa_nil)))))) (pss_cons (ps_if (PW.pt (pw_or (pt_cmpR (o_eq hr.units) (pe_op o_mod (pe_op o_div (pv 2) pe_int) pe_int) pe_int (by first | exact nomark _ | rfl)) (pw_or1 (pt_cmpR (o_eq hr.units) (pe_op o_mod (pe_op o_div (pv 2) pe_int) pe_int) pe_int (by first | exact nomark _ | rfl))))) (pss_one (ps_set (i := 5) sc_law_with_leak.nd rfl (by first | exact Or.inl rfl | exact Or.inr rfl) (pe_tup (pa_cons pe_str (pa_cons (pe_tup (pa_cons pe_str (pa_cons (pe_tup (pa_cons pe_str (pa_cons (pe_ix ix_seq (pv 0) pe_int (fun _ _ => rfl)) pa_nil))) (pa_cons (pe_tup (pa_cons pe_str (pa_cons (pe_ix ix_seq (pv 0) pe_int (fun _ _ => rfl)) pa_nil))) pa_nil)))) (pa_cons (pe_tup (pa_cons (pv 5) pa_nil)) (pa_cons (pe_tup (pa_cons (pe_tup (pa_cons pe_str pa_nil)) pa_nil)) pa_nil))))))) pss_nil) (pss_cons (ps_set (i := 6) sc_law_with_leak.nd rfl (by first | exact Or.inl rfl | exact Or.inr rfl) (pe_op o_mod (pe_op o_div (pv 2) pe_int) (pe_op o_add (pe_callB o_len (by rfl) T.z_len (by decide +kernel) (pa_cons (pv 1) pa_nil)) pe_int))) (pss_cons (ps_if (pt_cmpR o_gt (pe_op o_mod (pe_op o_div (pv 2) pe_int) pe_int) pe_int (by first | exact nomark _ | rfl)) (pss_one (ps_set (i := 6) sc_law_with_leak.nd rfl (by first | exact Or.inl rfl | exact Or.inr rfl) pe_int)) pss_nil) (pss_one (ps_ret (pe_op o_add (pe_op o_add (pe_op o_add (pe_slice o_sl (pv 1) po_none (po_some (pv 6))) (pv 4)) (pe_lst (pa_cons (pv 5) pa_nil))) (pe_slice o_sl (pv 1) (po_some (pv 6)) po_none))))))))))), pure_law_with_leak K vs H Q E h⟩
theorem ok_law_drawn (T : Top K mg) : Cal P w K mg base 22 "_law_drawn" (sp_law_drawn K) := by
  have c_law_cell_at : Cal P w K mg base 1 "_law_cell_at" (sp_law_cell_at K) := ok_law_cell_at T
  have c_law_block_by : Cal P w K mg base 21 "_law_block_by" (sp_law_block_by K) := ok_law_block_by T
  have c_law_with_leak : Cal P w K mg base 2 "_law_with_leak" (sp_law_with_leak K) := ok_law_with_leak T
  have c_law_mixed : Cal P w K mg base 1 "_law_mixed" (sp_law_mixed K) := ok_law_mixed T
  exact cal_of (k := 21) T.f_law_drawn sc_law_drawn (by intro vs H Q E h; repeat (first | (obtain ⟨rfl, _⟩ := h; rfl) | (obtain ⟨_, h⟩ := h))) fun f cdv A outer s H vs Q E hr h => ⟨t_law_drawn K, PSs.nox (pss_cons (ps_set (i := 4) sc_law_drawn.nd rfl (by first | exact Or.inl rfl | exact Or.inr rfl) (pe_f c_law_cell_at hr (by decide) (pa_cons (pv 0) (pa_cons pe_int pa_nil)))) (pss_cons (ps_set (i := 5) sc_law_drawn.nd rfl (by first | exact Or.inl rfl | exact Or.inr rfl) (pe_f c_law_block_by hr (by decide) (pa_cons (pe_slice o_sl (pv 0) (po_some (pv 1)) (po_some (pv 2))) (pa_cons (pv 3) (pa_cons (pe_callTy o_int (by rfl) T.z_int (by decide +kernel) (pa_cons (pe_cmpR (o_eq hr.units) (pe_op o_mod (pv 4) pe_int) pe_int (by first | exact nomark _ | rfl)) pa_nil)) pa_nil))))) (pss_cons (ps_if (PW.pt (pw_or (pt_cmpR (o_eq hr.units) (pe_op o_mod (pv 4) pe_int) pe_int (by first | exact nomark _ | rfl)) (pw_or1 (pt_cmpR (o_eq hr.units) (pe_op o_mod (pv 4) pe_int) pe_int (by first | exact nomark _ | rfl))))) (pss_cons (ps_set (i := 6) sc_law_drawn.nd rfl (by first | exact Or.inl rfl | exact Or.inr rfl) (pe_op o_add (pe_op o_add (pe_op o_div (pv 4) pe_int) (pe_op o_mul pe_int (pe_op o_mod (pe_f c_law_cell_at hr (by decide) (pa_cons (pv 0) (pa_cons pe_int pa_nil))) (pe_op o_pow pe_int pe_int)))) (pe_op o_mul pe_int (pe_op o_mod (pe_f c_law_cell_at hr (by decide) (pa_cons (pv 0) (pa_cons pe_int pa_nil))) (pe_op o_pow pe_int pe_int))))) (pss_one (ps_ret (pe_f c_law_with_leak hr (by decide) (pa_cons (pv 3) (pa_cons (pv 5) (pa_cons (pe_f c_law_mixed hr (by decide) (pa_cons (pe_f c_law_mixed hr (by decide) (pa_cons (pv 6) pa_nil)) pa_nil)) pa_nil))))))) pss_nil) (pss_one (ps_ret (pv 5)))))), pure_law_drawn K vs H Q E h⟩
theorem ok_law_row_of_names (T : Top K mg) : Cal P w K mg base 1 "_law_row_of_names" (sp_law_row_of_names K) := by
  exact cal_of (k := 0) T.f_law_row_of_names sc_law_row_of_names (by intro vs H Q E h; repeat (first | (obtain ⟨rfl, _⟩ := h; rfl) | (obtain ⟨_, h⟩ := h))) fun f cdv A outer s H vs Q E hr h => ⟨t_law_row_of_names K, PSs.nox (pss_cons (ps_setLc (i := 3) (own := [("_law_k", 4)]) (g := (gName 4)) (tt := (tTest (tOp rLt (tOp rMod (tOp rMul (tVar 4) (tVar 2)) (tC (.int 61))) (tVar 1)))) rfl sc_law_row_of_names.nd rfl rfl (sw_true rfl rfl rfl (by decide +kernel)) (pi_range1 (by rfl) T.z_range (pa_cons pe_int pa_nil)) (blkOk_by (own := [("_law_k", 4)]) (N := M_law_row_of_names) (sc := defScope s_law_row_of_names) (by decide +kernel)) (fun _ _ _ _ _ => (pg_name (i := 4) sc_law_row_of_names.nd rfl (by first | exact Or.inl rfl | exact Or.inr rfl))) (fun _ _ _ _ _ => (pts_one (pt_cmpR o_lt (pe_op o_mod (pe_op o_mul (pv 4) (pv 2)) pe_int) (pv 1) (by first | exact nomark _ | rfl)))) (fun _ _ _ _ _ => (pe_op o_mod (pe_op o_mul (pv 4) (pv 2)) pe_int))) (pss_cons (ps_set (i := 5) sc_law_row_of_names.nd rfl (by first | exact Or.inl rfl | exact Or.inr rfl) (pe_lst pa_nil)) (pss_cons (ps_for PassesOwn.never rfl (pi_seq (pv 3)) (pg_name (i := 6) sc_law_row_of_names.nd rfl (by first | exact Or.inl rfl | exact Or.inr rfl)) (pss_cons (ps_set (i := 7) sc_law_row_of_names.nd rfl (by first | exact Or.inl rfl | exact Or.inr rfl) (pe_ix ix_seq (pe_lst (pa_cons (pe_op o_add pe_str (pe_callTy o_str (by rfl) T.z_str (by decide +kernel) (pa_cons (pe_op o_sub (pv 6) pe_int) pa_nil))) (pa_cons (pe_ix ix_seq (pv 0) pe_int (fun _ _ => rfl)) pa_nil))) (pe_callTy o_int (by rfl) T.z_int (by decide +kernel) (pa_cons (pe_cmpR (o_eq hr.units) (pv 6) pe_int (by first | exact nomark _ | rfl)) pa_nil)) (fun _ _ => rfl))) (pss_one (ps_expr (pe_bm PySem.F.plainAttrs_list PySem.F.slot_list_append PySem.F.type_list_append mt_append (pv 5) (pa_cons (pe_tup (pa_cons pe_str (pa_cons (pe_op o_add pe_str (pe_callTy o_str (by rfl) T.z_str (by decide +kernel) (pa_cons (pv 6) pa_nil))) (pa_cons (pe_tup (pa_cons pe_str (pa_cons (pe_tup (pa_cons pe_str (pa_cons (pv 7) pa_nil))) (pa_cons (pe_tup (pa_cons pe_str (pa_cons pe_int pa_nil))) pa_nil)))) pa_nil)))) pa_nil)))))) (pss_one (ps_ret (pv 5)))))), pure_law_row_of_names K vs H Q E h⟩
theorem ok_law_longer (T : Top K mg) : Cal P w K mg base 2 "_law_longer" (sp_law_longer K) := by
  have c_law_row_of_names : Cal P w K mg base 1 "_law_row_of_names" (sp_law_row_of_names K) := ok_law_row_of_names T
  have c_law_mixed : Cal P w K mg base 1 "_law_mixed" (sp_law_mixed K) := ok_law_mixed T
  exact cal_of (k := 1) T.f_law_longer sc_law_longer (by intro vs H Q E h; repeat (first | (obtain ⟨rfl, _⟩ := h; rfl) | (obtain ⟨_, h⟩ := h))) fun f cdv A outer s H vs Q E hr h => ⟨t_law_longer K, PSs.nox (pss_cons (ps_set (i := 3) sc_law_longer.nd rfl (by first | exact Or.inl rfl | exact Or.inr rfl) (pe_op o_add pe_int (pe_op o_mod (pv 2) pe_int))) (pss_cons (ps_set (i := 4) sc_law_longer.nd rfl (by first | exact Or.inl rfl | exact Or.inr rfl) (pe_f c_law_row_of_names hr (by decide) (pa_cons (pv 0) (pa_cons (pv 3) (pa_cons (pe_op o_add pe_int (pe_op o_mod (pe_op o_div (pv 2) pe_int) pe_int)) pa_nil))))) (pss_cons (ps_for PassesOwn.never rfl (pi_range1 (by rfl) T.z_range (pa_cons (pe_op o_mod (pe_op o_div (pv 2) pe_int) pe_int) pa_nil)) (pg_name (i := 5) sc_law_longer.nd rfl (by first | exact Or.inl rfl | exact Or.inr rfl)) (pss_cons (ps_set (i := 2) sc_law_longer.nd rfl (by first | exact Or.inl rfl | exact Or.inr rfl) (pe_f c_law_mixed hr (by decide) (pa_cons (pv 2) pa_nil))) (pss_one (ps_expr (pe_bm PySem.F.plainAttrs_list PySem.F.slot_list_append PySem.F.type_list_append mt_append (pv 4) (pa_cons (pe_tup (pa_cons pe_str (pa_cons (pe_op o_add pe_str (pe_callTy o_str (by rfl) T.z_str (by decide +kernel) (pa_cons (pe_op o_mod (pv 2) (pv 3)) pa_nil))) (pa_cons (pe_tup (pa_cons pe_str (pa_cons (pe_op o_add pe_str (pe_callTy o_str (by rfl) T.z_str (by decide +kernel) (pa_cons (pe_op o_mod (pe_op o_div (pv 2) pe_int) (pv 3)) pa_nil))) pa_nil))) pa_nil)))) pa_nil)))))) (pss_cons (ps_set (i := 6) sc_law_longer.nd rfl (by first | exact Or.inl rfl | exact Or.inr rfl) (pe_op o_add pe_str (pe_callTy o_str (by rfl) T.z_str (by decide +kernel) (pa_cons (pe_op o_mod (pe_op o_div (pv 2) pe_int) (pv 3)) pa_nil)))) (pss_cons (ps_set (i := 7) sc_law_longer.nd rfl (by first | exact Or.inl rfl | exact Or.inr rfl) (pe_lst (pa_cons (pe_tup (pa_cons pe_str (pa_cons (pe_tup (pa_cons pe_str (pa_cons (pe_tup (pa_cons pe_str (pa_cons pe_int pa_nil))) (pa_cons (pe_tup (pa_cons pe_str (pa_cons (pv 6) pa_nil))) pa_nil)))) pa_nil))) (pa_cons (pe_tup (pa_cons pe_str (pa_cons (pe_ix ix_seq (pv 0) pe_int (fun _ _ => rfl)) (pa_cons (pe_tup (pa_cons pe_str (pa_cons (pv 6) pa_nil))) pa_nil)))) pa_nil)))) (pss_one (ps_ret (pe_op o_add (pe_op o_add (pe_slice o_sl (pv 1) po_none (po_some pe_int)) (pv 4)) (pe_slice o_sl (pv 7) (po_some (pe_op o_mod (pv 2) pe_int)) po_none))))))))), pure_law_longer K vs H Q E h⟩
theorem ok_law_blocks (T : Top K mg) : Cal P w K mg base 1 "_law_blocks" (sp_law_blocks K) := by
  exact cal_of (k := 0) T.f_law_blocks sc_law_blocks (by intro vs H Q E h; repeat (first | (obtain ⟨rfl, _⟩ := h; rfl) | (obtain ⟨_, h⟩ := h))) fun f cdv A outer s H vs Q E hr h => ⟨t_law_blocks K, PSs.nox (pss_cons (ps_if (pt_cmpR (o_eq hr.units) (pe_ix ix_seq (pv 0) pe_int (fun _ _ => rfl)) pe_str (by first | exact nomark _ | rfl)) (pss_one (ps_ret (pe_lst pa_nil))) pss_nil) (pss_one (ps_ret (pe_callTy (o_list rfl) (by rfl) T.z_list (by decide +kernel) (pa_cons (pe_slice o_sl (pv 0) (po_some pe_int) po_none) pa_nil))))), pure_law_blocks K vs H Q E h⟩
theorem ok_law_formula (T : Top K mg) : Cal P w K mg base 1 "_law_formula" (sp_law_formula K) := by
  exact cal_of (k := 0) T.f_law_formula sc_law_formula (by intro vs H Q E h; repeat (first | (obtain ⟨rfl, _⟩ := h; rfl) | (obtain ⟨_, h⟩ := h))) fun f cdv A outer s H vs Q E hr h => ⟨t_law_formula K, PSs.nox (pss_cons (ps_if (pt_cmpR (o_eq hr.units) (pe_ix ix_seq (pv 0) pe_int (fun _ _ => rfl)) pe_str (by first | exact nomark _ | rfl)) (pss_one (ps_ret (pe_tup (pa_cons pe_str (pa_cons pe_int pa_nil))))) pss_nil) (pss_one (ps_ret (pe_ix ix_seq (pv 0) (pe_op o_add pe_int (pe_callTy o_int (by rfl) T.z_int (by decide +kernel) (pa_cons (pe_cmpR (o_eq hr.units) (pe_ix ix_seq (pv 0) pe_int (fun _ _ => rfl)) pe_str (by first | exact nomark _ | rfl)) pa_nil))) (fun _ _ => rfl))))), pure_law_formula K vs H Q E h⟩
theorem ok_law_listed (T : Top K mg) : ∀ n : Nat, Cal P w K mg base (18 + n) "_law_listed" (sp_law_listed K n)
  | 0 => cal_none T.f_law_listed no_law_listed
  | n + 1 => by
    have c_law_listed : Cal P w K mg base (18 + n) "_law_listed" (sp_law_listed K n) := ok_law_listed T n
    have c_law_blocks : Cal P w K mg base 1 "_law_blocks" (sp_law_blocks K) := ok_law_blocks T
    have c_law_all_names : Cal P w K mg base 18 "_law_all_names" (sp_law_all_names K 18) := ok_law_all_names T 18
    have c_law_formula : Cal P w K mg base 1 "_law_formula" (sp_law_formula K) := ok_law_formula T
    exact cal_of (k := 18 + n) T.f_law_listed sc_law_listed (by intro vs H Q E h; repeat (first | (obtain ⟨rfl, _⟩ := h; rfl) | (obtain ⟨_, h⟩ := h))) fun f cdv A outer s H vs Q E hr h => ⟨t_law_listed K n, PSs.nox (pss_cons (ps_for PassesOwn.never rfl (pi_seq (pv 0)) (pg_name (i := 3) sc_law_listed.nd rfl (by first | exact Or.inl rfl | exact Or.inr rfl)) (pss_cons (ps_expr (pe_bm PySem.F.plainAttrs_list PySem.F.slot_list_append PySem.F.type_list_append mt_append (pv 2) (pa_cons (pe_tup (pa_cons (pv 3) (pa_cons (pv 1) pa_nil))) pa_nil))) (pss_one (ps_for PassesOwn.never rfl (pi_seq (pe_f c_law_blocks hr (by omega) (pa_cons (pv 3) pa_nil))) (pg_name (i := 4) sc_law_listed.nd rfl (by first | exact Or.inl rfl | exact Or.inr rfl)) (pss_one (ps_expr (pe_f c_law_listed hr (by omega) (pa_cons (pv 4) (pa_cons (pe_op o_add (pv 1) (pe_f c_law_all_names hr (by omega) (pa_cons (pe_f c_law_formula hr (by omega) (pa_cons (pv 3) pa_nil)) pa_nil))) (pa_cons (pv 2) pa_nil)))))))))) (pss_one (ps_ret (pv 2)))), pure_law_listed K n vs H Q E h⟩
theorem ok_is_list (T : Top K mg) : Cal P w K mg base 1 "is_list" (sp_is_list K) := by
  exact cal_of (k := 0) T.f_is_list sc_is_list (by intro vs H Q E h; repeat (first | (obtain ⟨rfl, _⟩ := h; rfl) | (obtain ⟨_, h⟩ := h))) fun f cdv A outer s H vs Q E hr h => ⟨t_is_list K, PSs.nox (pss_one (ps_ret (pe_callB o_isi (by rfl) T.z_isinstance (by decide +kernel) (pa_cons (pv 0) (pa_cons (pe_tup (pa_cons (pe_bltn (by rfl) T.z_list (by decide +kernel) rfl) (pa_cons (pe_bltn (by rfl) T.z_tuple (by decide +kernel) rfl) pa_nil))) pa_nil))))), pure_is_list K vs H Q E h⟩
theorem ok_is_name (T : Top K mg) : Cal P w K mg base 1 "is_name" (sp_is_name K) := by
  exact cal_of (k := 0) T.f_is_name sc_is_name (by intro vs H Q E h; repeat (first | (obtain ⟨rfl, _⟩ := h; rfl) | (obtain ⟨_, h⟩ := h))) fun f cdv A outer s H vs Q E hr h => ⟨t_is_name K, PSs.nox (pss_cons (ps_if (PW.pt (pw_or (pt_not (pt_val (pe_callB o_isi (by rfl) T.z_isinstance (by decide +kernel) (pa_cons (pv 0) (pa_cons (pe_bltn (by rfl) T.z_str (by decide +kernel) rfl) pa_nil))))) (pw_or (pt_not (pt_chain o_le o_le pe_int (pe_callB o_len (by rfl) T.z_len (by decide +kernel) (pa_cons (pv 0) pa_nil)) pe_int)) (pw_or (pt_cmpR o_in (pv 0) (pe_globT (by rfl) T.g_WORDS) (by first | exact nomark _ | rfl)) (pw_or1 (pt_cmpR o_nin (pe_ix ix_seq (pv 0) pe_int (fun _ _ => rfl)) (pe_globS (by rfl) T.g_LETTERS) (by first | exact nomark _ | rfl))))))) (pss_one (ps_ret pe_bl)) pss_nil) (pss_cons (ps_for PassesOwn.never rfl (pi_str (pv 0)) (pg_name (i := 1) sc_is_name.nd rfl (by first | exact Or.inl rfl | exact Or.inr rfl)) (pss_one (ps_if (PW.pt (pw_and (pt_cmpR o_nin (pv 1) (pe_globS (by rfl) T.g_LETTERS) (by first | exact nomark _ | rfl)) (pw_and1 (pt_cmpR o_nin (pv 1) (pe_globS (by rfl) T.g_FIGURES) (by first | exact nomark _ | rfl))))) (pss_one (ps_ret pe_bl)) pss_nil))) (pss_one (ps_ret pe_bl)))), pure_is_name K vs H Q E h⟩
theorem ok_need_names (T : Top K mg) : Cal P w K mg base 2 "need_names" (sp_need_names K) := by
  have c_is_list : Cal P w K mg base 1 "is_list" (sp_is_list K) := ok_is_list T
  have c_is_name : Cal P w K mg base 1 "is_name" (sp_is_name K) := ok_is_name T
  exact cal_of (k := 1) T.f_need_names sc_need_names (by intro vs H Q E h; repeat (first | (obtain ⟨rfl, _⟩ := h; rfl) | (obtain ⟨_, h⟩ := h))) fun f cdv A outer s H vs Q E hr h => ⟨t_need_names K, PSs.nox (pss_cons (ps_if (pt_not (pt_val (pe_f c_is_list hr (by decide) (pa_cons (pv 0) pa_nil)))) (pss_one ps_never) pss_nil) (pss_cons (ps_set (i := 2) sc_need_names.nd rfl (by first | exact Or.inl rfl | exact Or.inr rfl) (pe_lst pa_nil)) (pss_cons (ps_for PassesOwn.never rfl (pi_seq (pv 0)) (pg_name (i := 3) sc_need_names.nd rfl (by first | exact Or.inl rfl | exact Or.inr rfl)) (pss_cons (ps_if (pt_not (pt_val (pe_f c_is_name hr (by decide) (pa_cons (pv 3) pa_nil)))) (pss_one ps_never) pss_nil) (pss_cons (ps_if (PW.pt (pw_or (pt_cmpR o_in (pv 3) (pv 1) (by first | exact nomark _ | rfl)) (pw_or1 (pt_cmpR o_in (pv 3) (pv 2) (by first | exact nomark _ | rfl))))) (pss_one ps_never) pss_nil) (pss_one (ps_expr (pe_bm PySem.F.plainAttrs_list PySem.F.slot_list_append PySem.F.type_list_append mt_append (pv 2) (pa_cons (pv 3) pa_nil))))))) (pss_one (ps_ret (pv 2)))))), pure_need_names K vs H Q E h⟩
theorem ok_things_of (T : Top K mg) : Cal P w K mg base 1 "things_of" (sp_things_of K) := by
  exact cal_of (k := 0) T.f_things_of sc_things_of (by intro vs H Q E h; repeat (first | (obtain ⟨rfl, _⟩ := h; rfl) | (obtain ⟨_, h⟩ := h))) fun f cdv A outer s H vs Q E hr h => ⟨t_things_of K, PSs.nox (pss_cons (ps_if (pt_cmpR (o_eq hr.units) (pv 0) pe_str (by first | exact nomark _ | rfl)) (pss_one (ps_ret pe_int)) pss_nil) (pss_cons (ps_if (pt_cmpR (o_eq hr.units) (pv 0) pe_str (by first | exact nomark _ | rfl)) (pss_one (ps_ret pe_int)) pss_nil) (pss_cons (ps_if (PW.pt (pw_or (pt_cmpR (o_eq hr.units) (pv 0) pe_str (by first | exact nomark _ | rfl)) (pw_or1 (pt_cmpR (o_eq hr.units) (pv 0) pe_str (by first | exact nomark _ | rfl))))) (pss_one (ps_ret pe_int)) pss_nil) (pss_cons (ps_if (pt_cmpR (o_eq hr.units) (pv 0) pe_str (by first | exact nomark _ | rfl)) (pss_one (ps_ret pe_int)) pss_nil) (pss_one (ps_ret pe_int)))))), pure_things_of K vs H Q E h⟩
theorem ok_blocks_of (T : Top K mg) : Cal P w K mg base 1 "blocks_of" (sp_blocks_of K) := by
  exact cal_of (k := 0) T.f_blocks_of sc_blocks_of (by intro vs H Q E h; repeat (first | (obtain ⟨rfl, _⟩ := h; rfl) | (obtain ⟨_, h⟩ := h))) fun f cdv A outer s H vs Q E hr h => ⟨t_blocks_of K, PSs.nox (pss_cons (ps_if (pt_cmpR (o_eq hr.units) (pe_ix ix_seq (pv 0) pe_int (fun _ _ => rfl)) pe_str (by first | exact nomark _ | rfl)) (pss_one (ps_ret (pe_lst (pa_cons (pe_ix ix_seq (pv 0) pe_int (fun _ _ => rfl)) (pa_cons (pe_ix ix_seq (pv 0) pe_int (fun _ _ => rfl)) pa_nil))))) pss_nil) (pss_cons (ps_if (pt_cmpR (o_eq hr.units) (pe_ix ix_seq (pv 0) pe_int (fun _ _ => rfl)) pe_str (by first | exact nomark _ | rfl)) (pss_one (ps_ret (pe_lst (pa_cons (pe_ix ix_seq (pv 0) pe_int (fun _ _ => rfl)) pa_nil)))) pss_nil) (pss_one (ps_ret (pe_lst pa_nil))))), pure_blocks_of K vs H Q E h⟩
theorem ok_need_form (T : Top K mg) : Cal P w K mg base 2 "need_form" (sp_need_form K) := by
  have c_things_of : Cal P w K mg base 1 "things_of" (sp_things_of K) := ok_things_of T
  have c_is_name : Cal P w K mg base 1 "is_name" (sp_is_name K) := ok_is_name T
  have c_blocks_of : Cal P w K mg base 1 "blocks_of" (sp_blocks_of K) := ok_blocks_of T
  have c_is_list : Cal P w K mg base 1 "is_list" (sp_is_list K) := ok_is_list T
  exact cal_of (k := 1) T.f_need_form sc_need_form (by intro vs H Q E h; repeat (first | (obtain ⟨rfl, _⟩ := h; rfl) | (obtain ⟨_, h⟩ := h))) fun f cdv A outer s H vs Q E hr h => ⟨t_need_form K, PSs.nox (pss_cons (ps_if (PW.pt (pw_or (pt_not (pt_val (pe_callB o_isi (by rfl) T.z_isinstance (by decide +kernel) (pa_cons (pv 0) (pa_cons (pe_bltn (by rfl) T.z_tuple (by decide +kernel) rfl) pa_nil))))) (pw_or (pt_cmpR (o_eq hr.units) (pv 0) (pe_tup pa_nil) (by first | exact nomark _ | rfl)) (pw_or1 (pt_not (pt_val (pe_callB o_isi (by rfl) T.z_isinstance (by decide +kernel) (pa_cons (pe_ix ix_seq (pv 0) pe_int (fun _ _ => rfl)) (pa_cons (pe_bltn (by rfl) T.z_str (by decide +kernel) rfl) pa_nil))))))))) (pss_one ps_never) pss_nil) (pss_cons (ps_if (pt_cmpR (o_ne hr.units) (pe_f c_things_of hr (by decide) (pa_cons (pe_ix ix_seq (pv 0) pe_int (fun _ _ => rfl)) pa_nil)) (pe_callB o_len (by rfl) T.z_len (by decide +kernel) (pa_cons (pv 0) pa_nil)) (by first | exact nomark _ | rfl)) (pss_one ps_never) pss_nil) (pss_cons (ps_if (PW.pt (pw_and (pt_cmpR (o_eq hr.units) (pe_ix ix_seq (pv 0) pe_int (fun _ _ => rfl)) pe_str (by first | exact nomark _ | rfl)) (pw_and1 (pt_not (pt_val (pe_f c_is_name hr (by decide) (pa_cons (pe_ix ix_seq (pv 0) pe_int (fun _ _ => rfl)) pa_nil))))))) (pss_one ps_never) pss_nil) (pss_one (ps_for PassesOwn.never rfl (pi_seq (pe_f c_blocks_of hr (by decide) (pa_cons (pv 0) pa_nil))) (pg_name (i := 1) sc_need_form.nd rfl (by first | exact Or.inl rfl | exact Or.inr rfl)) (pss_one (ps_if (pt_not (pt_val (pe_f c_is_list hr (by decide) (pa_cons (pv 1) pa_nil)))) (pss_one ps_never) pss_nil))))))), pure_need_form K vs H Q E h⟩
theorem ok_is_whole (T : Top K mg) : Cal P w K mg base 1 "is_whole" (sp_is_whole K) := by
  exact cal_of (k := 0) T.f_is_whole sc_is_whole (by intro vs H Q E h; repeat (first | (obtain ⟨rfl, _⟩ := h; rfl) | (obtain ⟨_, h⟩ := h))) fun f cdv A outer s H vs Q E hr h => ⟨t_is_whole K, PSs.nox (pss_one (ps_ret (pe_and (pe_callB o_isi (by rfl) T.z_isinstance (by decide +kernel) (pa_cons (pv 0) (pa_cons (pe_bltn (by rfl) T.z_int (by decide +kernel) rfl) pa_nil))) (pe_one (pe_not (pe_callB o_isi (by rfl) T.z_isinstance (by decide +kernel) (pa_cons (pv 0) (pa_cons (pe_bltn (by rfl) T.z_bool (by decide +kernel) rfl) pa_nil)))))))), pure_is_whole K vs H Q E h⟩
theorem ok_is_number (T : Top K mg) : Cal P w K mg base 2 "is_number" (sp_is_number K) := by
  have c_is_whole : Cal P w K mg base 1 "is_whole" (sp_is_whole K) := ok_is_whole T
  exact cal_of (k := 1) T.f_is_number sc_is_number (by intro vs H Q E h; repeat (first | (obtain ⟨rfl, _⟩ := h; rfl) | (obtain ⟨_, h⟩ := h))) fun f cdv A outer s H vs Q E hr h => ⟨t_is_number K, PSs.nox (pss_one (ps_ret (pe_and (pe_f c_is_whole hr (by decide) (pa_cons (pv 0) pa_nil)) (pe_one (pe_chain o_le o_lt pe_int (pv 0) (pe_globI (by rfl) T.g_LIMIT)))))), pure_is_number K vs H Q E h⟩
theorem ok_is_end (T : Top K mg) : Cal P w K mg base 3 "is_end" (sp_is_end K) := by
  have c_is_number : Cal P w K mg base 2 "is_number" (sp_is_number K) := ok_is_number T
  have c_is_name : Cal P w K mg base 1 "is_name" (sp_is_name K) := ok_is_name T
  exact cal_of (k := 2) T.f_is_end sc_is_end (by intro vs H Q E h; repeat (first | (obtain ⟨rfl, _⟩ := h; rfl) | (obtain ⟨_, h⟩ := h))) fun f cdv A outer s H vs Q E hr h => ⟨t_is_end K, PSs.nox (pss_cons (ps_if (PW.pt (pw_or (pt_not (pt_val (pe_callB o_isi (by rfl) T.z_isinstance (by decide +kernel) (pa_cons (pv 0) (pa_cons (pe_bltn (by rfl) T.z_tuple (by decide +kernel) rfl) pa_nil))))) (pw_or (pt_cmpR (o_ne hr.units) (pe_callB o_len (by rfl) T.z_len (by decide +kernel) (pa_cons (pv 0) pa_nil)) pe_int (by first | exact nomark _ | rfl)) (pw_or1 (pt_not (pt_val (pe_callB o_isi (by rfl) T.z_isinstance (by decide +kernel) (pa_cons (pe_ix ix_seq (pv 0) pe_int (fun _ _ => rfl)) (pa_cons (pe_bltn (by rfl) T.z_str (by decide +kernel) rfl) pa_nil))))))))) (pss_one (ps_ret pe_bl)) pss_nil) (pss_cons (ps_if (pt_cmpR (o_eq hr.units) (pe_ix ix_seq (pv 0) pe_int (fun _ _ => rfl)) pe_str (by first | exact nomark _ | rfl)) (pss_one (ps_ret (pe_f c_is_number hr (by decide) (pa_cons (pe_ix ix_seq (pv 0) pe_int (fun _ _ => rfl)) pa_nil)))) pss_nil) (pss_one (ps_ret (pe_and (pe_cmpR (o_eq hr.units) (pe_ix ix_seq (pv 0) pe_int (fun _ _ => rfl)) pe_str (by first | exact nomark _ | rfl)) (pe_one (pe_f c_is_name hr (by decide) (pa_cons (pe_ix ix_seq (pv 0) pe_int (fun _ _ => rfl)) pa_nil)))))))), pure_is_end K vs H Q E h⟩
theorem ok_need_formula (T : Top K mg) : ∀ n : Nat, Cal P w K mg base (3 + n) "need_formula" (sp_need_formula K n)
  | 0 => cal_none T.f_need_formula no_need_formula
  | n + 1 => by
    have c_need_formula : Cal P w K mg base (3 + n) "need_formula" (sp_need_formula K n) := ok_need_formula T n
    have c_is_end : Cal P w K mg base 3 "is_end" (sp_is_end K) := ok_is_end T
    exact cal_of (k := 3 + n) T.f_need_formula sc_need_formula (by intro vs H Q E h; repeat (first | (obtain ⟨rfl, _⟩ := h; rfl) | (obtain ⟨_, h⟩ := h))) fun f cdv A outer s H vs Q E hr h => ⟨t_need_formula K n, PSs.nox (pss_cons (ps_if (pt_cmpR (o_eq hr.units) (pv 1) pe_int (by first | exact nomark _ | rfl)) (pss_one ps_never) pss_nil) (pss_cons (ps_if (pt_val (pe_f c_is_end hr (by omega) (pa_cons (pv 0) pa_nil))) (pss_one ps_retN) pss_nil) (pss_cons (ps_if (PW.pt (pw_or (pt_not (pt_val (pe_callB o_isi (by rfl) T.z_isinstance (by decide +kernel) (pa_cons (pv 0) (pa_cons (pe_bltn (by rfl) T.z_tuple (by decide +kernel) rfl) pa_nil))))) (pw_or (pt_cmpR (o_ne hr.units) (pe_callB o_len (by rfl) T.z_len (by decide +kernel) (pa_cons (pv 0) pa_nil)) pe_int (by first | exact nomark _ | rfl)) (pw_or (pt_not (pt_val (pe_callB o_isi (by rfl) T.z_isinstance (by decide +kernel) (pa_cons (pe_ix ix_seq (pv 0) pe_int (fun _ _ => rfl)) (pa_cons (pe_bltn (by rfl) T.z_str (by decide +kernel) rfl) pa_nil))))) (pw_or1 (pt_cmpR o_nin (pe_ix ix_seq (pv 0) pe_int (fun _ _ => rfl)) (pe_globT (by rfl) T.g_SIGNS) (by first | exact nomark _ | rfl))))))) (pss_one ps_never) pss_nil) (pss_cons (ps_expr (pe_f c_need_formula hr (by omega) (pa_cons (pe_ix ix_seq (pv 0) pe_int (fun _ _ => rfl)) (pa_cons (pe_op o_sub (pv 1) pe_int) pa_nil)))) (pss_one (ps_expr (pe_f c_need_formula hr (by omega) (pa_cons (pe_ix ix_seq (pv 0) pe_int (fun _ _ => rfl)) (pa_cons (pe_op o_sub (pv 1) pe_int) pa_nil))))))))), pure_need_formula K n vs H Q E h⟩
theorem ok_formula_of (T : Top K mg) : Cal P w K mg base 1 "formula_of" (sp_formula_of K) := by
  exact cal_of (k := 0) T.f_formula_of sc_formula_of (by intro vs H Q E h; repeat (first | (obtain ⟨rfl, _⟩ := h; rfl) | (obtain ⟨_, h⟩ := h))) fun f cdv A outer s H vs Q E hr h => ⟨t_formula_of K, PSs.nox (pss_cons (ps_if (pt_cmpR (o_eq hr.units) (pe_ix ix_seq (pv 0) pe_int (fun _ _ => rfl)) pe_str (by first | exact nomark _ | rfl)) (pss_one (ps_ret pe_non)) pss_nil) (pss_cons (ps_if (pt_cmpR (o_eq hr.units) (pe_ix ix_seq (pv 0) pe_int (fun _ _ => rfl)) pe_str (by first | exact nomark _ | rfl)) (pss_one (ps_ret (pe_ix ix_seq (pv 0) pe_int (fun _ _ => rfl)))) pss_nil) (pss_one (ps_ret (pe_ix ix_seq (pv 0) pe_int (fun _ _ => rfl)))))), pure_formula_of K vs H Q E h⟩
theorem ok_need_block_of (T : Top K mg) {n j : Nat} (hj : 21 ≤ j) (c_need_row : Cal P w K mg base j "need_row" (sp_need_row K n)) : Cal P w K mg base (j + 1) "need_block" (sp_need_block K n) := by
  have c_is_list : Cal P w K mg base 1 "is_list" (sp_is_list K) := ok_is_list T
  exact cal_of (k := j) T.f_need_block sc_need_block (by intro vs H Q E h; repeat (first | (obtain ⟨rfl, _⟩ := h; rfl) | (obtain ⟨_, h⟩ := h))) fun f cdv A outer s H vs Q E hr h => ⟨t_need_block K n, PSs.nox (pss_cons (ps_if (pt_not (pt_val (pe_f c_is_list hr (by omega) (pa_cons (pv 0) pa_nil)))) (pss_one ps_never) pss_nil) (pss_one (ps_ret (pe_callTy o_tuple (by rfl) T.z_tuple (by decide +kernel) (pa_cons (pe_lc (own := [("row", 2)]) (g := (gName 2)) (tt := tYes) rfl sc_need_block.nd (pi_seq (pv 0)) (blkOk_by (own := [("row", 2)]) (N := M_need_block) (sc := defScope s_need_block) (by decide +kernel)) (fun _ _ _ _ _ => (pg_name (i := 2) sc_need_block.nd rfl (by first | exact Or.inl rfl | exact Or.inr rfl))) (fun _ _ _ _ _ => pts_nil) (fun _ _ _ _ _ => (pe_f c_need_row hr (by omega) (pa_cons (pv 2) (pa_cons (pv 1) pa_nil))))) pa_nil))))), pure_need_block K n vs H Q E h⟩
theorem ok_need_row (T : Top K mg) : ∀ n : Nat, Cal P w K mg base (21 + 2 * n) "need_row" (sp_need_row K n)
  | 0 => cal_none T.f_need_row no_need_row
  | n + 1 => by
    have c_need_block : Cal P w K mg base (21 + 2 * n + 1) "need_block" (sp_need_block K n) := ok_need_block_of T (by omega) (ok_need_row T n)
    have c_need_form : Cal P w K mg base 2 "need_form" (sp_need_form K) := ok_need_form T
    have c_need_formula : Cal P w K mg base 21 "need_formula" (sp_need_formula K 18) := ok_need_formula T 18
    have c_formula_of : Cal P w K mg base 1 "formula_of" (sp_formula_of K) := ok_formula_of T
    have c_blocks_of : Cal P w K mg base 1 "blocks_of" (sp_blocks_of K) := ok_blocks_of T
    exact (cal_of (k := 21 + 2 * n + 1) T.f_need_row sc_need_row (by intro vs H Q E h; repeat (first | (obtain ⟨rfl, _⟩ := h; rfl) | (obtain ⟨_, h⟩ := h))) fun f cdv A outer s H vs Q E hr h => ⟨t_need_row K n, PSs.nox (pss_cons (ps_expr (pe_f c_need_form hr (by omega) (pa_cons (pv 0) pa_nil))) (pss_cons (ps_if (pt_cmpR o_gt (pv 1) (pe_globI (by rfl) T.g_DEEPEST_ROW) (by first | exact nomark _ | rfl)) (pss_one ps_never) pss_nil) (pss_cons (ps_if (pt_cmpR (o_ne hr.units) (pe_ix ix_seq (pv 0) pe_int (fun _ _ => rfl)) pe_str (by first | exact nomark _ | rfl)) (pss_one (ps_expr (pe_f c_need_formula hr (by omega) (pa_cons (pe_f c_formula_of hr (by omega) (pa_cons (pv 0) pa_nil)) (pa_cons (pe_globI (by rfl) T.g_MOST_DEEP) pa_nil))))) pss_nil) (pss_cons (ps_setLc (i := 2) (own := [("block", 3)]) (g := (gName 3)) (tt := tYes) rfl sc_need_row.nd rfl rfl (sw_true rfl rfl rfl (by decide +kernel)) (pi_seq (pe_f c_blocks_of hr (by omega) (pa_cons (pv 0) pa_nil))) (blkOk_by (own := [("block", 3)]) (N := M_need_row) (sc := defScope s_need_row) (by decide +kernel)) (fun _ _ _ _ _ => (pg_name (i := 3) sc_need_row.nd rfl (by first | exact Or.inl rfl | exact Or.inr rfl))) (fun _ _ _ _ _ => pts_nil) (fun _ _ _ _ _ => (pe_f c_need_block hr (by omega) (pa_cons (pv 3) (pa_cons (pe_op o_add (pv 1) pe_int) pa_nil))))) (pss_cons (ps_if (PW.pt (pw_or (pt_cmpR (o_eq hr.units) (pe_ix ix_seq (pv 0) pe_int (fun _ _ => rfl)) pe_str (by first | exact nomark _ | rfl)) (pw_or1 (pt_cmpR (o_eq hr.units) (pe_ix ix_seq (pv 0) pe_int (fun _ _ => rfl)) pe_str (by first | exact nomark _ | rfl))))) (pss_one (ps_ret (pe_op o_add (pe_tup (pa_cons (pe_ix ix_seq (pv 0) pe_int (fun _ _ => rfl)) (pa_cons (pe_ix ix_seq (pv 0) pe_int (fun _ _ => rfl)) pa_nil))) (pe_callTy o_tuple (by rfl) T.z_tuple (by decide +kernel) (pa_cons (pv 2) pa_nil))))) pss_nil) (pss_one (ps_ret (pv 0)))))))), pure_need_row K n vs H Q E h⟩).mono (by omega)
theorem ok_need_block (T : Top K mg) (n : Nat) : Cal P w K mg base (21 + 2 * n + 1) "need_block" (sp_need_block K n) := ok_need_block_of T (by omega) (ok_need_row T n)
theorem ok_Program___init__ (T : Top K mg) : CalC P w K mg base 39 "Program" as_Program (sp_Program___init__ K) := by
  obtain ⟨C, cc, hm, hi, h_told, h_block, h_kind⟩ := T.c_Program
  have c_need_names : Cal P w K mg base 2 "need_names" (sp_need_names K) := ok_need_names T
  have c_need_block : Cal P w K mg base 38 "need_block" (sp_need_block K 8) := ok_need_block T 8
  exact calC_of (k := 38) cc hm hi sc_Program___init__ (by intro vs H Q E h; repeat (first | (obtain ⟨rfl, _⟩ := h; rfl) | (obtain ⟨_, h⟩ := h))) fun f cdv A outer s H vs Q E hr h => ⟨t_Program___init__ K, PSs.nox (pss_cons (ps_fld (pv 0) (pe_f c_need_names hr (by decide) (pa_cons (pv 1) (pa_cons (pe_lst pa_nil) pa_nil))) rfl) (pss_cons (ps_fld (pv 0) (pe_f c_need_names hr (by decide) (pa_cons (pv 2) (pa_cons (pe_fld (pv 0) rfl) pa_nil))) rfl) (pss_one (ps_fld (pv 0) (pe_f c_need_block hr (by decide) (pa_cons (pv 3) (pa_cons pe_int pa_nil))) rfl)))), pure_Program___init__ K vs H Q E h⟩
theorem ok_law_has_division (T : Top K mg) : ∀ n : Nat, Cal P w K mg base (0 + n) "_law_has_division" (sp_law_has_division K n)
  | 0 => cal_none T.f_law_has_division no_law_has_division
  | n + 1 => by
    have c_law_has_division : Cal P w K mg base (0 + n) "_law_has_division" (sp_law_has_division K n) := ok_law_has_division T n
    exact cal_of (k := 0 + n) T.f_law_has_division sc_law_has_division (by intro vs H Q E h; repeat (first | (obtain ⟨rfl, _⟩ := h; rfl) | (obtain ⟨_, h⟩ := h))) fun f cdv A outer s H vs Q E hr h => ⟨t_law_has_division K n, PSs.nox (pss_cons (ps_if (pt_cmpR (o_eq hr.units) (pe_callB o_len (by rfl) T.z_len (by decide +kernel) (pa_cons (pv 0) pa_nil)) pe_int (by first | exact nomark _ | rfl)) (pss_one (ps_ret pe_bl)) pss_nil) (pss_one (ps_ret (pe_or (pe_cmpR (o_eq hr.units) (pe_ix ix_seq (pv 0) pe_int (fun _ _ => rfl)) pe_str (by first | exact nomark _ | rfl)) (pe_or (pe_f c_law_has_division hr (by omega) (pa_cons (pe_ix ix_seq (pv 0) pe_int (fun _ _ => rfl)) pa_nil)) (pe_one (pe_f c_law_has_division hr (by omega) (pa_cons (pe_ix ix_seq (pv 0) pe_int (fun _ _ => rfl)) pa_nil)))))))), pure_law_has_division K n vs H Q E h⟩
theorem ok_law_divisors (T : Top K mg) : ∀ n : Nat, Cal P w K mg base (0 + n) "_law_divisors" (sp_law_divisors K n)
  | 0 => cal_none T.f_law_divisors no_law_divisors
  | n + 1 => by
    have c_law_divisors : Cal P w K mg base (0 + n) "_law_divisors" (sp_law_divisors K n) := ok_law_divisors T n
    exact cal_of (k := 0 + n) T.f_law_divisors sc_law_divisors (by intro vs H Q E h; repeat (first | (obtain ⟨rfl, _⟩ := h; rfl) | (obtain ⟨_, h⟩ := h))) fun f cdv A outer s H vs Q E hr h => ⟨t_law_divisors K n, PSs.nox (pss_cons (ps_if (PW.pt (pw_or (pt_cmpR (o_eq hr.units) (pe_ix ix_seq (pv 0) pe_int (fun _ _ => rfl)) pe_str (by first | exact nomark _ | rfl)) (pw_or1 (PW.pt (pw_and (pt_cmpR (o_eq hr.units) (pe_ix ix_seq (pv 0) pe_int (fun _ _ => rfl)) pe_str (by first | exact nomark _ | rfl)) (pw_and1 (pt_not (pt_val (pv 1))))))))) (pss_one (ps_ret (pe_lst pa_nil))) pss_nil) (pss_cons (ps_if (pt_cmpR (o_eq hr.units) (pe_ix ix_seq (pv 0) pe_int (fun _ _ => rfl)) pe_str (by first | exact nomark _ | rfl)) (pss_one (ps_ret (pe_lst (pa_cons (pe_ix ix_seq (pv 0) pe_int (fun _ _ => rfl)) pa_nil)))) pss_nil) (pss_one (ps_ret (pe_op o_add (pe_f c_law_divisors hr (by omega) (pa_cons (pe_ix ix_seq (pv 0) pe_int (fun _ _ => rfl)) (pa_cons (pv 1) pa_nil))) (pe_f c_law_divisors hr (by omega) (pa_cons (pe_ix ix_seq (pv 0) pe_int (fun _ _ => rfl)) (pa_cons (pe_or (pv 1) (pe_one (pe_cmpR (o_eq hr.units) (pe_ix ix_seq (pv 0) pe_int (fun _ _ => rfl)) pe_str (by first | exact nomark _ | rfl)))) pa_nil)))))))), pure_law_divisors K n vs H Q E h⟩
theorem ok_law_leaks (T : Top K mg) : Cal P w K mg base 19 "_law_leaks" (sp_law_leaks K) := by
  have c_law_formula : Cal P w K mg base 1 "_law_formula" (sp_law_formula K) := ok_law_formula T
  have c_law_all_names : Cal P w K mg base 18 "_law_all_names" (sp_law_all_names K 18) := ok_law_all_names T 18
  have c_law_has_division : Cal P w K mg base 18 "_law_has_division" (sp_law_has_division K 18) := ok_law_has_division T 18
  have c_law_divisors : Cal P w K mg base 18 "_law_divisors" (sp_law_divisors K 18) := ok_law_divisors T 18
  exact cal_of (k := 18) T.f_law_leaks sc_law_leaks (by intro vs H Q E h; repeat (first | (obtain ⟨rfl, _⟩ := h; rfl) | (obtain ⟨_, h⟩ := h))) fun f cdv A outer s H vs Q E hr h => ⟨t_law_leaks K, PSs.nox (pss_cons (ps_set (i := 4) sc_law_leaks.nd rfl (by first | exact Or.inl rfl | exact Or.inr rfl) (pe_f c_law_formula hr (by decide) (pa_cons (pv 1) pa_nil))) (pss_cons (ps_set (i := 5) sc_law_leaks.nd rfl (by first | exact Or.inl rfl | exact Or.inr rfl) (pe_lst pa_nil)) (pss_cons (ps_setLc (i := 6) (own := [("_law_name", 7)]) (g := (gName 7)) (tt := (tTest (tOp (rIn2 K false) (tVar 7) (tVar 3)))) rfl sc_law_leaks.nd rfl rfl (sw_true rfl rfl rfl (by decide +kernel)) (pi_seq (pe_op o_add (pe_f c_law_all_names hr (by decide) (pa_cons (pv 4) pa_nil)) (pv 2))) (blkOk_by (own := [("_law_name", 7)]) (N := M_law_leaks) (sc := defScope s_law_leaks) (by decide +kernel)) (fun _ _ _ _ _ => (pg_name (i := 7) sc_law_leaks.nd rfl (by first | exact Or.inl rfl | exact Or.inr rfl))) (fun _ _ _ _ _ => (pts_one (pt_cmpR o_in (pv 7) (pv 3) (by first | exact nomark _ | rfl)))) (fun _ _ _ _ _ => (pv 7))) (pss_cons (ps_if (PW.pt (pw_and (pt_cmpR (o_eq hr.units) (pe_ix ix_seq (pv 1) pe_int (fun _ _ => rfl)) pe_str (by first | exact nomark _ | rfl)) (pw_and1 (pt_cmpR o_in (pe_ix ix_seq (pv 1) pe_int (fun _ _ => rfl)) (pe_ix ix_seq (pv 0) pe_int (fun _ _ => rfl)) (by first | exact nomark _ | rfl))))) (pss_one (ps_expr (pe_bm PySem.F.plainAttrs_list PySem.F.slot_list_append PySem.F.type_list_append mt_append (pv 5) (pa_cons (pe_tup (pa_cons pe_str (pa_cons (pe_ix ix_seq (pv 1) pe_int (fun _ _ => rfl)) (pa_cons (pv 6) pa_nil)))) pa_nil)))) pss_nil) (pss_cons (ps_if (pt_cmpR (o_eq hr.units) (pe_ix ix_seq (pv 1) pe_int (fun _ _ => rfl)) pe_str (by first | exact nomark _ | rfl)) (pss_one (ps_expr (pe_bm PySem.F.plainAttrs_list PySem.F.slot_list_append PySem.F.type_list_append mt_append (pv 5) (pa_cons (pe_tup (pa_cons pe_str (pa_cons pe_str (pa_cons (pv 6) pa_nil)))) pa_nil)))) pss_nil) (pss_cons (ps_if (pt_cmpR (o_eq hr.units) (pe_ix ix_seq (pv 1) pe_int (fun _ _ => rfl)) pe_str (by first | exact nomark _ | rfl)) (pss_one (ps_expr (pe_bm PySem.F.plainAttrs_list PySem.F.slot_list_append PySem.F.type_list_append mt_append (pv 5) (pa_cons (pe_tup (pa_cons pe_str (pa_cons pe_str (pa_cons (pv 6) pa_nil)))) pa_nil)))) pss_nil) (pss_cons (ps_if (pt_val (pe_f c_law_has_division hr (by decide) (pa_cons (pv 4) pa_nil))) (pss_cons (ps_setLc (i := 8) (own := [("_law_name", 7)]) (g := (gName 7)) (tt := (tTest (tOp (rIn2 K false) (tVar 7) (tVar 3)))) rfl sc_law_leaks.nd rfl rfl (sw_true rfl rfl rfl (by decide +kernel)) (pi_seq (pe_op o_add (pe_f c_law_divisors hr (by decide) (pa_cons (pv 4) (pa_cons pe_bl pa_nil))) (pv 2))) (blkOk_by (own := [("_law_name", 7)]) (N := M_law_leaks) (sc := defScope s_law_leaks) (by decide +kernel)) (fun _ _ _ _ _ => (pg_name (i := 7) sc_law_leaks.nd rfl (by first | exact Or.inl rfl | exact Or.inr rfl))) (fun _ _ _ _ _ => (pts_one (pt_cmpR o_in (pv 7) (pv 3) (by first | exact nomark _ | rfl)))) (fun _ _ _ _ _ => (pv 7))) (pss_one (ps_expr (pe_bm PySem.F.plainAttrs_list PySem.F.slot_list_append PySem.F.type_list_append mt_append (pv 5) (pa_cons (pe_tup (pa_cons pe_str (pa_cons pe_str (pa_cons (pv 8) pa_nil)))) pa_nil))))) pss_nil) (pss_cons (ps_if (pt_cmpR (o_eq hr.units) (pe_ix ix_seq (pv 1) pe_int (fun _ _ => rfl)) pe_str (by first | exact nomark _ | rfl)) (pss_one (ps_ret (pe_lst pa_nil))) pss_nil) (pss_one (ps_ret (pe_lc (own := [("_law_one", 9)]) (g := (gName 9)) (tt := (tTest (tOp (rNe2 K) (tOp (rIx K) (tVar 9) (tC (.int 2))) (tLst tNil)))) rfl sc_law_leaks.nd (pi_seq (pv 5)) (blkOk_by (own := [("_law_one", 9)]) (N := M_law_leaks) (sc := defScope s_law_leaks) (by decide +kernel)) (fun _ _ _ _ _ => (pg_name (i := 9) sc_law_leaks.nd rfl (by first | exact Or.inl rfl | exact Or.inr rfl))) (fun _ _ _ _ _ => (pts_one (pt_cmpR (o_ne hr.units) (pe_ix ix_seq (pv 9) pe_int (fun _ _ => rfl)) (pe_lst pa_nil) (by first | exact nomark _ | rfl)))) (fun _ _ _ _ _ => (pv 9))))))))))))), pure_law_leaks K vs H Q E h⟩
theorem ok_law_first (T : Top K mg) : Cal P w K mg base 20 "_law_first" (sp_law_first K) := by
  have c_law_leaks : Cal P w K mg base 19 "_law_leaks" (sp_law_leaks K) := ok_law_leaks T
  exact cal_of (k := 19) T.f_law_first sc_law_first (by intro vs H Q E h; repeat (first | (obtain ⟨rfl, _⟩ := h; rfl) | (obtain ⟨_, h⟩ := h))) fun f cdv A outer s H vs Q E hr h => ⟨t_law_first K, PSs.nox (pss_cons (ps_for PassesOwn.never rfl (pi_enum (by rfl) T.z_enumerate (pa_cons (pv 1) pa_nil)) (pg_tup rfl (pgs_cons (pg_name (i := 3) sc_law_first.nd rfl (by first | exact Or.inl rfl | exact Or.inr rfl)) (pgs_cons (pg_name (i := 4) sc_law_first.nd rfl (by first | exact Or.inl rfl | exact Or.inr rfl)) pgs_nil))) (pss_cons (ps_set (i := 5) sc_law_first.nd rfl (by first | exact Or.inl rfl | exact Or.inr rfl) (pe_f c_law_leaks hr (by decide) (pa_cons (pv 0) (pa_cons (pe_ix ix_seq (pv 4) pe_int (fun _ _ => rfl)) (pa_cons (pe_ix ix_seq (pv 4) pe_int (fun _ _ => rfl)) (pa_cons (pv 2) pa_nil)))))) (pss_one (ps_if (pt_cmpR (o_ne hr.units) (pv 5) (pe_lst pa_nil) (by first | exact nomark _ | rfl)) (pss_one (ps_ret (pe_op o_add (pe_tup (pa_cons (pe_op o_add (pv 3) pe_int) pa_nil)) (pe_ix ix_seq (pv 5) pe_int (fun _ _ => rfl))))) pss_nil)))) (pss_one (ps_ret pe_non))), pure_law_first K vs H Q E h⟩
theorem ok_law_secret (T : Top K mg) : Cal P w K mg base 19 "_law_secret" (sp_law_secret K) := by
  have c_law_all_names : Cal P w K mg base 18 "_law_all_names" (sp_law_all_names K 18) := ok_law_all_names T 18
  exact cal_of (k := 18) T.f_law_secret sc_law_secret (by intro vs H Q E h; repeat (first | (obtain ⟨rfl, _⟩ := h; rfl) | (obtain ⟨_, h⟩ := h))) fun f cdv A outer s H vs Q E hr h => ⟨t_law_secret K, PSs.nox (pss_cons (ps_set (i := 2) sc_law_secret.nd rfl (by first | exact Or.inl rfl | exact Or.inr rfl) (pe_callTy (o_list rfl) (by rfl) T.z_list (by decide +kernel) (pa_cons (pe_ix ix_seq (pv 0) pe_int (fun _ _ => rfl)) pa_nil))) (pss_cons (ps_set (i := 3) sc_law_secret.nd rfl (by first | exact Or.inl rfl | exact Or.inr rfl) pe_bl) (pss_cons (ps_while PassesOwn.never (pt_val (pv 3)) (pss_cons (ps_set (i := 3) sc_law_secret.nd rfl (by first | exact Or.inl rfl | exact Or.inr rfl) pe_bl) (pss_one (ps_for PassesOwn.never rfl (pi_seq (pv 1)) (pg_tup rfl (pgs_cons (pg_name (i := 4) sc_law_secret.nd rfl (by first | exact Or.inl rfl | exact Or.inr rfl)) (pgs_cons (pg_name (i := 5) sc_law_secret.nd rfl (by first | exact Or.inl rfl | exact Or.inr rfl)) pgs_nil))) (pss_one (ps_if (PW.pt (pw_and (pt_cmpR (o_eq hr.units) (pe_ix ix_seq (pv 4) pe_int (fun _ _ => rfl)) pe_str (by first | exact nomark _ | rfl)) (pw_and1 (pt_cmpR o_nin (pe_ix ix_seq (pv 4) pe_int (fun _ _ => rfl)) (pe_op o_add (pe_ix ix_seq (pv 0) pe_int (fun _ _ => rfl)) (pv 2)) (by first | exact nomark _ | rfl))))) (pss_one (ps_if (pt_cmpR (o_ne hr.units) (pe_lc (own := [("_law_name", 6)]) (g := (gName 6)) (tt := (tTest (tOp (rIn2 K false) (tVar 6) (tVar 2)))) rfl sc_law_secret.nd (pi_seq (pe_op o_add (pe_f c_law_all_names hr (by decide) (pa_cons (pe_ix ix_seq (pv 4) pe_int (fun _ _ => rfl)) pa_nil)) (pv 5))) (blkOk_by (own := [("_law_name", 6)]) (N := M_law_secret) (sc := defScope s_law_secret) (by decide +kernel)) (fun _ _ _ _ _ => (pg_name (i := 6) sc_law_secret.nd rfl (by first | exact Or.inl rfl | exact Or.inr rfl))) (fun _ _ _ _ _ => (pts_one (pt_cmpR o_in (pv 6) (pv 2) (by first | exact nomark _ | rfl)))) (fun _ _ _ _ _ => (pv 6))) (pe_lst pa_nil) (by first | exact nomark _ | rfl)) (pss_cons (ps_expr (pe_bm PySem.F.plainAttrs_list PySem.F.slot_list_append PySem.F.type_list_append mt_append (pv 2) (pa_cons (pe_ix ix_seq (pv 4) pe_int (fun _ _ => rfl)) pa_nil))) (pss_one (ps_set (i := 3) sc_law_secret.nd rfl (by first | exact Or.inl rfl | exact Or.inr rfl) pe_bl))) pss_nil)) pss_nil)))))) (pss_one (ps_ret (pv 2)))))), pure_law_secret K vs H Q E h⟩
theorem ok_Program_told (T : Top K mg) : CalM P w K mg base 1 "Program" as_Program "told" (sp_Program_told K) := by
  obtain ⟨C, cc, hm, hi, h_told, h_block, h_kind⟩ := T.c_Program
  exact calM_of (k := 0) cc h_told sc_Program_told (by intro vs H Q E h; repeat (first | (obtain ⟨rfl, _⟩ := h; rfl) | (obtain ⟨_, h⟩ := h))) fun f cdv A outer s H vs Q E hr h => ⟨t_Program_told K, PSs.nox (pss_one (ps_ret (pe_tup (pa_cons (pe_callTy (o_list rfl) (by rfl) T.z_list (by decide +kernel) (pa_cons (pe_fld (pv 0) rfl) pa_nil)) (pa_cons (pe_callTy (o_list rfl) (by rfl) T.z_list (by decide +kernel) (pa_cons (pe_fld (pv 0) rfl) pa_nil)) pa_nil))))), pure_Program_told K vs H Q E h⟩
theorem ok_all_names (T : Top K mg) : ∀ n : Nat, Cal P w K mg base (0 + n) "all_names" (sp_all_names K n)
  | 0 => cal_none T.f_all_names no_all_names
  | n + 1 => by
    have c_all_names : Cal P w K mg base (0 + n) "all_names" (sp_all_names K n) := ok_all_names T n
    exact cal_of (k := 0 + n) T.f_all_names sc_all_names (by intro vs H Q E h; repeat (first | (obtain ⟨rfl, _⟩ := h; rfl) | (obtain ⟨_, h⟩ := h))) fun f cdv A outer s H vs Q E hr h => ⟨t_all_names K n, PSs.nox (pss_cons (ps_if (pt_cmpR (o_eq hr.units) (pe_ix ix_seq (pv 0) pe_int (fun _ _ => rfl)) pe_str (by first | exact nomark _ | rfl)) (pss_one (ps_ret (pe_lst pa_nil))) pss_nil) (pss_cons (ps_if (pt_cmpR (o_eq hr.units) (pe_ix ix_seq (pv 0) pe_int (fun _ _ => rfl)) pe_str (by first | exact nomark _ | rfl)) (pss_one (ps_ret (pe_lst (pa_cons (pe_ix ix_seq (pv 0) pe_int (fun _ _ => rfl)) pa_nil)))) pss_nil) (pss_one (ps_ret (pe_op o_add (pe_f c_all_names hr (by omega) (pa_cons (pe_ix ix_seq (pv 0) pe_int (fun _ _ => rfl)) pa_nil)) (pe_f c_all_names hr (by omega) (pa_cons (pe_ix ix_seq (pv 0) pe_int (fun _ _ => rfl)) pa_nil))))))), pure_all_names K n vs H Q E h⟩
theorem ok_names_in (T : Top K mg) : Cal P w K mg base 19 "names_in" (sp_names_in K) := by
  have c_all_names : Cal P w K mg base 18 "all_names" (sp_all_names K 18) := ok_all_names T 18
  exact cal_of (k := 18) T.f_names_in sc_names_in (by intro vs H Q E h; repeat (first | (obtain ⟨rfl, _⟩ := h; rfl) | (obtain ⟨_, h⟩ := h))) fun f cdv A outer s H vs Q E hr h => ⟨t_names_in K, PSs.nox (pss_one (ps_ret (pe_sortSet rfl (by rfl) T.z_sorted (by rfl) T.z_set (pe_f c_all_names hr (by decide) (pa_cons (pv 0) pa_nil))))), pure_names_in K vs H Q E h⟩
theorem ok_many_in_of (T : Top K mg) {n j : Nat} (hj : 1 ≤ j) (c_size_of : Cal P w K mg base j "size_of" (sp_size_of K n)) : Cal P w K mg base (j + 1) "many_in" (sp_many_in K n) := by
  exact cal_of (k := j) T.f_many_in sc_many_in (by intro vs H Q E h; repeat (first | (obtain ⟨rfl, _⟩ := h; rfl) | (obtain ⟨_, h⟩ := h))) fun f cdv A outer s H vs Q E hr h => ⟨t_many_in K n, PSs.nox (pss_one (ps_ret (pe_callB (cr_sum rfl) (by rfl) T.z_sum (by decide +kernel) (pa_cons (pe_lc (own := [("row", 1)]) (g := (gName 1)) (tt := tYes) rfl sc_many_in.nd (pi_seq (pv 0)) (blkOk_by (own := [("row", 1)]) (N := M_many_in) (sc := defScope s_many_in) (by decide +kernel)) (fun _ _ _ _ _ => (pg_name (i := 1) sc_many_in.nd rfl (by first | exact Or.inl rfl | exact Or.inr rfl))) (fun _ _ _ _ _ => pts_nil) (fun _ _ _ _ _ => (pe_f c_size_of hr (by omega) (pa_cons (pv 1) pa_nil)))) pa_nil)))), pure_many_in K n vs H Q E h⟩
theorem ok_size_of (T : Top K mg) : ∀ n : Nat, Cal P w K mg base (1 + 2 * n) "size_of" (sp_size_of K n)
  | 0 => cal_none T.f_size_of no_size_of
  | n + 1 => by
    have c_many_in : Cal P w K mg base (1 + 2 * n + 1) "many_in" (sp_many_in K n) := ok_many_in_of T (by omega) (ok_size_of T n)
    have c_blocks_of : Cal P w K mg base 1 "blocks_of" (sp_blocks_of K) := ok_blocks_of T
    exact (cal_of (k := 1 + 2 * n + 1) T.f_size_of sc_size_of (by intro vs H Q E h; repeat (first | (obtain ⟨rfl, _⟩ := h; rfl) | (obtain ⟨_, h⟩ := h))) fun f cdv A outer s H vs Q E hr h => ⟨t_size_of K n, PSs.nox (pss_one (ps_ret (pe_op o_add pe_int (pe_callB (cr_sum rfl) (by rfl) T.z_sum (by decide +kernel) (pa_cons (pe_lc (own := [("block", 1)]) (g := (gName 1)) (tt := tYes) rfl sc_size_of.nd (pi_seq (pe_f c_blocks_of hr (by omega) (pa_cons (pv 0) pa_nil))) (blkOk_by (own := [("block", 1)]) (N := M_size_of) (sc := defScope s_size_of) (by decide +kernel)) (fun _ _ _ _ _ => (pg_name (i := 1) sc_size_of.nd rfl (by first | exact Or.inl rfl | exact Or.inr rfl))) (fun _ _ _ _ _ => pts_nil) (fun _ _ _ _ _ => (pe_f c_many_in hr (by omega) (pa_cons (pv 1) pa_nil)))) pa_nil))))), pure_size_of K n vs H Q E h⟩).mono (by omega)
theorem ok_rows_in (T : Top K mg) : ∀ n : Nat, Cal P w K mg base (19 + n) "rows_in" (sp_rows_in K n)
  | 0 => cal_none T.f_rows_in no_rows_in
  | n + 1 => by
    have c_rows_in : Cal P w K mg base (19 + n) "rows_in" (sp_rows_in K n) := ok_rows_in T n
    have c_blocks_of : Cal P w K mg base 1 "blocks_of" (sp_blocks_of K) := ok_blocks_of T
    have c_names_in : Cal P w K mg base 19 "names_in" (sp_names_in K) := ok_names_in T
    have c_formula_of : Cal P w K mg base 1 "formula_of" (sp_formula_of K) := ok_formula_of T
    have c_size_of : Cal P w K mg base 17 "size_of" (sp_size_of K 8) := ok_size_of T 8
    exact cal_of (k := 19 + n) T.f_rows_in sc_rows_in (by intro vs H Q E h; repeat (first | (obtain ⟨rfl, _⟩ := h; rfl) | (obtain ⟨_, h⟩ := h))) fun f cdv A outer s H vs Q E hr h => ⟨t_rows_in K n, PSs.nox (pss_cons (ps_set (i := 3) sc_rows_in.nd rfl (by first | exact Or.inl rfl | exact Or.inr rfl) (pe_lst pa_nil)) (pss_cons (ps_for PassesOwn.never rfl (pi_seq (pv 0)) (pg_name (i := 4) sc_rows_in.nd rfl (by first | exact Or.inl rfl | exact Or.inr rfl)) (pss_cons (ps_expr (pe_bm PySem.F.plainAttrs_list PySem.F.slot_list_append PySem.F.type_list_append mt_append (pv 3) (pa_cons (pe_tup (pa_cons (pv 1) (pa_cons (pv 4) (pa_cons (pv 2) pa_nil)))) pa_nil))) (pss_cons (ps_set (i := 5) sc_rows_in.nd rfl (by first | exact Or.inl rfl | exact Or.inr rfl) (pe_op o_add (pv 1) pe_int)) (pss_cons (ps_for PassesOwn.never rfl (pi_seq (pe_f c_blocks_of hr (by omega) (pa_cons (pv 4) pa_nil))) (pg_name (i := 6) sc_rows_in.nd rfl (by first | exact Or.inl rfl | exact Or.inr rfl)) (pss_cons (ps_set (i := 7) sc_rows_in.nd rfl (by first | exact Or.inl rfl | exact Or.inr rfl) (pe_f c_rows_in hr (by omega) (pa_cons (pv 6) (pa_cons (pv 5) (pa_cons (pe_op o_add (pv 2) (pe_f c_names_in hr (by omega) (pa_cons (pe_f c_formula_of hr (by omega) (pa_cons (pv 4) pa_nil)) pa_nil))) pa_nil))))) (pss_cons (ps_set (i := 3) sc_rows_in.nd rfl (by first | exact Or.inl rfl | exact Or.inr rfl) (pe_op o_add (pv 3) (pv 7))) (pss_one (ps_set (i := 5) sc_rows_in.nd rfl (by first | exact Or.inl rfl | exact Or.inr rfl) (pe_op o_add (pv 5) (pe_callB o_len (by rfl) T.z_len (by decide +kernel) (pa_cons (pv 7) pa_nil)))))))) (pss_one (ps_set (i := 1) sc_rows_in.nd rfl (by first | exact Or.inl rfl | exact Or.inr rfl) (pe_op o_add (pv 1) (pe_f c_size_of hr (by omega) (pa_cons (pv 4) pa_nil))))))))) (pss_one (ps_ret (pv 3))))), pure_rows_in K n vs H Q E h⟩
theorem ok_Program_block (T : Top K mg) : CalM P w K mg base 1 "Program" as_Program "block" (sp_Program_block K) := by
  obtain ⟨C, cc, hm, hi, h_told, h_block, h_kind⟩ := T.c_Program
  exact calM_of (k := 0) cc h_block sc_Program_block (by intro vs H Q E h; repeat (first | (obtain ⟨rfl, _⟩ := h; rfl) | (obtain ⟨_, h⟩ := h))) fun f cdv A outer s H vs Q E hr h => ⟨t_Program_block K, PSs.nox (pss_one (ps_ret (pe_fld (pv 0) rfl))), pure_Program_block K vs H Q E h⟩
theorem ok_sources_of (T : Top K mg) : Cal P w K mg base 20 "sources_of" (sp_sources_of K) := by
  have c_names_in : Cal P w K mg base 19 "names_in" (sp_names_in K) := ok_names_in T
  have c_formula_of : Cal P w K mg base 1 "formula_of" (sp_formula_of K) := ok_formula_of T
  exact cal_of (k := 19) T.f_sources_of sc_sources_of (by intro vs H Q E h; repeat (first | (obtain ⟨rfl, _⟩ := h; rfl) | (obtain ⟨_, h⟩ := h))) fun f cdv A outer s H vs Q E hr h => ⟨t_sources_of K, PSs.nox (pss_cons (ps_set (i := 2) sc_sources_of.nd rfl (by first | exact Or.inl rfl | exact Or.inr rfl) (pe_callTy (o_list rfl) (by rfl) T.z_list (by decide +kernel) (pa_cons (pv 1) pa_nil))) (pss_cons (ps_if (pt_cmpR (o_ne hr.units) (pe_ix ix_seq (pv 0) pe_int (fun _ _ => rfl)) pe_str (by first | exact nomark _ | rfl)) (pss_one (ps_set (i := 2) sc_sources_of.nd rfl (by first | exact Or.inl rfl | exact Or.inr rfl) (pe_op o_add (pv 2) (pe_f c_names_in hr (by decide) (pa_cons (pe_f c_formula_of hr (by decide) (pa_cons (pv 0) pa_nil)) pa_nil))))) pss_nil) (pss_one (ps_ret (pe_sortSet rfl (by rfl) T.z_sorted (by rfl) T.z_set (pv 2)))))), pure_sources_of K vs H Q E h⟩
theorem ok_flows (T : Top K mg) : Cal P w K mg base 29 "flows" (sp_flows K) := by
  have c_rows_in : Cal P w K mg base 28 "rows_in" (sp_rows_in K 9) := ok_rows_in T 9
  have c_Program_block : CalM P w K mg base 1 "Program" as_Program "block" (sp_Program_block K) := ok_Program_block T
  have c_sources_of : Cal P w K mg base 20 "sources_of" (sp_sources_of K) := ok_sources_of T
  exact cal_of (k := 28) T.f_flows sc_flows (by intro vs H Q E h; repeat (first | (obtain ⟨rfl, _⟩ := h; rfl) | (obtain ⟨_, h⟩ := h))) fun f cdv A outer s H vs Q E hr h => ⟨t_flows K, PSs.nox (pss_cons (ps_set (i := 1) sc_flows.nd rfl (by first | exact Or.inl rfl | exact Or.inr rfl) (pe_lst pa_nil)) (pss_cons (ps_for PassesOwn.never rfl (pi_seq (pe_f c_rows_in hr (by decide) (pa_cons (pe_m0 c_Program_block hr (by decide) (pv 0)) (pa_cons pe_int (pa_cons (pe_lst pa_nil) pa_nil))))) (pg_tup rfl (pgs_cons (pg_name (i := 2) sc_flows.nd rfl (by first | exact Or.inl rfl | exact Or.inr rfl)) (pgs_cons (pg_name (i := 3) sc_flows.nd rfl (by first | exact Or.inl rfl | exact Or.inr rfl)) (pgs_cons (pg_name (i := 4) sc_flows.nd rfl (by first | exact Or.inl rfl | exact Or.inr rfl)) pgs_nil)))) (pss_one (ps_if (pt_cmpR (o_eq hr.units) (pe_ix ix_seq (pv 3) pe_int (fun _ _ => rfl)) pe_str (by first | exact nomark _ | rfl)) (pss_one (ps_set (i := 1) sc_flows.nd rfl (by first | exact Or.inl rfl | exact Or.inr rfl) (pe_op o_add (pv 1) (pe_lc (own := [("source", 5)]) (g := (gName 5)) (tt := tYes) rfl sc_flows.nd (pi_seq (pe_f c_sources_of hr (by decide) (pa_cons (pv 3) (pa_cons (pv 4) pa_nil)))) (blkOk_by (own := [("source", 5)]) (N := M_flows) (sc := defScope s_flows) (by decide +kernel)) (fun _ _ _ _ _ => (pg_name (i := 5) sc_flows.nd rfl (by first | exact Or.inl rfl | exact Or.inr rfl))) (fun _ _ _ _ _ => pts_nil) (fun _ _ _ _ _ => (pe_tup (pa_cons (pv 2) (pa_cons (pv 5) (pa_cons (pe_ix ix_seq (pv 3) pe_int (fun _ _ => rfl)) pa_nil))))))))) pss_nil))) (pss_one (ps_ret (pv 1))))), pure_flows K vs H Q E h⟩
theorem ok_Program_kind (T : Top K mg) : CalM P w K mg base 1 "Program" as_Program "kind" (sp_Program_kind K) := by
  obtain ⟨C, cc, hm, hi, h_told, h_block, h_kind⟩ := T.c_Program
  exact calM_of (k := 0) cc h_kind sc_Program_kind (by intro vs H Q E h; repeat (first | (obtain ⟨rfl, _⟩ := h; rfl) | (obtain ⟨_, h⟩ := h))) fun f cdv A outer s H vs Q E hr h => ⟨t_Program_kind K, PSs.nox (pss_cons (ps_if (pt_cmpR o_in (pv 1) (pe_fld (pv 0) rfl) (by first | exact nomark _ | rfl)) (pss_one (ps_ret pe_str)) pss_nil) (pss_cons (ps_if (pt_cmpR o_in (pv 1) (pe_fld (pv 0) rfl) (by first | exact nomark _ | rfl)) (pss_one (ps_ret pe_str)) pss_nil) (pss_one (ps_ret pe_str)))), pure_Program_kind K vs H Q E h⟩
theorem ok_ways_to (T : Top K mg) : Cal P w K mg base 30 "ways_to" (sp_ways_to K) := by
  have c_Program_told : CalM P w K mg base 1 "Program" as_Program "told" (sp_Program_told K) := ok_Program_told T
  have c_flows : Cal P w K mg base 29 "flows" (sp_flows K) := ok_flows T
  have c_Program_kind : CalM P w K mg base 1 "Program" as_Program "kind" (sp_Program_kind K) := ok_Program_kind T
  exact cal_of (k := 29) T.f_ways_to sc_ways_to (by intro vs H Q E h; repeat (first | (obtain ⟨rfl, _⟩ := h; rfl) | (obtain ⟨_, h⟩ := h))) fun f cdv A outer s H vs Q E hr h => ⟨t_ways_to K, PSs.nox (pss_cons (ps_set (i := 1) sc_ways_to.nd rfl (by first | exact Or.inl rfl | exact Or.inr rfl) (pe_callTy (o_dictP rfl) (by rfl) T.z_dict (by decide +kernel) (pa_cons (pe_lc (own := [("name", 2)]) (g := (gName 2)) (tt := tYes) rfl sc_ways_to.nd (pi_seq (pe_callB cr_sortedS (by rfl) T.z_sorted (by decide +kernel) (pa_cons (pe_ix ix_seq (pe_m0 c_Program_told hr (by decide) (pv 0)) pe_int (fun _ _ => rfl)) pa_nil))) (blkOk_by (own := [("name", 2)]) (N := M_ways_to) (sc := defScope s_ways_to) (by decide +kernel)) (fun _ _ _ _ _ => (pg_name (i := 2) sc_ways_to.nd rfl (by first | exact Or.inl rfl | exact Or.inr rfl))) (fun _ _ _ _ _ => pts_nil) (fun _ _ _ _ _ => (pe_tup (pa_cons (pv 2) (pa_cons (pe_lst (pa_cons (pe_tup (pa_cons pe_int (pa_cons (pv 2) pa_nil))) pa_nil)) pa_nil))))) pa_nil))) (pss_cons (ps_setLc (i := 3) (own := [("flow", 4)]) (g := (gName 4)) (tt := (tTest (tOp (rEq2 K) (tM K "Program" as_Program "kind" (sp_Program_kind K) (tVar 0) (tCons (tOp (rIx K) (tVar 4) (tC (.int 2))) tNil)) (tC (.str "free"))))) rfl sc_ways_to.nd rfl rfl (sw_true rfl rfl rfl (by decide +kernel)) (pi_seq (pe_f c_flows hr (by decide) (pa_cons (pv 0) pa_nil))) (blkOk_by (own := [("flow", 4)]) (N := M_ways_to) (sc := defScope s_ways_to) (by decide +kernel)) (fun _ _ _ _ _ => (pg_name (i := 4) sc_ways_to.nd rfl (by first | exact Or.inl rfl | exact Or.inr rfl))) (fun _ _ _ _ _ => (pts_one (pt_cmpR (o_eq hr.units) (pe_m c_Program_kind hr (by decide) (pv 0) (pa_cons (pe_ix ix_seq (pv 4) pe_int (fun _ _ => rfl)) pa_nil)) pe_str (by first | exact nomark _ | rfl)))) (fun _ _ _ _ _ => (pv 4))) (pss_cons (ps_set (i := 5) sc_ways_to.nd rfl (by first | exact Or.inl rfl | exact Or.inr rfl) (pe_callTy (o_list rfl) (by rfl) T.z_list (by decide +kernel) (pa_cons (pv 1) pa_nil))) (pss_cons (ps_while PassesOwn.never (pt_cmpR (o_ne hr.units) (pv 5) (pe_lst pa_nil) (by first | exact nomark _ | rfl)) (pss_cons (ps_set (i := 6) sc_ways_to.nd rfl (by first | exact Or.inl rfl | exact Or.inr rfl) (pe_lst pa_nil)) (pss_cons (ps_for PassesOwn.never rfl (pi_seq (pv 3)) (pg_tup rfl (pgs_cons (pg_name (i := 7) sc_ways_to.nd rfl (by first | exact Or.inl rfl | exact Or.inr rfl)) (pgs_cons (pg_name (i := 8) sc_ways_to.nd rfl (by first | exact Or.inl rfl | exact Or.inr rfl)) (pgs_cons (pg_name (i := 2) sc_ways_to.nd rfl (by first | exact Or.inl rfl | exact Or.inr rfl)) pgs_nil)))) (pss_one (ps_if (PW.pt (pw_and (pt_cmpR o_in (pv 8) (pv 5) (by first | exact nomark _ | rfl)) (pw_and1 (pt_cmpR (o_ndin hr.units) (pv 2) (pv 1) (by first | exact nomark _ | rfl))))) (pss_cons (ps_dput (hu_of hr) (pv 1) (pv 2) (pe_op o_add (pe_dget (hu_of hr) (pv 1) (pv 8) (fun _ _ => rfl)) (pe_lst (pa_cons (pe_tup (pa_cons (pv 7) (pa_cons (pv 2) pa_nil))) pa_nil))) rfl) (pss_one (ps_expr (pe_bm PySem.F.plainAttrs_list PySem.F.slot_list_append PySem.F.type_list_append mt_append (pv 6) (pa_cons (pv 2) pa_nil))))) pss_nil))) (pss_one (ps_set (i := 5) sc_ways_to.nd rfl (by first | exact Or.inl rfl | exact Or.inr rfl) (pv 6)))))) (pss_one (ps_ret (pv 1))))))), pure_ways_to K vs H Q E h⟩
theorem ok_shortest (T : Top K mg) : Cal P w K mg base 1 "shortest" (sp_shortest K) := by
  exact cal_of (k := 0) T.f_shortest sc_shortest (by intro vs H Q E h; repeat (first | (obtain ⟨rfl, _⟩ := h; rfl) | (obtain ⟨_, h⟩ := h))) fun f cdv A outer s H vs Q E hr h => ⟨t_shortest K, PSs.nox (pss_cons (ps_set (i := 2) sc_shortest.nd rfl (by first | exact Or.inl rfl | exact Or.inr rfl) pe_non) (pss_cons (ps_for PassesOwn.never rfl (pi_seq (pv 1)) (pg_name (i := 3) sc_shortest.nd rfl (by first | exact Or.inl rfl | exact Or.inr rfl)) (pss_one (ps_if (PW.pt (pw_and (pt_cmpR (o_din hr.units) (pv 3) (pv 0) (by first | exact nomark _ | rfl)) (pw_and1 (PW.pt (pw_or (pt_cmpR o_isN (pv 2) pe_non (by first | exact nomark _ | rfl)) (pw_or1 (pt_cmpR o_lt (pe_callB o_len (by rfl) T.z_len (by decide +kernel) (pa_cons (pe_dget (hu_of hr) (pv 0) (pv 3) (fun _ _ => rfl)) pa_nil)) (pe_callB o_len (by rfl) T.z_len (by decide +kernel) (pa_cons (pv 2) pa_nil)) (by first | exact nomark _ | rfl)))))))) (pss_one (ps_set (i := 2) sc_shortest.nd rfl (by first | exact Or.inl rfl | exact Or.inr rfl) (pe_dget (hu_of hr) (pv 0) (pv 3) (fun _ _ => rfl)))) pss_nil))) (pss_one (ps_ret (pv 2))))), pure_shortest K vs H Q E h⟩
theorem ok_divides (T : Top K mg) : ∀ n : Nat, Cal P w K mg base (0 + n) "divides" (sp_divides K n)
  | 0 => cal_none T.f_divides no_divides
  | n + 1 => by
    have c_divides : Cal P w K mg base (0 + n) "divides" (sp_divides K n) := ok_divides T n
    exact cal_of (k := 0 + n) T.f_divides sc_divides (by intro vs H Q E h; repeat (first | (obtain ⟨rfl, _⟩ := h; rfl) | (obtain ⟨_, h⟩ := h))) fun f cdv A outer s H vs Q E hr h => ⟨t_divides K n, PSs.nox (pss_cons (ps_if (PW.pt (pw_or (pt_cmpR (o_eq hr.units) (pe_ix ix_seq (pv 0) pe_int (fun _ _ => rfl)) pe_str (by first | exact nomark _ | rfl)) (pw_or1 (pt_cmpR (o_eq hr.units) (pe_ix ix_seq (pv 0) pe_int (fun _ _ => rfl)) pe_str (by first | exact nomark _ | rfl))))) (pss_one (ps_ret pe_bl)) pss_nil) (pss_one (ps_ret (pe_or (pe_cmpR (o_eq hr.units) (pe_ix ix_seq (pv 0) pe_int (fun _ _ => rfl)) pe_str (by first | exact nomark _ | rfl)) (pe_or (pe_f c_divides hr (by omega) (pa_cons (pe_ix ix_seq (pv 0) pe_int (fun _ _ => rfl)) pa_nil)) (pe_one (pe_f c_divides hr (by omega) (pa_cons (pe_ix ix_seq (pv 0) pe_int (fun _ _ => rfl)) pa_nil)))))))), pure_divides K n vs H Q E h⟩
theorem ok_all_right (T : Top K mg) : ∀ n : Nat, Cal P w K mg base (18 + n) "all_right" (sp_all_right K n)
  | 0 => cal_none T.f_all_right no_all_right
  | n + 1 => by
    have c_all_right : Cal P w K mg base (18 + n) "all_right" (sp_all_right K n) := ok_all_right T n
    have c_all_names : Cal P w K mg base 18 "all_names" (sp_all_names K 18) := ok_all_names T 18
    exact cal_of (k := 18 + n) T.f_all_right sc_all_right (by intro vs H Q E h; repeat (first | (obtain ⟨rfl, _⟩ := h; rfl) | (obtain ⟨_, h⟩ := h))) fun f cdv A outer s H vs Q E hr h => ⟨t_all_right K n, PSs.nox (pss_cons (ps_if (PW.pt (pw_or (pt_cmpR (o_eq hr.units) (pe_ix ix_seq (pv 0) pe_int (fun _ _ => rfl)) pe_str (by first | exact nomark _ | rfl)) (pw_or1 (pt_cmpR (o_eq hr.units) (pe_ix ix_seq (pv 0) pe_int (fun _ _ => rfl)) pe_str (by first | exact nomark _ | rfl))))) (pss_one (ps_ret (pe_lst pa_nil))) pss_nil) (pss_cons (ps_set (i := 1) sc_all_right.nd rfl (by first | exact Or.inl rfl | exact Or.inr rfl) (pe_op o_add (pe_f c_all_right hr (by omega) (pa_cons (pe_ix ix_seq (pv 0) pe_int (fun _ _ => rfl)) pa_nil)) (pe_f c_all_right hr (by omega) (pa_cons (pe_ix ix_seq (pv 0) pe_int (fun _ _ => rfl)) pa_nil)))) (pss_cons (ps_if (pt_cmpR (o_eq hr.units) (pe_ix ix_seq (pv 0) pe_int (fun _ _ => rfl)) pe_str (by first | exact nomark _ | rfl)) (pss_one (ps_set (i := 1) sc_all_right.nd rfl (by first | exact Or.inl rfl | exact Or.inr rfl) (pe_op o_add (pv 1) (pe_f c_all_names hr (by omega) (pa_cons (pe_ix ix_seq (pv 0) pe_int (fun _ _ => rfl)) pa_nil))))) pss_nil) (pss_one (ps_ret (pv 1)))))), pure_all_right K n vs H Q E h⟩
theorem ok_right_names (T : Top K mg) : Cal P w K mg base 37 "right_names" (sp_right_names K) := by
  have c_all_right : Cal P w K mg base 36 "all_right" (sp_all_right K 18) := ok_all_right T 18
  exact cal_of (k := 36) T.f_right_names sc_right_names (by intro vs H Q E h; repeat (first | (obtain ⟨rfl, _⟩ := h; rfl) | (obtain ⟨_, h⟩ := h))) fun f cdv A outer s H vs Q E hr h => ⟨t_right_names K, PSs.nox (pss_one (ps_ret (pe_sortSet rfl (by rfl) T.z_sorted (by rfl) T.z_set (pe_f c_all_right hr (by decide) (pa_cons (pv 0) pa_nil))))), pure_right_names K vs H Q E h⟩
theorem ok_leak_of (T : Top K mg) : Cal P w K mg base 38 "leak_of" (sp_leak_of K) := by
  have c_shortest : Cal P w K mg base 1 "shortest" (sp_shortest K) := ok_shortest T
  have c_sources_of : Cal P w K mg base 20 "sources_of" (sp_sources_of K) := ok_sources_of T
  have c_Program_kind : CalM P w K mg base 1 "Program" as_Program "kind" (sp_Program_kind K) := ok_Program_kind T
  have c_divides : Cal P w K mg base 18 "divides" (sp_divides K 18) := ok_divides T 18
  have c_formula_of : Cal P w K mg base 1 "formula_of" (sp_formula_of K) := ok_formula_of T
  have c_right_names : Cal P w K mg base 37 "right_names" (sp_right_names K) := ok_right_names T
  exact cal_of (k := 37) T.f_leak_of sc_leak_of (by intro vs H Q E h; repeat (first | (obtain ⟨rfl, _⟩ := h; rfl) | (obtain ⟨_, h⟩ := h))) fun f cdv A outer s H vs Q E hr h => ⟨t_leak_of K, PSs.nox (pss_cons (ps_if (pt_cmpR (o_eq hr.units) (pe_ix ix_seq (pv 3) pe_int (fun _ _ => rfl)) pe_str (by first | exact nomark _ | rfl)) (pss_one (ps_ret pe_non)) pss_nil) (pss_cons (ps_set (i := 5) sc_leak_of.nd rfl (by first | exact Or.inl rfl | exact Or.inr rfl) (pe_f c_shortest hr (by decide) (pa_cons (pv 1) (pa_cons (pe_f c_sources_of hr (by decide) (pa_cons (pv 3) (pa_cons (pv 4) pa_nil))) pa_nil)))) (pss_cons (ps_if (PW.pt (pw_and (pt_cmpR o_notN (pv 5) pe_non (by first | exact nomark _ | rfl)) (pw_and (pt_cmpR (o_eq hr.units) (pe_ix ix_seq (pv 3) pe_int (fun _ _ => rfl)) pe_str (by first | exact nomark _ | rfl)) (pw_and1 (pt_cmpR (o_eq hr.units) (pe_m c_Program_kind hr (by decide) (pv 0) (pa_cons (pe_ix ix_seq (pv 3) pe_int (fun _ _ => rfl)) pa_nil)) pe_str (by first | exact nomark _ | rfl)))))) (pss_one (ps_ret (pe_tup (pa_cons pe_str (pa_cons (pe_op o_add (pv 5) (pe_lst (pa_cons (pe_tup (pa_cons (pv 2) (pa_cons (pe_ix ix_seq (pv 3) pe_int (fun _ _ => rfl)) pa_nil))) pa_nil))) pa_nil))))) pss_nil) (pss_cons (ps_if (PW.pt (pw_and (pt_cmpR o_notN (pv 5) pe_non (by first | exact nomark _ | rfl)) (pw_and1 (pt_cmpR (o_eq hr.units) (pe_ix ix_seq (pv 3) pe_int (fun _ _ => rfl)) pe_str (by first | exact nomark _ | rfl))))) (pss_one (ps_ret (pe_tup (pa_cons pe_str (pa_cons (pe_op o_add (pv 5) (pe_lst (pa_cons (pe_tup (pa_cons (pv 2) (pa_cons pe_str pa_nil))) pa_nil))) pa_nil))))) pss_nil) (pss_cons (ps_if (PW.pt (pw_and (pt_cmpR o_notN (pv 5) pe_non (by first | exact nomark _ | rfl)) (pw_and1 (pt_cmpR (o_eq hr.units) (pe_ix ix_seq (pv 3) pe_int (fun _ _ => rfl)) pe_str (by first | exact nomark _ | rfl))))) (pss_one (ps_ret (pe_tup (pa_cons pe_str (pa_cons (pe_op o_add (pv 5) (pe_lst (pa_cons (pe_tup (pa_cons (pv 2) (pa_cons pe_str pa_nil))) pa_nil))) pa_nil))))) pss_nil) (pss_cons (ps_if (pt_not (pt_val (pe_f c_divides hr (by decide) (pa_cons (pe_f c_formula_of hr (by decide) (pa_cons (pv 3) pa_nil)) pa_nil)))) (pss_one (ps_ret pe_non)) pss_nil) (pss_cons (ps_set (i := 5) sc_leak_of.nd rfl (by first | exact Or.inl rfl | exact Or.inr rfl) (pe_f c_shortest hr (by decide) (pa_cons (pv 1) (pa_cons (pe_op o_add (pe_f c_right_names hr (by decide) (pa_cons (pe_f c_formula_of hr (by decide) (pa_cons (pv 3) pa_nil)) pa_nil)) (pv 4)) pa_nil)))) (pss_cons (ps_if (pt_cmpR o_isN (pv 5) pe_non (by first | exact nomark _ | rfl)) (pss_one (ps_ret pe_non)) pss_nil) (pss_one (ps_ret (pe_tup (pa_cons pe_str (pa_cons (pe_op o_add (pv 5) (pe_lst (pa_cons (pe_tup (pa_cons (pv 2) (pa_cons pe_str pa_nil))) pa_nil))) pa_nil))))))))))))), pure_leak_of K vs H Q E h⟩
theorem ok_looked (T : Top K mg) : Cal P w K mg base 39 "looked" (sp_looked K) := by
  have c_ways_to : Cal P w K mg base 30 "ways_to" (sp_ways_to K) := ok_ways_to T
  have c_rows_in : Cal P w K mg base 28 "rows_in" (sp_rows_in K 9) := ok_rows_in T 9
  have c_Program_block : CalM P w K mg base 1 "Program" as_Program "block" (sp_Program_block K) := ok_Program_block T
  have c_leak_of : Cal P w K mg base 38 "leak_of" (sp_leak_of K) := ok_leak_of T
  exact cal_of (k := 38) T.f_looked sc_looked (by intro vs H Q E h; repeat (first | (obtain ⟨rfl, _⟩ := h; rfl) | (obtain ⟨_, h⟩ := h))) fun f cdv A outer s H vs Q E hr h => ⟨t_looked K, PSs.nox (pss_cons (ps_set (i := 1) sc_looked.nd rfl (by first | exact Or.inl rfl | exact Or.inr rfl) (pe_f c_ways_to hr (by decide) (pa_cons (pv 0) pa_nil))) (pss_cons (ps_for PassesOwn.never rfl (pi_seq (pe_f c_rows_in hr (by decide) (pa_cons (pe_m0 c_Program_block hr (by decide) (pv 0)) (pa_cons pe_int (pa_cons (pe_lst pa_nil) pa_nil))))) (pg_tup rfl (pgs_cons (pg_name (i := 2) sc_looked.nd rfl (by first | exact Or.inl rfl | exact Or.inr rfl)) (pgs_cons (pg_name (i := 3) sc_looked.nd rfl (by first | exact Or.inl rfl | exact Or.inr rfl)) (pgs_cons (pg_name (i := 4) sc_looked.nd rfl (by first | exact Or.inl rfl | exact Or.inr rfl)) pgs_nil)))) (pss_cons (ps_set (i := 5) sc_looked.nd rfl (by first | exact Or.inl rfl | exact Or.inr rfl) (pe_f c_leak_of hr (by decide) (pa_cons (pv 0) (pa_cons (pv 1) (pa_cons (pv 2) (pa_cons (pv 3) (pa_cons (pv 4) pa_nil))))))) (pss_one (ps_if (pt_cmpR o_notN (pv 5) pe_non (by first | exact nomark _ | rfl)) (pss_one (ps_ret (pv 5))) pss_nil)))) (pss_one (ps_ret pe_non)))), pure_looked K vs H Q E h⟩
theorem ok_law_whole (T : Top K mg) : Cal P w K mg base 1 "_law_whole" (sp_law_whole K) := by
  exact cal_of (k := 0) T.f_law_whole sc_law_whole (by intro vs H Q E h; repeat (first | (obtain ⟨rfl, _⟩ := h; rfl) | (obtain ⟨_, h⟩ := h))) fun f cdv A outer s H vs Q E hr h => ⟨t_law_whole K, PSs.nox (pss_one (ps_ret (pe_and (pe_callB o_isi (by rfl) T.z_isinstance (by decide +kernel) (pa_cons (pv 0) (pa_cons (pe_bltn (by rfl) T.z_int (by decide +kernel) rfl) pa_nil))) (pe_one (pe_not (pe_callB o_isi (by rfl) T.z_isinstance (by decide +kernel) (pa_cons (pv 0) (pa_cons (pe_bltn (by rfl) T.z_bool (by decide +kernel) rfl) pa_nil)))))))), pure_law_whole K vs H Q E h⟩
theorem ok_law_step (T : Top K mg) : Cal P w K mg base 19 "_law_step" (sp_law_step K) := by
  have c_law_whole : Cal P w K mg base 1 "_law_whole" (sp_law_whole K) := ok_law_whole T
  have c_law_all_names : Cal P w K mg base 18 "_law_all_names" (sp_law_all_names K 18) := ok_law_all_names T 18
  exact cal_of (k := 18) T.f_law_step sc_law_step (by intro vs H Q E h; repeat (first | (obtain ⟨rfl, _⟩ := h; rfl) | (obtain ⟨_, h⟩ := h))) fun f cdv A outer s H vs Q E hr h => ⟨t_law_step K, PSs.nox (pss_cons (ps_if (PW.pt (pw_or (pt_not (pt_val (pe_callB o_isi (by rfl) T.z_isinstance (by decide +kernel) (pa_cons (pv 3) (pa_cons (pe_bltn (by rfl) T.z_tuple (by decide +kernel) rfl) pa_nil))))) (pw_or (pt_cmpR (o_ne hr.units) (pe_callB o_len (by rfl) T.z_len (by decide +kernel) (pa_cons (pv 3) pa_nil)) pe_int (by first | exact nomark _ | rfl)) (pw_or (pt_not (pt_val (pe_f c_law_whole hr (by decide) (pa_cons (pe_ix ix_seq (pv 3) pe_int (fun _ _ => rfl)) pa_nil)))) (pw_or1 (pt_not (pt_chain o_le o_le pe_int (pe_ix ix_seq (pv 3) pe_int (fun _ _ => rfl)) (pe_callB o_len (by rfl) T.z_len (by decide +kernel) (pa_cons (pv 1) pa_nil))))))))) (pss_one (ps_ret pe_bl)) pss_nil) (pss_cons (ps_asg (pe_ix ix_seq (pv 1) (pe_op o_sub (pe_ix ix_seq (pv 3) pe_int (fun _ _ => rfl)) pe_int) (fun _ _ => rfl)) (pg_tup rfl (pgs_cons (pg_name (i := 4) sc_law_step.nd rfl (by first | exact Or.inl rfl | exact Or.inr rfl)) (pgs_cons (pg_name (i := 5) sc_law_step.nd rfl (by first | exact Or.inl rfl | exact Or.inr rfl)) pgs_nil)))) (pss_cons (ps_if (PW.pt (pw_or (pt_cmpR (o_ne hr.units) (pe_ix ix_seq (pv 4) pe_int (fun _ _ => rfl)) pe_str (by first | exact nomark _ | rfl)) (pw_or (pt_cmpR (o_ne hr.units) (pe_ix ix_seq (pv 4) pe_int (fun _ _ => rfl)) (pe_ix ix_seq (pv 3) pe_int (fun _ _ => rfl)) (by first | exact nomark _ | rfl)) (pw_or1 (pt_cmpR o_in (pe_ix ix_seq (pv 3) pe_int (fun _ _ => rfl)) (pe_op o_add (pe_ix ix_seq (pv 0) pe_int (fun _ _ => rfl)) (pe_ix ix_seq (pv 0) pe_int (fun _ _ => rfl))) (by first | exact nomark _ | rfl)))))) (pss_one (ps_ret pe_bl)) pss_nil) (pss_one (ps_ret (pe_cmpR o_in (pe_ix ix_seq (pv 2) pe_int (fun _ _ => rfl)) (pe_op o_add (pe_f c_law_all_names hr (by decide) (pa_cons (pe_ix ix_seq (pv 4) pe_int (fun _ _ => rfl)) pa_nil)) (pv 5)) (by first | exact nomark _ | rfl))))))), pure_law_step K vs H Q E h⟩
theorem ok_law_far (T : Top K mg) : Cal P w K mg base 19 "_law_far" (sp_law_far K) := by
  have c_law_all_names : Cal P w K mg base 18 "_law_all_names" (sp_law_all_names K 18) := ok_law_all_names T 18
  exact cal_of (k := 18) T.f_law_far sc_law_far (by intro vs H Q E h; repeat (first | (obtain ⟨rfl, _⟩ := h; rfl) | (obtain ⟨_, h⟩ := h))) fun f cdv A outer s H vs Q E hr h => ⟨t_law_far K, PSs.nox (pss_cons (ps_set (i := 2) sc_law_far.nd rfl (by first | exact Or.inl rfl | exact Or.inr rfl) (pe_callTy (o_dictP rfl) (by rfl) T.z_dict (by decide +kernel) (pa_cons (pe_lc (own := [("_law_name", 3)]) (g := (gName 3)) (tt := tYes) rfl sc_law_far.nd (pi_seq (pe_ix ix_seq (pv 0) pe_int (fun _ _ => rfl))) (blkOk_by (own := [("_law_name", 3)]) (N := M_law_far) (sc := defScope s_law_far) (by decide +kernel)) (fun _ _ _ _ _ => (pg_name (i := 3) sc_law_far.nd rfl (by first | exact Or.inl rfl | exact Or.inr rfl))) (fun _ _ _ _ _ => pts_nil) (fun _ _ _ _ _ => (pe_tup (pa_cons (pv 3) (pa_cons pe_int pa_nil))))) pa_nil))) (pss_cons (ps_for PassesOwn.never rfl (pi_range2 (by rfl) T.z_range (pa_cons pe_int (pa_cons (pe_op o_add (pe_callB o_len (by rfl) T.z_len (by decide +kernel) (pa_cons (pv 1) pa_nil)) pe_int) pa_nil))) (pg_name (i := 4) sc_law_far.nd rfl (by first | exact Or.inl rfl | exact Or.inr rfl)) (pss_cons (ps_lock (ps_set (i := 5) sc_law_far.nd rfl (by first | exact Or.inl rfl | exact Or.inr rfl) (pe_lc (own := [("_law_name", 3)]) (g := (gName 3)) (tt := (tTest (tOp rLt (tDGet (tVar 2) (tVar 3)) (tVar 4)))) rfl sc_law_far.nd (pi_keys (pv 2)) (blkOk_by (own := [("_law_name", 3)]) (N := M_law_far) (sc := defScope s_law_far) (by decide +kernel)) (fun _ _ _ _ _ => (pg_name (i := 3) sc_law_far.nd rfl (by first | exact Or.inl rfl | exact Or.inr rfl))) (fun _ _ _ _ _ => (pts_one (pt_cmpR o_lt (pe_dget (hu_of hr) (pv 2) (pv 3) (fun _ _ => rfl)) (pv 4) (by first | exact nomark _ | rfl)))) (fun _ _ _ _ _ => (pv 3))))) (pss_one (ps_for PassesOwn.never rfl (pi_seq (pv 1)) (pg_tup rfl (pgs_cons (pg_name (i := 6) sc_law_far.nd rfl (by first | exact Or.inl rfl | exact Or.inr rfl)) (pgs_cons (pg_name (i := 7) sc_law_far.nd rfl (by first | exact Or.inl rfl | exact Or.inr rfl)) pgs_nil))) (pss_one (ps_if (PW.pt (pw_and (pt_cmpR (o_eq hr.units) (pe_ix ix_seq (pv 6) pe_int (fun _ _ => rfl)) pe_str (by first | exact nomark _ | rfl)) (pw_and (pt_cmpR o_nin (pe_ix ix_seq (pv 6) pe_int (fun _ _ => rfl)) (pe_ix ix_seq (pv 0) pe_int (fun _ _ => rfl)) (by first | exact nomark _ | rfl)) (pw_and1 (pt_cmpR (o_ndin hr.units) (pe_ix ix_seq (pv 6) pe_int (fun _ _ => rfl)) (pv 2) (by first | exact nomark _ | rfl)))))) (pss_one (ps_if (pt_cmpR (o_ne hr.units) (pe_lc (own := [("_law_name", 3)]) (g := (gName 3)) (tt := (tTest (tOp (rIn2 K false) (tVar 3) (tVar 5)))) rfl sc_law_far.nd (pi_seq (pe_op o_add (pe_f c_law_all_names hr (by decide) (pa_cons (pe_ix ix_seq (pv 6) pe_int (fun _ _ => rfl)) pa_nil)) (pv 7))) (blkOk_by (own := [("_law_name", 3)]) (N := M_law_far) (sc := defScope s_law_far) (by decide +kernel)) (fun _ _ _ _ _ => (pg_name (i := 3) sc_law_far.nd rfl (by first | exact Or.inl rfl | exact Or.inr rfl))) (fun _ _ _ _ _ => (pts_one (pt_cmpR o_in (pv 3) (pv 5) (by first | exact nomark _ | rfl)))) (fun _ _ _ _ _ => (pv 3))) (pe_lst pa_nil) (by first | exact nomark _ | rfl)) (pss_one (ps_dput (hu_of hr) (pv 2) (pe_ix ix_seq (pv 6) pe_int (fun _ _ => rfl)) (pv 4) rfl)) pss_nil)) pss_nil)))))) (pss_one (ps_ret (pv 2))))), pure_law_far K vs H Q E h⟩
theorem ok_law_chained (T : Top K mg) : Cal P w K mg base 20 "_law_chained" (sp_law_chained K) := by
  have c_law_step : Cal P w K mg base 19 "_law_step" (sp_law_step K) := ok_law_step T
  have c_law_far : Cal P w K mg base 19 "_law_far" (sp_law_far K) := ok_law_far T
  exact cal_of (k := 19) T.f_law_chained sc_law_chained (by intro vs H Q E h; repeat (first | (obtain ⟨rfl, _⟩ := h; rfl) | (obtain ⟨_, h⟩ := h))) fun f cdv A outer s H vs Q E hr h => ⟨t_law_chained K, PSs.nox (pss_cons (ps_if (PW.pt (pw_or (pt_not (pt_val (pe_callB o_isi (by rfl) T.z_isinstance (by decide +kernel) (pa_cons (pv 2) (pa_cons (pe_bltn (by rfl) T.z_list (by decide +kernel) rfl) pa_nil))))) (pw_or (pt_cmpR o_lt (pe_callB o_len (by rfl) T.z_len (by decide +kernel) (pa_cons (pv 2) pa_nil)) pe_int (by first | exact nomark _ | rfl)) (pw_or (pt_not (pt_val (pe_callB o_isi (by rfl) T.z_isinstance (by decide +kernel) (pa_cons (pe_ix ix_seq (pv 2) pe_int (fun _ _ => rfl)) (pa_cons (pe_bltn (by rfl) T.z_tuple (by decide +kernel) rfl) pa_nil))))) (pw_or1 (pt_cmpR (o_ne hr.units) (pe_callB o_len (by rfl) T.z_len (by decide +kernel) (pa_cons (pe_ix ix_seq (pv 2) pe_int (fun _ _ => rfl)) pa_nil)) pe_int (by first | exact nomark _ | rfl))))))) (pss_one (ps_ret pe_bl)) pss_nil) (pss_cons (ps_if (PW.pt (pw_or (pt_cmpR (o_ne hr.units) (pe_ix ix_seq (pe_ix ix_seq (pv 2) pe_int (fun _ _ => rfl)) pe_int (fun _ _ => rfl)) pe_int (by first | exact nomark _ | rfl)) (pw_or (pt_cmpR o_nin (pe_ix ix_seq (pe_ix ix_seq (pv 2) pe_int (fun _ _ => rfl)) pe_int (fun _ _ => rfl)) (pe_ix ix_seq (pv 0) pe_int (fun _ _ => rfl)) (by first | exact nomark _ | rfl)) (pw_or1 (pt_cmpR (o_ne hr.units) (pe_ix ix_seq (pv 2) (pe_un o_neg pe_int) (fun _ _ => rfl)) (pe_tup (pa_cons (pe_ix ix_seq (pv 3) pe_int (fun _ _ => rfl)) (pa_cons (pe_ix ix_seq (pv 3) pe_int (fun _ _ => rfl)) pa_nil))) (by first | exact nomark _ | rfl)))))) (pss_one (ps_ret pe_bl)) pss_nil) (pss_cons (ps_for PassesOwn.never rfl (pi_range2 (by rfl) T.z_range (pa_cons pe_int (pa_cons (pe_op o_sub (pe_callB o_len (by rfl) T.z_len (by decide +kernel) (pa_cons (pv 2) pa_nil)) pe_int) pa_nil))) (pg_name (i := 4) sc_law_chained.nd rfl (by first | exact Or.inl rfl | exact Or.inr rfl)) (pss_one (ps_if (pt_not (pt_val (pe_f c_law_step hr (by decide) (pa_cons (pv 0) (pa_cons (pv 1) (pa_cons (pe_ix ix_seq (pv 2) (pe_op o_sub (pv 4) pe_int) (fun _ _ => rfl)) (pa_cons (pe_ix ix_seq (pv 2) (pv 4) (fun _ _ => rfl)) pa_nil))))))) (pss_one (ps_ret pe_bl)) pss_nil))) (pss_cons (ps_set (i := 5) sc_law_chained.nd rfl (by first | exact Or.inl rfl | exact Or.inr rfl) (pe_f c_law_far hr (by decide) (pa_cons (pv 0) (pa_cons (pv 1) pa_nil)))) (pss_one (ps_ret (pe_and (pe_cmpR o_in (pe_ix ix_seq (pe_ix ix_seq (pv 2) (pe_un o_neg pe_int) (fun _ _ => rfl)) pe_int (fun _ _ => rfl)) (pe_ix ix_seq (pv 3) pe_int (fun _ _ => rfl)) (by first | exact nomark _ | rfl)) (pe_one (pe_cmpR (o_eq hr.units) (pe_callB o_len (by rfl) T.z_len (by decide +kernel) (pa_cons (pv 2) pa_nil)) (pe_op o_add pe_int (pe_callB (cr_min rfl) (by rfl) T.z_min (by decide +kernel) (pa_cons (pe_lc (own := [("_law_name", 6)]) (g := (gName 6)) (tt := tYes) rfl sc_law_chained.nd (pi_seq (pe_ix ix_seq (pv 3) pe_int (fun _ _ => rfl))) (blkOk_by (own := [("_law_name", 6)]) (N := M_law_chained) (sc := defScope s_law_chained) (by decide +kernel)) (fun _ _ _ _ _ => (pg_name (i := 6) sc_law_chained.nd rfl (by first | exact Or.inl rfl | exact Or.inr rfl))) (fun _ _ _ _ _ => pts_nil) (fun _ _ _ _ _ => (pe_dget (hu_of hr) (pv 5) (pv 6) (fun _ _ => rfl)))) pa_nil))) (by first | exact nomark _ | rfl)))))))))), pure_law_chained K vs H Q E h⟩
theorem ok_law_right (T : Top K mg) : Cal P w K mg base 21 "_law_right" (sp_law_right K) := by
  have c_law_chained : Cal P w K mg base 20 "_law_chained" (sp_law_chained K) := ok_law_chained T
  exact cal_of (k := 20) T.f_law_right sc_law_right (by intro vs H Q E h; repeat (first | (obtain ⟨rfl, _⟩ := h; rfl) | (obtain ⟨_, h⟩ := h))) fun f cdv A outer s H vs Q E hr h => ⟨t_law_right K, PSs.nox (pss_cons (ps_if (PW.pt (pw_or (pt_cmpR o_isN (pv 3) pe_non (by first | exact nomark _ | rfl)) (pw_or1 (pt_cmpR o_isN (pv 2) pe_non (by first | exact nomark _ | rfl))))) (pss_one (ps_ret (pe_and (pe_cmpR o_isN (pv 3) pe_non (by first | exact nomark _ | rfl)) (pe_one (pe_cmpR o_isN (pv 2) pe_non (by first | exact nomark _ | rfl)))))) pss_nil) (pss_cons (ps_if (PW.pt (pw_or (pt_not (pt_val (pe_callB o_isi (by rfl) T.z_isinstance (by decide +kernel) (pa_cons (pv 2) (pa_cons (pe_bltn (by rfl) T.z_tuple (by decide +kernel) rfl) pa_nil))))) (pw_or (pt_cmpR (o_ne hr.units) (pe_callB o_len (by rfl) T.z_len (by decide +kernel) (pa_cons (pv 2) pa_nil)) pe_int (by first | exact nomark _ | rfl)) (pw_or (pt_not (pt_val (pe_callB o_isi (by rfl) T.z_isinstance (by decide +kernel) (pa_cons (pe_ix ix_seq (pv 2) pe_int (fun _ _ => rfl)) (pa_cons (pe_bltn (by rfl) T.z_str (by decide +kernel) rfl) pa_nil))))) (pw_or1 (pt_cmpR (o_ne hr.units) (pe_ix ix_seq (pv 2) pe_int (fun _ _ => rfl)) (pe_ix ix_seq (pv 3) pe_int (fun _ _ => rfl)) (by first | exact nomark _ | rfl))))))) (pss_one (ps_ret pe_bl)) pss_nil) (pss_one (ps_ret (pe_f c_law_chained hr (by decide) (pa_cons (pv 0) (pa_cons (pv 1) (pa_cons (pe_ix ix_seq (pv 2) pe_int (fun _ _ => rfl)) (pa_cons (pv 3) pa_nil))))))))), pure_law_right K vs H Q E h⟩
theorem ok_law {fa : Addr} {fd : FuncData} (T : Top K mg) (F : Fun K "law" "law" s_k10 fa fd) : FnOk P w K mg base CX0 41 fa fd ["_law_script"] (sp_k10 K) := by
  have c_law_names : Cal P w K mg base 3 "_law_names" (sp_law_names K) := ok_law_names T
  have c_law_cell_at : Cal P w K mg base 1 "_law_cell_at" (sp_law_cell_at K) := ok_law_cell_at T
  have c_law_more : Cal P w K mg base 1 "_law_more" (sp_law_more K) := ok_law_more T
  have c_law_mixed : Cal P w K mg base 1 "_law_mixed" (sp_law_mixed K) := ok_law_mixed T
  have c_law_told : Cal P w K mg base 1 "_law_told" (sp_law_told K) := ok_law_told T
  have c_law_drawn : Cal P w K mg base 22 "_law_drawn" (sp_law_drawn K) := ok_law_drawn T
  have c_law_longer : Cal P w K mg base 2 "_law_longer" (sp_law_longer K) := ok_law_longer T
  have c_law_listed : Cal P w K mg base 27 "_law_listed" (sp_law_listed K 9) := ok_law_listed T 9
  have c_Program___init__ : CalC P w K mg base 39 "Program" as_Program (sp_Program___init__ K) := ok_Program___init__ T
  have c_law_first : Cal P w K mg base 20 "_law_first" (sp_law_first K) := ok_law_first T
  have c_law_secret : Cal P w K mg base 19 "_law_secret" (sp_law_secret K) := ok_law_secret T
  have c_looked : Cal P w K mg base 39 "looked" (sp_looked K) := ok_looked T
  have c_law_right : Cal P w K mg base 21 "_law_right" (sp_law_right K) := ok_law_right T
  exact F.ok sc_k10 (by intro vs H Q E h; repeat (first | (obtain ⟨rfl, _⟩ := h; rfl) | (obtain ⟨_, h⟩ := h))) fun cdv A outer s H vs Q E hr h => ⟨t_k10 K, PSs.nox (pss_cons (ps_set (i := 1) sc_k10.nd rfl (by first | exact Or.inl rfl | exact Or.inr rfl) (pe_f c_law_names hr (by decide) (pa_cons (pe_f c_law_cell_at hr (by decide) (pa_cons (pv 0) (pa_cons pe_int pa_nil))) (pa_cons (pe_f c_law_cell_at hr (by decide) (pa_cons (pv 0) (pa_cons pe_int pa_nil))) pa_nil)))) (pss_cons (ps_set (i := 2) sc_k10.nd rfl (by first | exact Or.inl rfl | exact Or.inr rfl) (pe_f c_law_more hr (by decide) (pa_cons (pv 1) (pa_cons (pe_f c_law_mixed hr (by decide) (pa_cons (pe_f c_law_cell_at hr (by decide) (pa_cons (pv 0) (pa_cons pe_int pa_nil))) pa_nil)) pa_nil)))) (pss_cons (ps_set (i := 3) sc_k10.nd rfl (by first | exact Or.inl rfl | exact Or.inr rfl) (pe_f c_law_told hr (by decide) (pa_cons (pv 1) (pa_cons (pv 2) (pa_cons (pe_f c_law_mixed hr (by decide) (pa_cons (pe_f c_law_cell_at hr (by decide) (pa_cons (pv 0) (pa_cons pe_int pa_nil))) pa_nil)) pa_nil))))) (pss_cons (ps_set (i := 4) sc_k10.nd rfl (by first | exact Or.inl rfl | exact Or.inr rfl) (pe_f c_law_drawn hr (by decide) (pa_cons (pv 0) (pa_cons pe_int (pa_cons pe_int (pa_cons (pv 1) pa_nil)))))) (pss_cons (ps_if (pt_cmpR (o_eq hr.units) (pe_op o_mod (pe_op o_div (pe_f c_law_cell_at hr (by decide) (pa_cons (pv 0) (pa_cons pe_int pa_nil))) pe_int) pe_int) pe_int (by first | exact nomark _ | rfl)) (pss_one (ps_set (i := 4) sc_k10.nd rfl (by first | exact Or.inl rfl | exact Or.inr rfl) (pe_f c_law_longer hr (by decide) (pa_cons (pv 1) (pa_cons (pv 4) (pa_cons (pe_f c_law_mixed hr (by decide) (pa_cons (pe_f c_law_cell_at hr (by decide) (pa_cons (pv 0) (pa_cons pe_int pa_nil))) pa_nil)) pa_nil)))))) pss_nil) (pss_cons (ps_set (i := 5) sc_k10.nd rfl (by first | exact Or.inl rfl | exact Or.inr rfl) (pe_f c_law_listed hr (by decide) (pa_cons (pv 4) (pa_cons (pe_lst pa_nil) (pa_cons (pe_lst pa_nil) pa_nil))))) (pss_cons (ps_set (i := 6) sc_k10.nd rfl (by first | exact Or.inl rfl | exact Or.inr rfl) (pe_c c_Program___init__ hr (by decide) (pa_cons (pe_ix ix_seq (pv 3) pe_int (fun _ _ => rfl)) (pa_cons (pe_ix ix_seq (pv 3) pe_int (fun _ _ => rfl)) (pa_cons (pe_callTy o_tuple (by rfl) T.z_tuple (by decide +kernel) (pa_cons (pv 4) pa_nil)) pa_nil))))) (pss_cons (ps_set (i := 7) sc_k10.nd rfl (by first | exact Or.inl rfl | exact Or.inr rfl) (pe_f c_law_first hr (by decide) (pa_cons (pv 3) (pa_cons (pv 5) (pa_cons (pe_f c_law_secret hr (by decide) (pa_cons (pv 3) (pa_cons (pv 5) pa_nil))) pa_nil))))) (pss_cons (ps_set (i := 8) sc_k10.nd rfl (by first | exact Or.inl rfl | exact Or.inr rfl) (pe_f c_looked hr (by decide) (pa_cons (pv 6) pa_nil))) (pss_cons (ps_if (pt_not (pt_val (pe_f c_law_right hr (by decide) (pa_cons (pv 3) (pa_cons (pv 5) (pa_cons (pv 8) (pa_cons (pv 7) pa_nil))))))) (pss_one (ps_ret pe_bl)) pss_nil) (pss_cons (ps_if (pt_cmpR o_notN (pv 8) pe_non (by first | exact nomark _ | rfl)) (pss_one (ps_expr (pe_bm PySem.F.plainAttrs_list PySem.F.slot_list_append PySem.F.type_list_append mt_append (pe_ix ix_seq (pv 8) pe_int (fun _ _ => rfl)) (pa_cons pe_str pa_nil)))) pss_nil) (pss_cons (ps_if (pt_cmpR o_notN (pe_f c_looked hr (by decide) (pa_cons (pe_c c_Program___init__ hr (by decide) (pa_cons (pe_lst (pa_cons (pe_ix ix_seq (pv 1) pe_int (fun _ _ => rfl)) pa_nil)) (pa_cons (pe_lst pa_nil) (pa_cons (pe_tup (pa_cons (pe_tup (pa_cons pe_str (pa_cons (pe_tup (pa_cons pe_str (pa_cons (pe_ix ix_seq (pv 1) pe_int (fun _ _ => rfl)) pa_nil))) pa_nil))) pa_nil)) pa_nil)))) pa_nil)) pe_non (by first | exact nomark _ | rfl)) (pss_one (ps_ret pe_bl)) pss_nil) (pss_one (ps_ret (pe_and (pe_f c_law_right hr (by decide) (pa_cons (pv 3) (pa_cons (pv 5) (pa_cons (pe_f c_looked hr (by decide) (pa_cons (pv 6) pa_nil)) (pa_cons (pv 7) pa_nil))))) (pe_one (pe_or (pe_cmpR o_isN (pv 8) pe_non (by first | exact nomark _ | rfl)) (pe_one (pe_cmpR (o_eq hr.units) (pe_ix ix_seq (pe_ix ix_seq (pv 8) pe_int (fun _ _ => rfl)) (pe_un o_neg pe_int) (fun _ _ => rfl)) pe_str (by first | exact nomark _ | rfl)))))))))))))))))))), pure_k10 K vs H Q E h⟩
end
theorem all_mk {P : Program} {w : World} {K : PySem.W.Frag} {h : Heap} {mg : Str → Option Value} {fa : Addr} (X : K.In h) (G : h.Ns mainGlobals mg) (hfa : mg "law" = some (.ref fa))
    {f0 f1 f2 f3 f4 f5 f6 f7 f8 f9 f10 f11 f12 f13 f14 f15 f16 f17 f18 f19 f20 f21 f22 f23 f24 f25 f26 f27 f28 f29 f30 f31 f32 f33 f34 f35 f36 f37 f38 f39 f40 f41 f42 f43 f44 f45 f46 f47 f48 f49 f50 f51 f52 f53 f54 f55 f56 f57 f58 f59 f60 f61 f62 f63 : Addr} {od0 an0 od1 an1 od2 an2 od3 an3 od4 an4 od5 an5 od6 an6 od7 an7 od8 an8 od9 an9 od10 an10 od11 an11 od12 an12 od13 an13 od14 an14 od15 an15 od16 an16 od17 an17 od18 an18 od19 an19 od20 an20 od21 an21 od22 an22 od23 an23 od24 an24 od25 an25 od26 an26 od27 an27 od28 an28 od29 an29 od30 an30 od31 an31 od32 an32 od33 an33 od34 an34 od35 an35 od36 an36 od37 an37 od38 an38 od39 an39 od40 an40 od41 an41 od42 an42 od43 an43 od44 an44 od45 an45 od46 an46 od47 an47 od48 an48 od49 an49 od50 an50 od51 an51 od52 an52 od53 an53 od54 an54 od55 an55 od56 an56 od57 an57 od58 an58 od59 an59 od60 an60 od61 an61 od62 an62 od63 an63 : Option Addr} {sl0 sl1 sl2 sl3 sl4 sl5 sl6 sl7 sl8 sl9 sl10 sl11 sl12 sl13 sl14 sl15 sl16 sl17 sl18 sl19 sl20 sl21 sl22 sl23 sl24 sl25 sl26 sl27 sl28 sl29 sl30 sl31 sl32 sl33 sl34 sl35 sl36 sl37 sl38 sl39 sl40 sl41 sl42 sl43 sl44 sl45 sl46 sl47 sl48 sl49 sl50 sl51 sl52 sl53 sl54 sl55 sl56 sl57 sl58 sl59 sl60 sl61 sl62 sl63 : Array (Option Value)} {oc0 kV0 dc0 pm0 cd0 ct0 oc1 kV1 dc1 pm1 cd1 ct1 oc2 kV2 dc2 pm2 cd2 ct2 oc3 kV3 dc3 pm3 cd3 ct3 oc4 kV4 dc4 pm4 cd4 ct4 oc5 kV5 dc5 pm5 cd5 ct5 oc6 kV6 dc6 pm6 cd6 ct6 oc7 kV7 dc7 pm7 cd7 ct7 oc8 kV8 dc8 pm8 cd8 ct8 oc9 kV9 dc9 pm9 cd9 ct9 oc10 kV10 dc10 pm10 cd10 ct10 oc11 kV11 dc11 pm11 cd11 ct11 oc12 kV12 dc12 pm12 cd12 ct12 oc13 kV13 dc13 pm13 cd13 ct13 oc14 kV14 dc14 pm14 cd14 ct14 oc15 kV15 dc15 pm15 cd15 ct15 oc16 kV16 dc16 pm16 cd16 ct16 oc17 kV17 dc17 pm17 cd17 ct17 oc18 kV18 dc18 pm18 cd18 ct18 oc19 kV19 dc19 pm19 cd19 ct19 oc20 kV20 dc20 pm20 cd20 ct20 oc21 kV21 dc21 pm21 cd21 ct21 oc22 kV22 dc22 pm22 cd22 ct22 oc23 kV23 dc23 pm23 cd23 ct23 oc24 kV24 dc24 pm24 cd24 ct24 oc25 kV25 dc25 pm25 cd25 ct25 oc26 kV26 dc26 pm26 cd26 ct26 oc27 kV27 dc27 pm27 cd27 ct27 oc28 kV28 dc28 pm28 cd28 ct28 oc29 kV29 dc29 pm29 cd29 ct29 oc30 kV30 dc30 pm30 cd30 ct30 oc31 kV31 dc31 pm31 cd31 ct31 oc32 kV32 dc32 pm32 cd32 ct32 oc33 kV33 dc33 pm33 cd33 ct33 oc34 kV34 dc34 pm34 cd34 ct34 oc35 kV35 dc35 pm35 cd35 ct35 oc36 kV36 dc36 pm36 cd36 ct36 oc37 kV37 dc37 pm37 cd37 ct37 oc38 kV38 dc38 pm38 cd38 ct38 oc39 kV39 dc39 pm39 cd39 ct39 oc40 kV40 dc40 pm40 cd40 ct40 oc41 kV41 dc41 pm41 cd41 ct41 oc42 kV42 dc42 pm42 cd42 ct42 oc43 kV43 dc43 pm43 cd43 ct43 oc44 kV44 dc44 pm44 cd44 ct44 oc45 kV45 dc45 pm45 cd45 ct45 oc46 kV46 dc46 pm46 cd46 ct46 oc47 kV47 dc47 pm47 cd47 ct47 oc48 kV48 dc48 pm48 cd48 ct48 oc49 kV49 dc49 pm49 cd49 ct49 oc50 kV50 dc50 pm50 cd50 ct50 oc51 kV51 dc51 pm51 cd51 ct51 oc52 kV52 dc52 pm52 cd52 ct52 oc53 kV53 dc53 pm53 cd53 ct53 oc54 kV54 dc54 pm54 cd54 ct54 oc55 kV55 dc55 pm55 cd55 ct55 oc56 kV56 dc56 pm56 cd56 ct56 oc57 kV57 dc57 pm57 cd57 ct57 oc58 kV58 dc58 pm58 cd58 ct58 oc59 kV59 dc59 pm59 cd59 ct59 oc60 kV60 dc60 pm60 cd60 ct60 oc61 kV61 dc61 pm61 cd61 ct61 oc62 kV62 dc62 pm62 cd62 ct62 oc63 kV63 dc63 pm63 cd63 ct63 : Value}
    {C_Program : Addr}
    (aC_Program : PySem.W.nsIn K mainGlobals "Program" = some (some (.ref C_Program))) (pg_Program : PySem.W.plainGet K C_Program Str.empty = true) (hd_Program : PySem.W.hasDictIn K C_Program = true) (po_Program : PySem.W.plainOver K C_Program = true) (sa_Program : PySem.W.findIn K (.ref C_Program) "__setattr__" = some (some (.builtin "object.__setattr__"))) (mk_Program : PySem.W.makesIn K C_Program = true) (kc_Program : PySem.W.keepIn K (.ref C_Program) = true)
    (n_Program_opened : PySem.W.findIn K (.ref C_Program) "opened" = some none)
    (n_Program_hidden : PySem.W.findIn K (.ref C_Program) "hidden" = some none)
    (n_Program_inner : PySem.W.findIn K (.ref C_Program) "inner" = some none)
    (a0 : PySem.W.nsIn K mainGlobals "_law_mixed" = some (some (.ref f0))) (l0 : K.lookup f0 = some ⟨oc0, od0, .func (PySem.W.fnOf "_law_mixed" "_law_mixed" (defArgs s_law_mixed) (defBody s_law_mixed) (defScope s_law_mixed) .none kV0 dc0 pm0 an0 cd0 ct0), sl0⟩) (c0 : PySem.W.codeIn K cd0 "_law_mixed" = true) (k0 : PySem.W.keepIn K (.ref f0) = true)
    (a1 : PySem.W.nsIn K mainGlobals "_law_name_by" = some (some (.ref f1))) (l1 : K.lookup f1 = some ⟨oc1, od1, .func (PySem.W.fnOf "_law_name_by" "_law_name_by" (defArgs s_law_name_by) (defBody s_law_name_by) (defScope s_law_name_by) .none kV1 dc1 pm1 an1 cd1 ct1), sl1⟩) (c1 : PySem.W.codeIn K cd1 "_law_name_by" = true) (k1 : PySem.W.keepIn K (.ref f1) = true)
    (a2 : PySem.W.nsIn K mainGlobals "_law_twin" = some (some (.ref f2))) (l2 : K.lookup f2 = some ⟨oc2, od2, .func (PySem.W.fnOf "_law_twin" "_law_twin" (defArgs s_law_twin) (defBody s_law_twin) (defScope s_law_twin) .none kV2 dc2 pm2 an2 cd2 ct2), sl2⟩) (c2 : PySem.W.codeIn K cd2 "_law_twin" = true) (k2 : PySem.W.keepIn K (.ref f2) = true)
    (a3 : PySem.W.nsIn K mainGlobals "_law_names" = some (some (.ref f3))) (l3 : K.lookup f3 = some ⟨oc3, od3, .func (PySem.W.fnOf "_law_names" "_law_names" (defArgs s_law_names) (defBody s_law_names) (defScope s_law_names) .none kV3 dc3 pm3 an3 cd3 ct3), sl3⟩) (c3 : PySem.W.codeIn K cd3 "_law_names" = true) (k3 : PySem.W.keepIn K (.ref f3) = true)
    (a4 : PySem.W.nsIn K mainGlobals "_law_cell_at" = some (some (.ref f4))) (l4 : K.lookup f4 = some ⟨oc4, od4, .func (PySem.W.fnOf "_law_cell_at" "_law_cell_at" (defArgs s_law_cell_at) (defBody s_law_cell_at) (defScope s_law_cell_at) .none kV4 dc4 pm4 an4 cd4 ct4), sl4⟩) (c4 : PySem.W.codeIn K cd4 "_law_cell_at" = true) (k4 : PySem.W.keepIn K (.ref f4) = true)
    (a5 : PySem.W.nsIn K mainGlobals "_law_more" = some (some (.ref f5))) (l5 : K.lookup f5 = some ⟨oc5, od5, .func (PySem.W.fnOf "_law_more" "_law_more" (defArgs s_law_more) (defBody s_law_more) (defScope s_law_more) .none kV5 dc5 pm5 an5 cd5 ct5), sl5⟩) (c5 : PySem.W.codeIn K cd5 "_law_more" = true) (k5 : PySem.W.keepIn K (.ref f5) = true)
    (a6 : PySem.W.nsIn K mainGlobals "_law_told" = some (some (.ref f6))) (l6 : K.lookup f6 = some ⟨oc6, od6, .func (PySem.W.fnOf "_law_told" "_law_told" (defArgs s_law_told) (defBody s_law_told) (defScope s_law_told) .none kV6 dc6 pm6 an6 cd6 ct6), sl6⟩) (c6 : PySem.W.codeIn K cd6 "_law_told" = true) (k6 : PySem.W.keepIn K (.ref f6) = true)
    (a7 : PySem.W.nsIn K mainGlobals "_law_end_by" = some (some (.ref f7))) (l7 : K.lookup f7 = some ⟨oc7, od7, .func (PySem.W.fnOf "_law_end_by" "_law_end_by" (defArgs s_law_end_by) (defBody s_law_end_by) (defScope s_law_end_by) .none kV7 dc7 pm7 an7 cd7 ct7), sl7⟩) (c7 : PySem.W.codeIn K cd7 "_law_end_by" = true) (k7 : PySem.W.keepIn K (.ref f7) = true)
    (a8 : PySem.W.nsIn K mainGlobals "_law_formula_by" = some (some (.ref f8))) (l8 : K.lookup f8 = some ⟨oc8, od8, .func (PySem.W.fnOf "_law_formula_by" "_law_formula_by" (defArgs s_law_formula_by) (defBody s_law_formula_by) (defScope s_law_formula_by) .none kV8 dc8 pm8 an8 cd8 ct8), sl8⟩) (c8 : PySem.W.codeIn K cd8 "_law_formula_by" = true) (k8 : PySem.W.keepIn K (.ref f8) = true)
    (a9 : PySem.W.nsIn K mainGlobals "_law_all_names" = some (some (.ref f9))) (l9 : K.lookup f9 = some ⟨oc9, od9, .func (PySem.W.fnOf "_law_all_names" "_law_all_names" (defArgs s_law_all_names) (defBody s_law_all_names) (defScope s_law_all_names) .none kV9 dc9 pm9 an9 cd9 ct9), sl9⟩) (c9 : PySem.W.codeIn K cd9 "_law_all_names" = true) (k9 : PySem.W.keepIn K (.ref f9) = true)
    (a10 : PySem.W.nsIn K mainGlobals "_law_row_by" = some (some (.ref f10))) (l10 : K.lookup f10 = some ⟨oc10, od10, .func (PySem.W.fnOf "_law_row_by" "_law_row_by" (defArgs s_law_row_by) (defBody s_law_row_by) (defScope s_law_row_by) .none kV10 dc10 pm10 an10 cd10 ct10), sl10⟩) (c10 : PySem.W.codeIn K cd10 "_law_row_by" = true) (k10 : PySem.W.keepIn K (.ref f10) = true)
    (a11 : PySem.W.nsIn K mainGlobals "_law_closed" = some (some (.ref f11))) (l11 : K.lookup f11 = some ⟨oc11, od11, .func (PySem.W.fnOf "_law_closed" "_law_closed" (defArgs s_law_closed) (defBody s_law_closed) (defScope s_law_closed) .none kV11 dc11 pm11 an11 cd11 ct11), sl11⟩) (c11 : PySem.W.codeIn K cd11 "_law_closed" = true) (k11 : PySem.W.keepIn K (.ref f11) = true)
    (a12 : PySem.W.nsIn K mainGlobals "_law_put" = some (some (.ref f12))) (l12 : K.lookup f12 = some ⟨oc12, od12, .func (PySem.W.fnOf "_law_put" "_law_put" (defArgs s_law_put) (defBody s_law_put) (defScope s_law_put) .none kV12 dc12 pm12 an12 cd12 ct12), sl12⟩) (c12 : PySem.W.codeIn K cd12 "_law_put" = true) (k12 : PySem.W.keepIn K (.ref f12) = true)
    (a13 : PySem.W.nsIn K mainGlobals "_law_block_by" = some (some (.ref f13))) (l13 : K.lookup f13 = some ⟨oc13, od13, .func (PySem.W.fnOf "_law_block_by" "_law_block_by" (defArgs s_law_block_by) (defBody s_law_block_by) (defScope s_law_block_by) .none kV13 dc13 pm13 an13 cd13 ct13), sl13⟩) (c13 : PySem.W.codeIn K cd13 "_law_block_by" = true) (k13 : PySem.W.keepIn K (.ref f13) = true)
    (a14 : PySem.W.nsIn K mainGlobals "_law_leaking" = some (some (.ref f14))) (l14 : K.lookup f14 = some ⟨oc14, od14, .func (PySem.W.fnOf "_law_leaking" "_law_leaking" (defArgs s_law_leaking) (defBody s_law_leaking) (defScope s_law_leaking) .none kV14 dc14 pm14 an14 cd14 ct14), sl14⟩) (c14 : PySem.W.codeIn K cd14 "_law_leaking" = true) (k14 : PySem.W.keepIn K (.ref f14) = true)
    (a15 : PySem.W.nsIn K mainGlobals "_law_with_leak" = some (some (.ref f15))) (l15 : K.lookup f15 = some ⟨oc15, od15, .func (PySem.W.fnOf "_law_with_leak" "_law_with_leak" (defArgs s_law_with_leak) (defBody s_law_with_leak) (defScope s_law_with_leak) .none kV15 dc15 pm15 an15 cd15 ct15), sl15⟩) (c15 : PySem.W.codeIn K cd15 "_law_with_leak" = true) (k15 : PySem.W.keepIn K (.ref f15) = true)
    (a16 : PySem.W.nsIn K mainGlobals "_law_drawn" = some (some (.ref f16))) (l16 : K.lookup f16 = some ⟨oc16, od16, .func (PySem.W.fnOf "_law_drawn" "_law_drawn" (defArgs s_law_drawn) (defBody s_law_drawn) (defScope s_law_drawn) .none kV16 dc16 pm16 an16 cd16 ct16), sl16⟩) (c16 : PySem.W.codeIn K cd16 "_law_drawn" = true) (k16 : PySem.W.keepIn K (.ref f16) = true)
    (a17 : PySem.W.nsIn K mainGlobals "_law_row_of_names" = some (some (.ref f17))) (l17 : K.lookup f17 = some ⟨oc17, od17, .func (PySem.W.fnOf "_law_row_of_names" "_law_row_of_names" (defArgs s_law_row_of_names) (defBody s_law_row_of_names) (defScope s_law_row_of_names) .none kV17 dc17 pm17 an17 cd17 ct17), sl17⟩) (c17 : PySem.W.codeIn K cd17 "_law_row_of_names" = true) (k17 : PySem.W.keepIn K (.ref f17) = true)
    (a18 : PySem.W.nsIn K mainGlobals "_law_longer" = some (some (.ref f18))) (l18 : K.lookup f18 = some ⟨oc18, od18, .func (PySem.W.fnOf "_law_longer" "_law_longer" (defArgs s_law_longer) (defBody s_law_longer) (defScope s_law_longer) .none kV18 dc18 pm18 an18 cd18 ct18), sl18⟩) (c18 : PySem.W.codeIn K cd18 "_law_longer" = true) (k18 : PySem.W.keepIn K (.ref f18) = true)
    (a19 : PySem.W.nsIn K mainGlobals "_law_blocks" = some (some (.ref f19))) (l19 : K.lookup f19 = some ⟨oc19, od19, .func (PySem.W.fnOf "_law_blocks" "_law_blocks" (defArgs s_law_blocks) (defBody s_law_blocks) (defScope s_law_blocks) .none kV19 dc19 pm19 an19 cd19 ct19), sl19⟩) (c19 : PySem.W.codeIn K cd19 "_law_blocks" = true) (k19 : PySem.W.keepIn K (.ref f19) = true)
    (a20 : PySem.W.nsIn K mainGlobals "_law_formula" = some (some (.ref f20))) (l20 : K.lookup f20 = some ⟨oc20, od20, .func (PySem.W.fnOf "_law_formula" "_law_formula" (defArgs s_law_formula) (defBody s_law_formula) (defScope s_law_formula) .none kV20 dc20 pm20 an20 cd20 ct20), sl20⟩) (c20 : PySem.W.codeIn K cd20 "_law_formula" = true) (k20 : PySem.W.keepIn K (.ref f20) = true)
    (a21 : PySem.W.nsIn K mainGlobals "_law_listed" = some (some (.ref f21))) (l21 : K.lookup f21 = some ⟨oc21, od21, .func (PySem.W.fnOf "_law_listed" "_law_listed" (defArgs s_law_listed) (defBody s_law_listed) (defScope s_law_listed) .none kV21 dc21 pm21 an21 cd21 ct21), sl21⟩) (c21 : PySem.W.codeIn K cd21 "_law_listed" = true) (k21 : PySem.W.keepIn K (.ref f21) = true)
    (a22 : PySem.W.nsIn K mainGlobals "is_list" = some (some (.ref f22))) (l22 : K.lookup f22 = some ⟨oc22, od22, .func (PySem.W.fnOf "is_list" "is_list" (defArgs s_is_list) (defBody s_is_list) (defScope s_is_list) .none kV22 dc22 pm22 an22 cd22 ct22), sl22⟩) (c22 : PySem.W.codeIn K cd22 "is_list" = true) (k22 : PySem.W.keepIn K (.ref f22) = true)
    (a23 : PySem.W.nsIn K mainGlobals "is_name" = some (some (.ref f23))) (l23 : K.lookup f23 = some ⟨oc23, od23, .func (PySem.W.fnOf "is_name" "is_name" (defArgs s_is_name) (defBody s_is_name) (defScope s_is_name) .none kV23 dc23 pm23 an23 cd23 ct23), sl23⟩) (c23 : PySem.W.codeIn K cd23 "is_name" = true) (k23 : PySem.W.keepIn K (.ref f23) = true)
    (a24 : PySem.W.nsIn K mainGlobals "need_names" = some (some (.ref f24))) (l24 : K.lookup f24 = some ⟨oc24, od24, .func (PySem.W.fnOf "need_names" "need_names" (defArgs s_need_names) (defBody s_need_names) (defScope s_need_names) .none kV24 dc24 pm24 an24 cd24 ct24), sl24⟩) (c24 : PySem.W.codeIn K cd24 "need_names" = true) (k24 : PySem.W.keepIn K (.ref f24) = true)
    (a25 : PySem.W.nsIn K mainGlobals "things_of" = some (some (.ref f25))) (l25 : K.lookup f25 = some ⟨oc25, od25, .func (PySem.W.fnOf "things_of" "things_of" (defArgs s_things_of) (defBody s_things_of) (defScope s_things_of) .none kV25 dc25 pm25 an25 cd25 ct25), sl25⟩) (c25 : PySem.W.codeIn K cd25 "things_of" = true) (k25 : PySem.W.keepIn K (.ref f25) = true)
    (a26 : PySem.W.nsIn K mainGlobals "blocks_of" = some (some (.ref f26))) (l26 : K.lookup f26 = some ⟨oc26, od26, .func (PySem.W.fnOf "blocks_of" "blocks_of" (defArgs s_blocks_of) (defBody s_blocks_of) (defScope s_blocks_of) .none kV26 dc26 pm26 an26 cd26 ct26), sl26⟩) (c26 : PySem.W.codeIn K cd26 "blocks_of" = true) (k26 : PySem.W.keepIn K (.ref f26) = true)
    (a27 : PySem.W.nsIn K mainGlobals "need_form" = some (some (.ref f27))) (l27 : K.lookup f27 = some ⟨oc27, od27, .func (PySem.W.fnOf "need_form" "need_form" (defArgs s_need_form) (defBody s_need_form) (defScope s_need_form) .none kV27 dc27 pm27 an27 cd27 ct27), sl27⟩) (c27 : PySem.W.codeIn K cd27 "need_form" = true) (k27 : PySem.W.keepIn K (.ref f27) = true)
    (a28 : PySem.W.nsIn K mainGlobals "is_whole" = some (some (.ref f28))) (l28 : K.lookup f28 = some ⟨oc28, od28, .func (PySem.W.fnOf "is_whole" "is_whole" (defArgs s_is_whole) (defBody s_is_whole) (defScope s_is_whole) .none kV28 dc28 pm28 an28 cd28 ct28), sl28⟩) (c28 : PySem.W.codeIn K cd28 "is_whole" = true) (k28 : PySem.W.keepIn K (.ref f28) = true)
    (a29 : PySem.W.nsIn K mainGlobals "is_number" = some (some (.ref f29))) (l29 : K.lookup f29 = some ⟨oc29, od29, .func (PySem.W.fnOf "is_number" "is_number" (defArgs s_is_number) (defBody s_is_number) (defScope s_is_number) .none kV29 dc29 pm29 an29 cd29 ct29), sl29⟩) (c29 : PySem.W.codeIn K cd29 "is_number" = true) (k29 : PySem.W.keepIn K (.ref f29) = true)
    (a30 : PySem.W.nsIn K mainGlobals "is_end" = some (some (.ref f30))) (l30 : K.lookup f30 = some ⟨oc30, od30, .func (PySem.W.fnOf "is_end" "is_end" (defArgs s_is_end) (defBody s_is_end) (defScope s_is_end) .none kV30 dc30 pm30 an30 cd30 ct30), sl30⟩) (c30 : PySem.W.codeIn K cd30 "is_end" = true) (k30 : PySem.W.keepIn K (.ref f30) = true)
    (a31 : PySem.W.nsIn K mainGlobals "need_formula" = some (some (.ref f31))) (l31 : K.lookup f31 = some ⟨oc31, od31, .func (PySem.W.fnOf "need_formula" "need_formula" (defArgs s_need_formula) (defBody s_need_formula) (defScope s_need_formula) .none kV31 dc31 pm31 an31 cd31 ct31), sl31⟩) (c31 : PySem.W.codeIn K cd31 "need_formula" = true) (k31 : PySem.W.keepIn K (.ref f31) = true)
    (a32 : PySem.W.nsIn K mainGlobals "formula_of" = some (some (.ref f32))) (l32 : K.lookup f32 = some ⟨oc32, od32, .func (PySem.W.fnOf "formula_of" "formula_of" (defArgs s_formula_of) (defBody s_formula_of) (defScope s_formula_of) .none kV32 dc32 pm32 an32 cd32 ct32), sl32⟩) (c32 : PySem.W.codeIn K cd32 "formula_of" = true) (k32 : PySem.W.keepIn K (.ref f32) = true)
    (a33 : PySem.W.nsIn K mainGlobals "need_row" = some (some (.ref f33))) (l33 : K.lookup f33 = some ⟨oc33, od33, .func (PySem.W.fnOf "need_row" "need_row" (defArgs s_need_row) (defBody s_need_row) (defScope s_need_row) .none kV33 dc33 pm33 an33 cd33 ct33), sl33⟩) (c33 : PySem.W.codeIn K cd33 "need_row" = true) (k33 : PySem.W.keepIn K (.ref f33) = true)
    (a34 : PySem.W.nsIn K mainGlobals "need_block" = some (some (.ref f34))) (l34 : K.lookup f34 = some ⟨oc34, od34, .func (PySem.W.fnOf "need_block" "need_block" (defArgs s_need_block) (defBody s_need_block) (defScope s_need_block) .none kV34 dc34 pm34 an34 cd34 ct34), sl34⟩) (c34 : PySem.W.codeIn K cd34 "need_block" = true) (k34 : PySem.W.keepIn K (.ref f34) = true)
    (a35 : PySem.W.nsIn K mainGlobals "_law_has_division" = some (some (.ref f35))) (l35 : K.lookup f35 = some ⟨oc35, od35, .func (PySem.W.fnOf "_law_has_division" "_law_has_division" (defArgs s_law_has_division) (defBody s_law_has_division) (defScope s_law_has_division) .none kV35 dc35 pm35 an35 cd35 ct35), sl35⟩) (c35 : PySem.W.codeIn K cd35 "_law_has_division" = true) (k35 : PySem.W.keepIn K (.ref f35) = true)
    (a36 : PySem.W.nsIn K mainGlobals "_law_divisors" = some (some (.ref f36))) (l36 : K.lookup f36 = some ⟨oc36, od36, .func (PySem.W.fnOf "_law_divisors" "_law_divisors" (defArgs s_law_divisors) (defBody s_law_divisors) (defScope s_law_divisors) .none kV36 dc36 pm36 an36 cd36 ct36), sl36⟩) (c36 : PySem.W.codeIn K cd36 "_law_divisors" = true) (k36 : PySem.W.keepIn K (.ref f36) = true)
    (a37 : PySem.W.nsIn K mainGlobals "_law_leaks" = some (some (.ref f37))) (l37 : K.lookup f37 = some ⟨oc37, od37, .func (PySem.W.fnOf "_law_leaks" "_law_leaks" (defArgs s_law_leaks) (defBody s_law_leaks) (defScope s_law_leaks) .none kV37 dc37 pm37 an37 cd37 ct37), sl37⟩) (c37 : PySem.W.codeIn K cd37 "_law_leaks" = true) (k37 : PySem.W.keepIn K (.ref f37) = true)
    (a38 : PySem.W.nsIn K mainGlobals "_law_first" = some (some (.ref f38))) (l38 : K.lookup f38 = some ⟨oc38, od38, .func (PySem.W.fnOf "_law_first" "_law_first" (defArgs s_law_first) (defBody s_law_first) (defScope s_law_first) .none kV38 dc38 pm38 an38 cd38 ct38), sl38⟩) (c38 : PySem.W.codeIn K cd38 "_law_first" = true) (k38 : PySem.W.keepIn K (.ref f38) = true)
    (a39 : PySem.W.nsIn K mainGlobals "_law_secret" = some (some (.ref f39))) (l39 : K.lookup f39 = some ⟨oc39, od39, .func (PySem.W.fnOf "_law_secret" "_law_secret" (defArgs s_law_secret) (defBody s_law_secret) (defScope s_law_secret) .none kV39 dc39 pm39 an39 cd39 ct39), sl39⟩) (c39 : PySem.W.codeIn K cd39 "_law_secret" = true) (k39 : PySem.W.keepIn K (.ref f39) = true)
    (a40 : PySem.W.nsIn K mainGlobals "all_names" = some (some (.ref f40))) (l40 : K.lookup f40 = some ⟨oc40, od40, .func (PySem.W.fnOf "all_names" "all_names" (defArgs s_all_names) (defBody s_all_names) (defScope s_all_names) .none kV40 dc40 pm40 an40 cd40 ct40), sl40⟩) (c40 : PySem.W.codeIn K cd40 "all_names" = true) (k40 : PySem.W.keepIn K (.ref f40) = true)
    (a41 : PySem.W.nsIn K mainGlobals "names_in" = some (some (.ref f41))) (l41 : K.lookup f41 = some ⟨oc41, od41, .func (PySem.W.fnOf "names_in" "names_in" (defArgs s_names_in) (defBody s_names_in) (defScope s_names_in) .none kV41 dc41 pm41 an41 cd41 ct41), sl41⟩) (c41 : PySem.W.codeIn K cd41 "names_in" = true) (k41 : PySem.W.keepIn K (.ref f41) = true)
    (a42 : PySem.W.nsIn K mainGlobals "many_in" = some (some (.ref f42))) (l42 : K.lookup f42 = some ⟨oc42, od42, .func (PySem.W.fnOf "many_in" "many_in" (defArgs s_many_in) (defBody s_many_in) (defScope s_many_in) .none kV42 dc42 pm42 an42 cd42 ct42), sl42⟩) (c42 : PySem.W.codeIn K cd42 "many_in" = true) (k42 : PySem.W.keepIn K (.ref f42) = true)
    (a43 : PySem.W.nsIn K mainGlobals "size_of" = some (some (.ref f43))) (l43 : K.lookup f43 = some ⟨oc43, od43, .func (PySem.W.fnOf "size_of" "size_of" (defArgs s_size_of) (defBody s_size_of) (defScope s_size_of) .none kV43 dc43 pm43 an43 cd43 ct43), sl43⟩) (c43 : PySem.W.codeIn K cd43 "size_of" = true) (k43 : PySem.W.keepIn K (.ref f43) = true)
    (a44 : PySem.W.nsIn K mainGlobals "rows_in" = some (some (.ref f44))) (l44 : K.lookup f44 = some ⟨oc44, od44, .func (PySem.W.fnOf "rows_in" "rows_in" (defArgs s_rows_in) (defBody s_rows_in) (defScope s_rows_in) .none kV44 dc44 pm44 an44 cd44 ct44), sl44⟩) (c44 : PySem.W.codeIn K cd44 "rows_in" = true) (k44 : PySem.W.keepIn K (.ref f44) = true)
    (a45 : PySem.W.nsIn K mainGlobals "sources_of" = some (some (.ref f45))) (l45 : K.lookup f45 = some ⟨oc45, od45, .func (PySem.W.fnOf "sources_of" "sources_of" (defArgs s_sources_of) (defBody s_sources_of) (defScope s_sources_of) .none kV45 dc45 pm45 an45 cd45 ct45), sl45⟩) (c45 : PySem.W.codeIn K cd45 "sources_of" = true) (k45 : PySem.W.keepIn K (.ref f45) = true)
    (a46 : PySem.W.nsIn K mainGlobals "flows" = some (some (.ref f46))) (l46 : K.lookup f46 = some ⟨oc46, od46, .func (PySem.W.fnOf "flows" "flows" (defArgs s_flows) (defBody s_flows) (defScope s_flows) .none kV46 dc46 pm46 an46 cd46 ct46), sl46⟩) (c46 : PySem.W.codeIn K cd46 "flows" = true) (k46 : PySem.W.keepIn K (.ref f46) = true)
    (a47 : PySem.W.nsIn K mainGlobals "ways_to" = some (some (.ref f47))) (l47 : K.lookup f47 = some ⟨oc47, od47, .func (PySem.W.fnOf "ways_to" "ways_to" (defArgs s_ways_to) (defBody s_ways_to) (defScope s_ways_to) .none kV47 dc47 pm47 an47 cd47 ct47), sl47⟩) (c47 : PySem.W.codeIn K cd47 "ways_to" = true) (k47 : PySem.W.keepIn K (.ref f47) = true)
    (a48 : PySem.W.nsIn K mainGlobals "shortest" = some (some (.ref f48))) (l48 : K.lookup f48 = some ⟨oc48, od48, .func (PySem.W.fnOf "shortest" "shortest" (defArgs s_shortest) (defBody s_shortest) (defScope s_shortest) .none kV48 dc48 pm48 an48 cd48 ct48), sl48⟩) (c48 : PySem.W.codeIn K cd48 "shortest" = true) (k48 : PySem.W.keepIn K (.ref f48) = true)
    (a49 : PySem.W.nsIn K mainGlobals "divides" = some (some (.ref f49))) (l49 : K.lookup f49 = some ⟨oc49, od49, .func (PySem.W.fnOf "divides" "divides" (defArgs s_divides) (defBody s_divides) (defScope s_divides) .none kV49 dc49 pm49 an49 cd49 ct49), sl49⟩) (c49 : PySem.W.codeIn K cd49 "divides" = true) (k49 : PySem.W.keepIn K (.ref f49) = true)
    (a50 : PySem.W.nsIn K mainGlobals "all_right" = some (some (.ref f50))) (l50 : K.lookup f50 = some ⟨oc50, od50, .func (PySem.W.fnOf "all_right" "all_right" (defArgs s_all_right) (defBody s_all_right) (defScope s_all_right) .none kV50 dc50 pm50 an50 cd50 ct50), sl50⟩) (c50 : PySem.W.codeIn K cd50 "all_right" = true) (k50 : PySem.W.keepIn K (.ref f50) = true)
    (a51 : PySem.W.nsIn K mainGlobals "right_names" = some (some (.ref f51))) (l51 : K.lookup f51 = some ⟨oc51, od51, .func (PySem.W.fnOf "right_names" "right_names" (defArgs s_right_names) (defBody s_right_names) (defScope s_right_names) .none kV51 dc51 pm51 an51 cd51 ct51), sl51⟩) (c51 : PySem.W.codeIn K cd51 "right_names" = true) (k51 : PySem.W.keepIn K (.ref f51) = true)
    (a52 : PySem.W.nsIn K mainGlobals "leak_of" = some (some (.ref f52))) (l52 : K.lookup f52 = some ⟨oc52, od52, .func (PySem.W.fnOf "leak_of" "leak_of" (defArgs s_leak_of) (defBody s_leak_of) (defScope s_leak_of) .none kV52 dc52 pm52 an52 cd52 ct52), sl52⟩) (c52 : PySem.W.codeIn K cd52 "leak_of" = true) (k52 : PySem.W.keepIn K (.ref f52) = true)
    (a53 : PySem.W.nsIn K mainGlobals "looked" = some (some (.ref f53))) (l53 : K.lookup f53 = some ⟨oc53, od53, .func (PySem.W.fnOf "looked" "looked" (defArgs s_looked) (defBody s_looked) (defScope s_looked) .none kV53 dc53 pm53 an53 cd53 ct53), sl53⟩) (c53 : PySem.W.codeIn K cd53 "looked" = true) (k53 : PySem.W.keepIn K (.ref f53) = true)
    (a54 : PySem.W.nsIn K mainGlobals "_law_whole" = some (some (.ref f54))) (l54 : K.lookup f54 = some ⟨oc54, od54, .func (PySem.W.fnOf "_law_whole" "_law_whole" (defArgs s_law_whole) (defBody s_law_whole) (defScope s_law_whole) .none kV54 dc54 pm54 an54 cd54 ct54), sl54⟩) (c54 : PySem.W.codeIn K cd54 "_law_whole" = true) (k54 : PySem.W.keepIn K (.ref f54) = true)
    (a55 : PySem.W.nsIn K mainGlobals "_law_step" = some (some (.ref f55))) (l55 : K.lookup f55 = some ⟨oc55, od55, .func (PySem.W.fnOf "_law_step" "_law_step" (defArgs s_law_step) (defBody s_law_step) (defScope s_law_step) .none kV55 dc55 pm55 an55 cd55 ct55), sl55⟩) (c55 : PySem.W.codeIn K cd55 "_law_step" = true) (k55 : PySem.W.keepIn K (.ref f55) = true)
    (a56 : PySem.W.nsIn K mainGlobals "_law_far" = some (some (.ref f56))) (l56 : K.lookup f56 = some ⟨oc56, od56, .func (PySem.W.fnOf "_law_far" "_law_far" (defArgs s_law_far) (defBody s_law_far) (defScope s_law_far) .none kV56 dc56 pm56 an56 cd56 ct56), sl56⟩) (c56 : PySem.W.codeIn K cd56 "_law_far" = true) (k56 : PySem.W.keepIn K (.ref f56) = true)
    (a57 : PySem.W.nsIn K mainGlobals "_law_chained" = some (some (.ref f57))) (l57 : K.lookup f57 = some ⟨oc57, od57, .func (PySem.W.fnOf "_law_chained" "_law_chained" (defArgs s_law_chained) (defBody s_law_chained) (defScope s_law_chained) .none kV57 dc57 pm57 an57 cd57 ct57), sl57⟩) (c57 : PySem.W.codeIn K cd57 "_law_chained" = true) (k57 : PySem.W.keepIn K (.ref f57) = true)
    (a58 : PySem.W.nsIn K mainGlobals "_law_right" = some (some (.ref f58))) (l58 : K.lookup f58 = some ⟨oc58, od58, .func (PySem.W.fnOf "_law_right" "_law_right" (defArgs s_law_right) (defBody s_law_right) (defScope s_law_right) .none kV58 dc58 pm58 an58 cd58 ct58), sl58⟩) (c58 : PySem.W.codeIn K cd58 "_law_right" = true) (k58 : PySem.W.keepIn K (.ref f58) = true)
    (a59 : PySem.W.nsIn K mainGlobals "law" = some (some (.ref f59))) (l59 : K.lookup f59 = some ⟨oc59, od59, .func (PySem.W.fnOf "law" "law" (defArgs s_k10) (defBody s_k10) (defScope s_k10) .none kV59 dc59 pm59 an59 cd59 ct59), sl59⟩) (c59 : PySem.W.codeIn K cd59 "law" = true) (k59 : PySem.W.keepIn K (.ref f59) = true)
    (a60 : PySem.W.findIn K (.ref C_Program) "__init__" = some (some (.ref f60))) (i60 : PySem.W.isFn K (.ref f60) = true) (l60 : K.lookup f60 = some ⟨oc60, od60, .func (PySem.W.fnOf "__init__" "Program.__init__" (defArgs s_Program___init__) (defBody s_Program___init__) (defScope s_Program___init__) .none kV60 dc60 pm60 an60 cd60 ct60), sl60⟩) (c60 : PySem.W.codeIn K cd60 "Program.__init__" = true) (k60 : PySem.W.keepIn K (.ref f60) = true)
    (a61 : PySem.W.findIn K (.ref C_Program) "told" = some (some (.ref f61))) (i61 : PySem.W.isFn K (.ref f61) = true) (l61 : K.lookup f61 = some ⟨oc61, od61, .func (PySem.W.fnOf "told" "Program.told" (defArgs s_Program_told) (defBody s_Program_told) (defScope s_Program_told) .none kV61 dc61 pm61 an61 cd61 ct61), sl61⟩) (c61 : PySem.W.codeIn K cd61 "Program.told" = true) (k61 : PySem.W.keepIn K (.ref f61) = true)
    (a62 : PySem.W.findIn K (.ref C_Program) "block" = some (some (.ref f62))) (i62 : PySem.W.isFn K (.ref f62) = true) (l62 : K.lookup f62 = some ⟨oc62, od62, .func (PySem.W.fnOf "block" "Program.block" (defArgs s_Program_block) (defBody s_Program_block) (defScope s_Program_block) .none kV62 dc62 pm62 an62 cd62 ct62), sl62⟩) (c62 : PySem.W.codeIn K cd62 "Program.block" = true) (k62 : PySem.W.keepIn K (.ref f62) = true)
    (a63 : PySem.W.findIn K (.ref C_Program) "kind" = some (some (.ref f63))) (i63 : PySem.W.isFn K (.ref f63) = true) (l63 : K.lookup f63 = some ⟨oc63, od63, .func (PySem.W.fnOf "kind" "Program.kind" (defArgs s_Program_kind) (defBody s_Program_kind) (defScope s_Program_kind) .none kV63 dc63 pm63 an63 cd63 ct63), sl63⟩) (c63 : PySem.W.codeIn K cd63 "Program.kind" = true) (k63 : PySem.W.keepIn K (.ref f63) = true)
    (z_range : PySem.W.nsIn K mainGlobals "range" = some none)
    (z_len : PySem.W.nsIn K mainGlobals "len" = some none)
    (z_str : PySem.W.nsIn K mainGlobals "str" = some none)
    (z_list : PySem.W.nsIn K mainGlobals "list" = some none)
    (z_enumerate : PySem.W.nsIn K mainGlobals "enumerate" = some none)
    (z_max : PySem.W.nsIn K mainGlobals "max" = some none)
    (z_int : PySem.W.nsIn K mainGlobals "int" = some none)
    (z_tuple : PySem.W.nsIn K mainGlobals "tuple" = some none)
    (z_isinstance : PySem.W.nsIn K mainGlobals "isinstance" = some none)
    (z_bool : PySem.W.nsIn K mainGlobals "bool" = some none)
    (z_sorted : PySem.W.nsIn K mainGlobals "sorted" = some none)
    (z_set : PySem.W.nsIn K mainGlobals "set" = some none)
    (z_sum : PySem.W.nsIn K mainGlobals "sum" = some none)
    (z_dict : PySem.W.nsIn K mainGlobals "dict" = some none)
    (z_min : PySem.W.nsIn K mainGlobals "min" = some none)
    {a_WORDS : Addr} {d_WORDS : Option Addr} {n_WORDS : Nat} {sl_WORDS : Array (Option Value)} {t_WORDS0 t_WORDS1 t_WORDS2 t_WORDS3 t_WORDS4 t_WORDS5 t_WORDS6 : Tok} (g_WORDS : PySem.W.nsIn K mainGlobals "WORDS" = some (some (.ref a_WORDS))) (l_WORDS : K.lookup a_WORDS = some ⟨.type "tuple", d_WORDS, .seq #[.str "set" t_WORDS0, .str "tell" t_WORDS1, .str "skip" t_WORDS2, .str "if" t_WORDS3, .str "else" t_WORDS4, .str "while" t_WORDS5, .str "end" t_WORDS6] n_WORDS, sl_WORDS⟩)
    {t_LETTERS : Tok} (g_LETTERS : PySem.W.nsIn K mainGlobals "LETTERS" = some (some (.str "abcdefghijklmnopqrstuvwxyz" t_LETTERS)))
    {t_FIGURES : Tok} (g_FIGURES : PySem.W.nsIn K mainGlobals "FIGURES" = some (some (.str "0123456789" t_FIGURES)))
    {t_LIMIT : Tok} (g_LIMIT : PySem.W.nsIn K mainGlobals "LIMIT" = some (some (.int 1000000 t_LIMIT)))
    {a_SIGNS : Addr} {d_SIGNS : Option Addr} {n_SIGNS : Nat} {sl_SIGNS : Array (Option Value)} {t_SIGNS0 t_SIGNS1 t_SIGNS2 t_SIGNS3 t_SIGNS4 t_SIGNS5 : Tok} (g_SIGNS : PySem.W.nsIn K mainGlobals "SIGNS" = some (some (.ref a_SIGNS))) (l_SIGNS : K.lookup a_SIGNS = some ⟨.type "tuple", d_SIGNS, .seq #[.str "+" t_SIGNS0, .str "-" t_SIGNS1, .str "*" t_SIGNS2, .str "/" t_SIGNS3, .str "<" t_SIGNS4, .str "=" t_SIGNS5] n_SIGNS, sl_SIGNS⟩)
    {t_DEEPEST_ROW : Tok} (g_DEEPEST_ROW : PySem.W.nsIn K mainGlobals "DEEPEST_ROW" = some (some (.int 8 t_DEEPEST_ROW)))
    {t_MOST_DEEP : Tok} (g_MOST_DEEP : PySem.W.nsIn K mainGlobals "MOST_DEEP" = some (some (.int 12 t_MOST_DEEP)))
    : ∃ fd : FuncData, (∀ (s : Shared) (v : Value), BindsTo s fd ⟨[v], []⟩ [("_law_script", v)]) ∧ ∀ base : Heap, K.In base → base.Ns mainGlobals mg → FnOk P w K mg base CX0 41 fa fd ["_law_script"] (sp_k10 K) := by
  have e := hfa.symm.trans (PySem.W.mg_of X G a59)
  cases e
  have d0 : DefAt K mg "_law_mixed" s_law_mixed ["_law_number"] := ⟨⟨f0, _, (fun_mk (st := s_law_mixed) l0 c0 k0), PySem.W.mg_of X G a0, (fun_mk (st := s_law_mixed) l0 c0 k0).binds (ps := ["_law_number"]) fun _ _ _ _ _ _ us hl => match us, hl with | [_], _ => rfl⟩⟩
  have d1 : DefAt K mg "_law_name_by" s_law_name_by ["_law_cell"] := ⟨⟨f1, _, (fun_mk (st := s_law_name_by) l1 c1 k1), PySem.W.mg_of X G a1, (fun_mk (st := s_law_name_by) l1 c1 k1).binds (ps := ["_law_cell"]) fun _ _ _ _ _ _ us hl => match us, hl with | [_], _ => rfl⟩⟩
  have d2 : DefAt K mg "_law_twin" s_law_twin ["_law_name", "_law_cell"] := ⟨⟨f2, _, (fun_mk (st := s_law_twin) l2 c2 k2), PySem.W.mg_of X G a2, (fun_mk (st := s_law_twin) l2 c2 k2).binds (ps := ["_law_name", "_law_cell"]) fun _ _ _ _ _ _ us hl => match us, hl with | [_, _], _ => rfl⟩⟩
  have d3 : DefAt K mg "_law_names" s_law_names ["_law_one", "_law_other"] := ⟨⟨f3, _, (fun_mk (st := s_law_names) l3 c3 k3), PySem.W.mg_of X G a3, (fun_mk (st := s_law_names) l3 c3 k3).binds (ps := ["_law_one", "_law_other"]) fun _ _ _ _ _ _ us hl => match us, hl with | [_, _], _ => rfl⟩⟩
  have d4 : DefAt K mg "_law_cell_at" s_law_cell_at ["_law_script", "_law_k"] := ⟨⟨f4, _, (fun_mk (st := s_law_cell_at) l4 c4 k4), PySem.W.mg_of X G a4, (fun_mk (st := s_law_cell_at) l4 c4 k4).binds (ps := ["_law_script", "_law_k"]) fun _ _ _ _ _ _ us hl => match us, hl with | [_, _], _ => rfl⟩⟩
  have d5 : DefAt K mg "_law_more" s_law_more ["_law_names_here", "_law_cell"] := ⟨⟨f5, _, (fun_mk (st := s_law_more) l5 c5 k5), PySem.W.mg_of X G a5, (fun_mk (st := s_law_more) l5 c5 k5).binds (ps := ["_law_names_here", "_law_cell"]) fun _ _ _ _ _ _ us hl => match us, hl with | [_, _], _ => rfl⟩⟩
  have d6 : DefAt K mg "_law_told" s_law_told ["_law_names_here", "_law_more_here", "_law_cell"] := ⟨⟨f6, _, (fun_mk (st := s_law_told) l6 c6 k6), PySem.W.mg_of X G a6, (fun_mk (st := s_law_told) l6 c6 k6).binds (ps := ["_law_names_here", "_law_more_here", "_law_cell"]) fun _ _ _ _ _ _ us hl => match us, hl with | [_, _, _], _ => rfl⟩⟩
  have d7 : DefAt K mg "_law_end_by" s_law_end_by ["_law_number", "_law_names_here"] := ⟨⟨f7, _, (fun_mk (st := s_law_end_by) l7 c7 k7), PySem.W.mg_of X G a7, (fun_mk (st := s_law_end_by) l7 c7 k7).binds (ps := ["_law_number", "_law_names_here"]) fun _ _ _ _ _ _ us hl => match us, hl with | [_, _], _ => rfl⟩⟩
  have d8 : DefAt K mg "_law_formula_by" s_law_formula_by ["_law_number", "_law_names_here", "_law_low", "_law_divide", "_law_left"] := ⟨⟨f8, _, (fun_mk (st := s_law_formula_by) l8 c8 k8), PySem.W.mg_of X G a8, (fun_mk (st := s_law_formula_by) l8 c8 k8).binds (ps := ["_law_number", "_law_names_here", "_law_low", "_law_divide", "_law_left"]) fun _ _ _ _ _ _ us hl => match us, hl with | [_, _, _, _, _], _ => rfl⟩⟩
  have d9 : DefAt K mg "_law_all_names" s_law_all_names ["_law_formula_here"] := ⟨⟨f9, _, (fun_mk (st := s_law_all_names) l9 c9 k9), PySem.W.mg_of X G a9, (fun_mk (st := s_law_all_names) l9 c9 k9).binds (ps := ["_law_formula_here"]) fun _ _ _ _ _ _ us hl => match us, hl with | [_], _ => rfl⟩⟩
  have d10 : DefAt K mg "_law_row_by" s_law_row_by ["_law_names_here", "_law_more_here", "_law_dark", "_law_mode"] := ⟨⟨f10, _, (fun_mk (st := s_law_row_by) l10 c10 k10), PySem.W.mg_of X G a10, (fun_mk (st := s_law_row_by) l10 c10 k10).binds (ps := ["_law_names_here", "_law_more_here", "_law_dark", "_law_mode"]) fun _ _ _ _ _ _ us hl => match us, hl with | [_, _, _, _], _ => rfl⟩⟩
  have d11 : DefAt K mg "_law_closed" s_law_closed ["_law_stack"] := ⟨⟨f11, _, (fun_mk (st := s_law_closed) l11 c11 k11), PySem.W.mg_of X G a11, (fun_mk (st := s_law_closed) l11 c11 k11).binds (ps := ["_law_stack"]) fun _ _ _ _ _ _ us hl => match us, hl with | [_], _ => rfl⟩⟩
  have d12 : DefAt K mg "_law_put" s_law_put ["_law_stack", "_law_names_here", "_law_more_here", "_law_mode"] := ⟨⟨f12, _, (fun_mk (st := s_law_put) l12 c12 k12), PySem.W.mg_of X G a12, (fun_mk (st := s_law_put) l12 c12 k12).binds (ps := ["_law_stack", "_law_names_here", "_law_more_here", "_law_mode"]) fun _ _ _ _ _ _ us hl => match us, hl with | [_, _, _, _], _ => rfl⟩⟩
  have d13 : DefAt K mg "_law_block_by" s_law_block_by ["_law_cells", "_law_names_here", "_law_loose"] := ⟨⟨f13, _, (fun_mk (st := s_law_block_by) l13 c13 k13), PySem.W.mg_of X G a13, (fun_mk (st := s_law_block_by) l13 c13 k13).binds (ps := ["_law_cells", "_law_names_here", "_law_loose"]) fun _ _ _ _ _ _ us hl => match us, hl with | [_, _, _], _ => rfl⟩⟩
  have d14 : DefAt K mg "_law_leaking" s_law_leaking ["_law_names_here", "_law_way", "_law_dark", "_law_cell"] := ⟨⟨f14, _, (fun_mk (st := s_law_leaking) l14 c14 k14), PySem.W.mg_of X G a14, (fun_mk (st := s_law_leaking) l14 c14 k14).binds (ps := ["_law_names_here", "_law_way", "_law_dark", "_law_cell"]) fun _ _ _ _ _ _ us hl => match us, hl with | [_, _, _, _], _ => rfl⟩⟩
  have d15 : DefAt K mg "_law_with_leak" s_law_with_leak ["_law_names_here", "_law_block", "_law_cell"] := ⟨⟨f15, _, (fun_mk (st := s_law_with_leak) l15 c15 k15), PySem.W.mg_of X G a15, (fun_mk (st := s_law_with_leak) l15 c15 k15).binds (ps := ["_law_names_here", "_law_block", "_law_cell"]) fun _ _ _ _ _ _ us hl => match us, hl with | [_, _, _], _ => rfl⟩⟩
  have d16 : DefAt K mg "_law_drawn" s_law_drawn ["_law_script", "_law_low", "_law_high", "_law_names_here"] := ⟨⟨f16, _, (fun_mk (st := s_law_drawn) l16 c16 k16), PySem.W.mg_of X G a16, (fun_mk (st := s_law_drawn) l16 c16 k16).binds (ps := ["_law_script", "_law_low", "_law_high", "_law_names_here"]) fun _ _ _ _ _ _ us hl => match us, hl with | [_, _, _, _], _ => rfl⟩⟩
  have d17 : DefAt K mg "_law_row_of_names" s_law_row_of_names ["_law_names_here", "_law_many", "_law_step_here"] := ⟨⟨f17, _, (fun_mk (st := s_law_row_of_names) l17 c17 k17), PySem.W.mg_of X G a17, (fun_mk (st := s_law_row_of_names) l17 c17 k17).binds (ps := ["_law_names_here", "_law_many", "_law_step_here"]) fun _ _ _ _ _ _ us hl => match us, hl with | [_, _, _], _ => rfl⟩⟩
  have d18 : DefAt K mg "_law_longer" s_law_longer ["_law_names_here", "_law_block", "_law_cell"] := ⟨⟨f18, _, (fun_mk (st := s_law_longer) l18 c18 k18), PySem.W.mg_of X G a18, (fun_mk (st := s_law_longer) l18 c18 k18).binds (ps := ["_law_names_here", "_law_block", "_law_cell"]) fun _ _ _ _ _ _ us hl => match us, hl with | [_, _, _], _ => rfl⟩⟩
  have d19 : DefAt K mg "_law_blocks" s_law_blocks ["_law_row"] := ⟨⟨f19, _, (fun_mk (st := s_law_blocks) l19 c19 k19), PySem.W.mg_of X G a19, (fun_mk (st := s_law_blocks) l19 c19 k19).binds (ps := ["_law_row"]) fun _ _ _ _ _ _ us hl => match us, hl with | [_], _ => rfl⟩⟩
  have d20 : DefAt K mg "_law_formula" s_law_formula ["_law_row"] := ⟨⟨f20, _, (fun_mk (st := s_law_formula) l20 c20 k20), PySem.W.mg_of X G a20, (fun_mk (st := s_law_formula) l20 c20 k20).binds (ps := ["_law_row"]) fun _ _ _ _ _ _ us hl => match us, hl with | [_], _ => rfl⟩⟩
  have d21 : DefAt K mg "_law_listed" s_law_listed ["_law_block", "_law_around", "_law_rows"] := ⟨⟨f21, _, (fun_mk (st := s_law_listed) l21 c21 k21), PySem.W.mg_of X G a21, (fun_mk (st := s_law_listed) l21 c21 k21).binds (ps := ["_law_block", "_law_around", "_law_rows"]) fun _ _ _ _ _ _ us hl => match us, hl with | [_, _, _], _ => rfl⟩⟩
  have d22 : DefAt K mg "is_list" s_is_list ["thing"] := ⟨⟨f22, _, (fun_mk (st := s_is_list) l22 c22 k22), PySem.W.mg_of X G a22, (fun_mk (st := s_is_list) l22 c22 k22).binds (ps := ["thing"]) fun _ _ _ _ _ _ us hl => match us, hl with | [_], _ => rfl⟩⟩
  have d23 : DefAt K mg "is_name" s_is_name ["thing"] := ⟨⟨f23, _, (fun_mk (st := s_is_name) l23 c23 k23), PySem.W.mg_of X G a23, (fun_mk (st := s_is_name) l23 c23 k23).binds (ps := ["thing"]) fun _ _ _ _ _ _ us hl => match us, hl with | [_], _ => rfl⟩⟩
  have d24 : DefAt K mg "need_names" s_need_names ["names", "told"] := ⟨⟨f24, _, (fun_mk (st := s_need_names) l24 c24 k24), PySem.W.mg_of X G a24, (fun_mk (st := s_need_names) l24 c24 k24).binds (ps := ["names", "told"]) fun _ _ _ _ _ _ us hl => match us, hl with | [_, _], _ => rfl⟩⟩
  have d25 : DefAt K mg "things_of" s_things_of ["word"] := ⟨⟨f25, _, (fun_mk (st := s_things_of) l25 c25 k25), PySem.W.mg_of X G a25, (fun_mk (st := s_things_of) l25 c25 k25).binds (ps := ["word"]) fun _ _ _ _ _ _ us hl => match us, hl with | [_], _ => rfl⟩⟩
  have d26 : DefAt K mg "blocks_of" s_blocks_of ["row"] := ⟨⟨f26, _, (fun_mk (st := s_blocks_of) l26 c26 k26), PySem.W.mg_of X G a26, (fun_mk (st := s_blocks_of) l26 c26 k26).binds (ps := ["row"]) fun _ _ _ _ _ _ us hl => match us, hl with | [_], _ => rfl⟩⟩
  have d27 : DefAt K mg "need_form" s_need_form ["row"] := ⟨⟨f27, _, (fun_mk (st := s_need_form) l27 c27 k27), PySem.W.mg_of X G a27, (fun_mk (st := s_need_form) l27 c27 k27).binds (ps := ["row"]) fun _ _ _ _ _ _ us hl => match us, hl with | [_], _ => rfl⟩⟩
  have d28 : DefAt K mg "is_whole" s_is_whole ["thing"] := ⟨⟨f28, _, (fun_mk (st := s_is_whole) l28 c28 k28), PySem.W.mg_of X G a28, (fun_mk (st := s_is_whole) l28 c28 k28).binds (ps := ["thing"]) fun _ _ _ _ _ _ us hl => match us, hl with | [_], _ => rfl⟩⟩
  have d29 : DefAt K mg "is_number" s_is_number ["thing"] := ⟨⟨f29, _, (fun_mk (st := s_is_number) l29 c29 k29), PySem.W.mg_of X G a29, (fun_mk (st := s_is_number) l29 c29 k29).binds (ps := ["thing"]) fun _ _ _ _ _ _ us hl => match us, hl with | [_], _ => rfl⟩⟩
  have d30 : DefAt K mg "is_end" s_is_end ["thing"] := ⟨⟨f30, _, (fun_mk (st := s_is_end) l30 c30 k30), PySem.W.mg_of X G a30, (fun_mk (st := s_is_end) l30 c30 k30).binds (ps := ["thing"]) fun _ _ _ _ _ _ us hl => match us, hl with | [_], _ => rfl⟩⟩
  have d31 : DefAt K mg "need_formula" s_need_formula ["thing", "left"] := ⟨⟨f31, _, (fun_mk (st := s_need_formula) l31 c31 k31), PySem.W.mg_of X G a31, (fun_mk (st := s_need_formula) l31 c31 k31).binds (ps := ["thing", "left"]) fun _ _ _ _ _ _ us hl => match us, hl with | [_, _], _ => rfl⟩⟩
  have d32 : DefAt K mg "formula_of" s_formula_of ["row"] := ⟨⟨f32, _, (fun_mk (st := s_formula_of) l32 c32 k32), PySem.W.mg_of X G a32, (fun_mk (st := s_formula_of) l32 c32 k32).binds (ps := ["row"]) fun _ _ _ _ _ _ us hl => match us, hl with | [_], _ => rfl⟩⟩
  have d33 : DefAt K mg "need_row" s_need_row ["row", "deep"] := ⟨⟨f33, _, (fun_mk (st := s_need_row) l33 c33 k33), PySem.W.mg_of X G a33, (fun_mk (st := s_need_row) l33 c33 k33).binds (ps := ["row", "deep"]) fun _ _ _ _ _ _ us hl => match us, hl with | [_, _], _ => rfl⟩⟩
  have d34 : DefAt K mg "need_block" s_need_block ["block", "deep"] := ⟨⟨f34, _, (fun_mk (st := s_need_block) l34 c34 k34), PySem.W.mg_of X G a34, (fun_mk (st := s_need_block) l34 c34 k34).binds (ps := ["block", "deep"]) fun _ _ _ _ _ _ us hl => match us, hl with | [_, _], _ => rfl⟩⟩
  have d35 : DefAt K mg "_law_has_division" s_law_has_division ["_law_formula_here"] := ⟨⟨f35, _, (fun_mk (st := s_law_has_division) l35 c35 k35), PySem.W.mg_of X G a35, (fun_mk (st := s_law_has_division) l35 c35 k35).binds (ps := ["_law_formula_here"]) fun _ _ _ _ _ _ us hl => match us, hl with | [_], _ => rfl⟩⟩
  have d36 : DefAt K mg "_law_divisors" s_law_divisors ["_law_formula_here", "_law_right_here"] := ⟨⟨f36, _, (fun_mk (st := s_law_divisors) l36 c36 k36), PySem.W.mg_of X G a36, (fun_mk (st := s_law_divisors) l36 c36 k36).binds (ps := ["_law_formula_here", "_law_right_here"]) fun _ _ _ _ _ _ us hl => match us, hl with | [_, _], _ => rfl⟩⟩
  have d37 : DefAt K mg "_law_leaks" s_law_leaks ["_law_pairs", "_law_row", "_law_around", "_law_secret_here"] := ⟨⟨f37, _, (fun_mk (st := s_law_leaks) l37 c37 k37), PySem.W.mg_of X G a37, (fun_mk (st := s_law_leaks) l37 c37 k37).binds (ps := ["_law_pairs", "_law_row", "_law_around", "_law_secret_here"]) fun _ _ _ _ _ _ us hl => match us, hl with | [_, _, _, _], _ => rfl⟩⟩
  have d38 : DefAt K mg "_law_first" s_law_first ["_law_pairs", "_law_rows", "_law_secret_here"] := ⟨⟨f38, _, (fun_mk (st := s_law_first) l38 c38 k38), PySem.W.mg_of X G a38, (fun_mk (st := s_law_first) l38 c38 k38).binds (ps := ["_law_pairs", "_law_rows", "_law_secret_here"]) fun _ _ _ _ _ _ us hl => match us, hl with | [_, _, _], _ => rfl⟩⟩
  have d39 : DefAt K mg "_law_secret" s_law_secret ["_law_pairs", "_law_rows"] := ⟨⟨f39, _, (fun_mk (st := s_law_secret) l39 c39 k39), PySem.W.mg_of X G a39, (fun_mk (st := s_law_secret) l39 c39 k39).binds (ps := ["_law_pairs", "_law_rows"]) fun _ _ _ _ _ _ us hl => match us, hl with | [_, _], _ => rfl⟩⟩
  have d40 : DefAt K mg "all_names" s_all_names ["formula"] := ⟨⟨f40, _, (fun_mk (st := s_all_names) l40 c40 k40), PySem.W.mg_of X G a40, (fun_mk (st := s_all_names) l40 c40 k40).binds (ps := ["formula"]) fun _ _ _ _ _ _ us hl => match us, hl with | [_], _ => rfl⟩⟩
  have d41 : DefAt K mg "names_in" s_names_in ["formula"] := ⟨⟨f41, _, (fun_mk (st := s_names_in) l41 c41 k41), PySem.W.mg_of X G a41, (fun_mk (st := s_names_in) l41 c41 k41).binds (ps := ["formula"]) fun _ _ _ _ _ _ us hl => match us, hl with | [_], _ => rfl⟩⟩
  have d42 : DefAt K mg "many_in" s_many_in ["block"] := ⟨⟨f42, _, (fun_mk (st := s_many_in) l42 c42 k42), PySem.W.mg_of X G a42, (fun_mk (st := s_many_in) l42 c42 k42).binds (ps := ["block"]) fun _ _ _ _ _ _ us hl => match us, hl with | [_], _ => rfl⟩⟩
  have d43 : DefAt K mg "size_of" s_size_of ["row"] := ⟨⟨f43, _, (fun_mk (st := s_size_of) l43 c43 k43), PySem.W.mg_of X G a43, (fun_mk (st := s_size_of) l43 c43 k43).binds (ps := ["row"]) fun _ _ _ _ _ _ us hl => match us, hl with | [_], _ => rfl⟩⟩
  have d44 : DefAt K mg "rows_in" s_rows_in ["block", "number", "around"] := ⟨⟨f44, _, (fun_mk (st := s_rows_in) l44 c44 k44), PySem.W.mg_of X G a44, (fun_mk (st := s_rows_in) l44 c44 k44).binds (ps := ["block", "number", "around"]) fun _ _ _ _ _ _ us hl => match us, hl with | [_, _, _], _ => rfl⟩⟩
  have d45 : DefAt K mg "sources_of" s_sources_of ["row", "around"] := ⟨⟨f45, _, (fun_mk (st := s_sources_of) l45 c45 k45), PySem.W.mg_of X G a45, (fun_mk (st := s_sources_of) l45 c45 k45).binds (ps := ["row", "around"]) fun _ _ _ _ _ _ us hl => match us, hl with | [_, _], _ => rfl⟩⟩
  have d46 : DefAt K mg "flows" s_flows ["program"] := ⟨⟨f46, _, (fun_mk (st := s_flows) l46 c46 k46), PySem.W.mg_of X G a46, (fun_mk (st := s_flows) l46 c46 k46).binds (ps := ["program"]) fun _ _ _ _ _ _ us hl => match us, hl with | [_], _ => rfl⟩⟩
  have d47 : DefAt K mg "ways_to" s_ways_to ["program"] := ⟨⟨f47, _, (fun_mk (st := s_ways_to) l47 c47 k47), PySem.W.mg_of X G a47, (fun_mk (st := s_ways_to) l47 c47 k47).binds (ps := ["program"]) fun _ _ _ _ _ _ us hl => match us, hl with | [_], _ => rfl⟩⟩
  have d48 : DefAt K mg "shortest" s_shortest ["chains", "sources"] := ⟨⟨f48, _, (fun_mk (st := s_shortest) l48 c48 k48), PySem.W.mg_of X G a48, (fun_mk (st := s_shortest) l48 c48 k48).binds (ps := ["chains", "sources"]) fun _ _ _ _ _ _ us hl => match us, hl with | [_, _], _ => rfl⟩⟩
  have d49 : DefAt K mg "divides" s_divides ["formula"] := ⟨⟨f49, _, (fun_mk (st := s_divides) l49 c49 k49), PySem.W.mg_of X G a49, (fun_mk (st := s_divides) l49 c49 k49).binds (ps := ["formula"]) fun _ _ _ _ _ _ us hl => match us, hl with | [_], _ => rfl⟩⟩
  have d50 : DefAt K mg "all_right" s_all_right ["formula"] := ⟨⟨f50, _, (fun_mk (st := s_all_right) l50 c50 k50), PySem.W.mg_of X G a50, (fun_mk (st := s_all_right) l50 c50 k50).binds (ps := ["formula"]) fun _ _ _ _ _ _ us hl => match us, hl with | [_], _ => rfl⟩⟩
  have d51 : DefAt K mg "right_names" s_right_names ["formula"] := ⟨⟨f51, _, (fun_mk (st := s_right_names) l51 c51 k51), PySem.W.mg_of X G a51, (fun_mk (st := s_right_names) l51 c51 k51).binds (ps := ["formula"]) fun _ _ _ _ _ _ us hl => match us, hl with | [_], _ => rfl⟩⟩
  have d52 : DefAt K mg "leak_of" s_leak_of ["program", "chains", "number", "row", "around"] := ⟨⟨f52, _, (fun_mk (st := s_leak_of) l52 c52 k52), PySem.W.mg_of X G a52, (fun_mk (st := s_leak_of) l52 c52 k52).binds (ps := ["program", "chains", "number", "row", "around"]) fun _ _ _ _ _ _ us hl => match us, hl with | [_, _, _, _, _], _ => rfl⟩⟩
  have d53 : DefAt K mg "looked" s_looked ["program"] := ⟨⟨f53, _, (fun_mk (st := s_looked) l53 c53 k53), PySem.W.mg_of X G a53, (fun_mk (st := s_looked) l53 c53 k53).binds (ps := ["program"]) fun _ _ _ _ _ _ us hl => match us, hl with | [_], _ => rfl⟩⟩
  have d54 : DefAt K mg "_law_whole" s_law_whole ["_law_found"] := ⟨⟨f54, _, (fun_mk (st := s_law_whole) l54 c54 k54), PySem.W.mg_of X G a54, (fun_mk (st := s_law_whole) l54 c54 k54).binds (ps := ["_law_found"]) fun _ _ _ _ _ _ us hl => match us, hl with | [_], _ => rfl⟩⟩
  have d55 : DefAt K mg "_law_step" s_law_step ["_law_pairs", "_law_rows", "_law_ahead", "_law_pair"] := ⟨⟨f55, _, (fun_mk (st := s_law_step) l55 c55 k55), PySem.W.mg_of X G a55, (fun_mk (st := s_law_step) l55 c55 k55).binds (ps := ["_law_pairs", "_law_rows", "_law_ahead", "_law_pair"]) fun _ _ _ _ _ _ us hl => match us, hl with | [_, _, _, _], _ => rfl⟩⟩
  have d56 : DefAt K mg "_law_far" s_law_far ["_law_pairs", "_law_rows"] := ⟨⟨f56, _, (fun_mk (st := s_law_far) l56 c56 k56), PySem.W.mg_of X G a56, (fun_mk (st := s_law_far) l56 c56 k56).binds (ps := ["_law_pairs", "_law_rows"]) fun _ _ _ _ _ _ us hl => match us, hl with | [_, _], _ => rfl⟩⟩
  have d57 : DefAt K mg "_law_chained" s_law_chained ["_law_pairs", "_law_rows", "_law_chain", "_law_leak"] := ⟨⟨f57, _, (fun_mk (st := s_law_chained) l57 c57 k57), PySem.W.mg_of X G a57, (fun_mk (st := s_law_chained) l57 c57 k57).binds (ps := ["_law_pairs", "_law_rows", "_law_chain", "_law_leak"]) fun _ _ _ _ _ _ us hl => match us, hl with | [_, _, _, _], _ => rfl⟩⟩
  have d58 : DefAt K mg "_law_right" s_law_right ["_law_pairs", "_law_rows", "_law_told_here", "_law_leak"] := ⟨⟨f58, _, (fun_mk (st := s_law_right) l58 c58 k58), PySem.W.mg_of X G a58, (fun_mk (st := s_law_right) l58 c58 k58).binds (ps := ["_law_pairs", "_law_rows", "_law_told_here", "_law_leak"]) fun _ _ _ _ _ _ us hl => match us, hl with | [_, _, _, _], _ => rfl⟩⟩
  have cc_Program : CC K "Program" as_Program C_Program := ⟨aC_Program, ⟨pg_Program, hd_Program, po_Program, sa_Program⟩, fun f hf => by
    simp only [as_Program, List.mem_cons, List.not_mem_nil, or_false] at hf
    rcases hf with rfl | rfl | rfl
    · exact n_Program_opened
    · exact n_Program_hidden
    · exact n_Program_inner⟩
  have T : Top K mg := ⟨d0, d1, d2, d3, d4, d5, d6, d7, d8, d9, d10, d11, d12, d13, d14, d15, d16, d17, d18, d19, d20, d21, d22, d23, d24, d25, d26, d27, d28, d29, d30, d31, d32, d33, d34, d35, d36, d37, d38, d39, d40, d41, d42, d43, d44, d45, d46, d47, d48, d49, d50, d51, d52, d53, d54, d55, d56, d57, d58, ⟨C_Program, cc_Program, PySem.W.mg_of X G aC_Program, ⟨⟨f60, _, (fun_mk (x := "__init__") (qual := "Program.__init__") (st := s_Program___init__) l60 c60 k60), ⟨mk_Program, a60, i60, kc_Program⟩, (fun_mk (x := "__init__") (qual := "Program.__init__") (st := s_Program___init__) l60 c60 k60).binds (ps := ["self", "opens", "secrets", "block"]) fun _ _ _ _ _ _ us hl => match us, hl with | [_, _, _, _], _ => rfl⟩⟩, ⟨⟨f61, _, (fun_mk (x := "told") (qual := "Program.told") (st := s_Program_told) l61 c61 k61), ⟨a61, i61, k61⟩, (fun_mk (x := "told") (qual := "Program.told") (st := s_Program_told) l61 c61 k61).binds (ps := ["self"]) fun _ _ _ _ _ _ us hl => match us, hl with | [_], _ => rfl⟩⟩, ⟨⟨f62, _, (fun_mk (x := "block") (qual := "Program.block") (st := s_Program_block) l62 c62 k62), ⟨a62, i62, k62⟩, (fun_mk (x := "block") (qual := "Program.block") (st := s_Program_block) l62 c62 k62).binds (ps := ["self"]) fun _ _ _ _ _ _ us hl => match us, hl with | [_], _ => rfl⟩⟩, ⟨⟨f63, _, (fun_mk (x := "kind") (qual := "Program.kind") (st := s_Program_kind) l63 c63 k63), ⟨a63, i63, k63⟩, (fun_mk (x := "kind") (qual := "Program.kind") (st := s_Program_kind) l63 c63 k63).binds (ps := ["self", "name"]) fun _ _ _ _ _ _ us hl => match us, hl with | [_, _], _ => rfl⟩⟩⟩, PySem.W.mg_none_of X G z_range, PySem.W.mg_none_of X G z_len, PySem.W.mg_none_of X G z_str, PySem.W.mg_none_of X G z_list, PySem.W.mg_none_of X G z_enumerate, PySem.W.mg_none_of X G z_max, PySem.W.mg_none_of X G z_int, PySem.W.mg_none_of X G z_tuple, PySem.W.mg_none_of X G z_isinstance, PySem.W.mg_none_of X G z_bool, PySem.W.mg_none_of X G z_sorted, PySem.W.mg_none_of X G z_set, PySem.W.mg_none_of X G z_sum, PySem.W.mg_none_of X G z_dict, PySem.W.mg_none_of X G z_min, ⟨_, PySem.W.mg_of X G g_WORDS, fun H => .inr ⟨_, _, _, l_WORDS, rfl, rfl, show 7 ≤ sizeLine from by decide, .cons ⟨_, rfl⟩ (.cons ⟨_, rfl⟩ (.cons ⟨_, rfl⟩ (.cons ⟨_, rfl⟩ (.cons ⟨_, rfl⟩ (.cons ⟨_, rfl⟩ (.cons ⟨_, rfl⟩ (.nil)))))))⟩⟩, ⟨_, PySem.W.mg_of X G g_LETTERS⟩, ⟨_, PySem.W.mg_of X G g_FIGURES⟩, ⟨_, PySem.W.mg_of X G g_LIMIT⟩, ⟨_, PySem.W.mg_of X G g_SIGNS, fun H => .inr ⟨_, _, _, l_SIGNS, rfl, rfl, show 6 ≤ sizeLine from by decide, .cons ⟨_, rfl⟩ (.cons ⟨_, rfl⟩ (.cons ⟨_, rfl⟩ (.cons ⟨_, rfl⟩ (.cons ⟨_, rfl⟩ (.cons ⟨_, rfl⟩ (.nil))))))⟩⟩, ⟨_, PySem.W.mg_of X G g_DEEPEST_ROW⟩, ⟨_, PySem.W.mg_of X G g_MOST_DEEP⟩⟩
  exact ⟨PySem.W.fnOf "law" "law" (defArgs s_k10) (defBody s_k10) (defScope s_k10) .none kV59 dc59 pm59 an59 cd59 ct59, fun s v => .of_eq rfl, fun base _ _ => ok_law T (fun_mk (st := s_k10) l59 c59 k59)⟩
theorem walk {l : PySem.W.OpenLaw} {q : Program} {loose : List Str} {XP : (Str → Option Value) → Heap → Prop} {YP : World → Heap → Prop} {d : DefRec} {K : Params → PySem.W.Frag} (hn : l.most = some 63) (hdf : d.params.defaults = [])
    (hY : ∀ (w : World) (h : Heap), YP w h → (K w.params).In h)
    (F : ∀ (w : World) (mg : Str → Option Value) (fa : Addr) (h : Heap), (K w.params).In h → h.Ns mainGlobals mg → mg d.name = some (.ref fa) →
      ∃ fd : FuncData, (∀ (s : Shared) (u : Value), BindsTo s fd ⟨[u], []⟩ [("_law_script", u)]) ∧ ∀ base : Heap, (K w.params).In base → base.Ns mainGlobals mg → FnOk l.prog w (K w.params) mg base CX0 41 fa fd ["_law_script"] (sp_k10 (K w.params))) :
    PySem.W.WalkO q loose XP YP l.row.toRowW d [] (fun f vs => PySem.call f vs) :=
  L2.walk_of (n := 63) (k := 41) (x := "_law_script") (CX := fun _ => CX0) (sp := fun w => sp_k10 (K w.params)) hn (by decide) hdf ⟨rfl, by decide, by decide⟩ hY F (fun w H a ns hl ho hS => law_in_k10 (K w.params) H a ns hl hS) fun _ _ _ _ _ z => z
end Hu
open PySem PySem.W PyProof.Rows
set_option maxRecDepth 100000 in
set_option maxHeartbeats 0 in
theorem PySem.Challenge.cw_hushkind_k10_looked_holds : PySem.Challenge.rw_hushkind_k10_looked.Holds := by
  w_on; o_law; k_head; (case hw => w_witness2)
  k_fill
  refine Hu.walk (l := PySem.Challenge.rw_hushkind_k10_looked) rfl rfl (fun w h Y => PySem.W.kIn_of Y) ?F
  case F =>
    intro w mg fa h KX G hmg
    refine' Hu.all_mk KX G hmg ?aC_Program ?pg_Program ?hd_Program ?po_Program ?sa_Program ?mk_Program ?kc_Program ?n_Program_opened ?n_Program_hidden ?n_Program_inner ?a0 ?l0 ?c0 ?k0 ?a1 ?l1 ?c1 ?k1 ?a2 ?l2 ?c2 ?k2 ?a3 ?l3 ?c3 ?k3 ?a4 ?l4 ?c4 ?k4 ?a5 ?l5 ?c5 ?k5 ?a6 ?l6 ?c6 ?k6 ?a7 ?l7 ?c7 ?k7 ?a8 ?l8 ?c8 ?k8 ?a9 ?l9 ?c9 ?k9 ?a10 ?l10 ?c10 ?k10 ?a11 ?l11 ?c11 ?k11 ?a12 ?l12 ?c12 ?k12 ?a13 ?l13 ?c13 ?k13 ?a14 ?l14 ?c14 ?k14 ?a15 ?l15 ?c15 ?k15 ?a16 ?l16 ?c16 ?k16 ?a17 ?l17 ?c17 ?k17 ?a18 ?l18 ?c18 ?k18 ?a19 ?l19 ?c19 ?k19 ?a20 ?l20 ?c20 ?k20 ?a21 ?l21 ?c21 ?k21 ?a22 ?l22 ?c22 ?k22 ?a23 ?l23 ?c23 ?k23 ?a24 ?l24 ?c24 ?k24 ?a25 ?l25 ?c25 ?k25 ?a26 ?l26 ?c26 ?k26 ?a27 ?l27 ?c27 ?k27 ?a28 ?l28 ?c28 ?k28 ?a29 ?l29 ?c29 ?k29 ?a30 ?l30 ?c30 ?k30 ?a31 ?l31 ?c31 ?k31 ?a32 ?l32 ?c32 ?k32 ?a33 ?l33 ?c33 ?k33 ?a34 ?l34 ?c34 ?k34 ?a35 ?l35 ?c35 ?k35 ?a36 ?l36 ?c36 ?k36 ?a37 ?l37 ?c37 ?k37 ?a38 ?l38 ?c38 ?k38 ?a39 ?l39 ?c39 ?k39 ?a40 ?l40 ?c40 ?k40 ?a41 ?l41 ?c41 ?k41 ?a42 ?l42 ?c42 ?k42 ?a43 ?l43 ?c43 ?k43 ?a44 ?l44 ?c44 ?k44 ?a45 ?l45 ?c45 ?k45 ?a46 ?l46 ?c46 ?k46 ?a47 ?l47 ?c47 ?k47 ?a48 ?l48 ?c48 ?k48 ?a49 ?l49 ?c49 ?k49 ?a50 ?l50 ?c50 ?k50 ?a51 ?l51 ?c51 ?k51 ?a52 ?l52 ?c52 ?k52 ?a53 ?l53 ?c53 ?k53 ?a54 ?l54 ?c54 ?k54 ?a55 ?l55 ?c55 ?k55 ?a56 ?l56 ?c56 ?k56 ?a57 ?l57 ?c57 ?k57 ?a58 ?l58 ?c58 ?k58 ?a59 ?l59 ?c59 ?k59 ?a60 ?i60 ?l60 ?c60 ?k60 ?a61 ?i61 ?l61 ?c61 ?k61 ?a62 ?i62 ?l62 ?c62 ?k62 ?a63 ?i63 ?l63 ?c63 ?k63 ?z_range ?z_len ?z_str ?z_list ?z_enumerate ?z_max ?z_int ?z_tuple ?z_isinstance ?z_bool ?z_sorted ?z_set ?z_sum ?z_dict ?z_min ?g_WORDS ?l_WORDS ?g_LETTERS ?g_FIGURES ?g_LIMIT ?g_SIGNS ?l_SIGNS ?g_DEEPEST_ROW ?g_MOST_DEEP
    (case aC_Program => k_is)
    (case pg_Program => k_is)
    (case hd_Program => k_is)
    (case po_Program => k_is)
    (case sa_Program => k_is)
    (case mk_Program => k_is)
    (case kc_Program => k_is)
    (case n_Program_opened => k_is)
    (case n_Program_hidden => k_is)
    (case n_Program_inner => k_is)
    (case a0 => k_is)
    (case l0 => k_is)
    (case c0 => k_is)
    (case k0 => k_is)
    (case a1 => k_is)
    (case l1 => k_is)
    (case c1 => k_is)
    (case k1 => k_is)
    (case a2 => k_is)
    (case l2 => k_is)
    (case c2 => k_is)
    (case k2 => k_is)
    (case a3 => k_is)
    (case l3 => k_is)
    (case c3 => k_is)
    (case k3 => k_is)
    (case a4 => k_is)
    (case l4 => k_is)
    (case c4 => k_is)
    (case k4 => k_is)
    (case a5 => k_is)
    (case l5 => k_is)
    (case c5 => k_is)
    (case k5 => k_is)
    (case a6 => k_is)
    (case l6 => k_is)
    (case c6 => k_is)
    (case k6 => k_is)
    (case a7 => k_is)
    (case l7 => k_is)
    (case c7 => k_is)
    (case k7 => k_is)
    (case a8 => k_is)
    (case l8 => k_is)
    (case c8 => k_is)
    (case k8 => k_is)
    (case a9 => k_is)
    (case l9 => k_is)
    (case c9 => k_is)
    (case k9 => k_is)
    (case a10 => k_is)
    (case l10 => k_is)
    (case c10 => k_is)
    (case k10 => k_is)
    (case a11 => k_is)
    (case l11 => k_is)
    (case c11 => k_is)
    (case k11 => k_is)
    (case a12 => k_is)
    (case l12 => k_is)
    (case c12 => k_is)
    (case k12 => k_is)
    (case a13 => k_is)
    (case l13 => k_is)
    (case c13 => k_is)
    (case k13 => k_is)
    (case a14 => k_is)
    (case l14 => k_is)
    (case c14 => k_is)
    (case k14 => k_is)
    (case a15 => k_is)
    (case l15 => k_is)
    (case c15 => k_is)
    (case k15 => k_is)
    (case a16 => k_is)
    (case l16 => k_is)
    (case c16 => k_is)
    (case k16 => k_is)
    (case a17 => k_is)
    (case l17 => k_is)
    (case c17 => k_is)
    (case k17 => k_is)
    (case a18 => k_is)
    (case l18 => k_is)
    (case c18 => k_is)
    (case k18 => k_is)
    (case a19 => k_is)
    (case l19 => k_is)
    (case c19 => k_is)
    (case k19 => k_is)
    (case a20 => k_is)
    (case l20 => k_is)
    (case c20 => k_is)
    (case k20 => k_is)
    (case a21 => k_is)
    (case l21 => k_is)
    (case c21 => k_is)
    (case k21 => k_is)
    (case a22 => k_is)
    (case l22 => k_is)
    (case c22 => k_is)
    (case k22 => k_is)
    (case a23 => k_is)
    (case l23 => k_is)
    (case c23 => k_is)
    (case k23 => k_is)
    (case a24 => k_is)
    (case l24 => k_is)
    (case c24 => k_is)
    (case k24 => k_is)
    (case a25 => k_is)
    (case l25 => k_is)
    (case c25 => k_is)
    (case k25 => k_is)
    (case a26 => k_is)
    (case l26 => k_is)
    (case c26 => k_is)
    (case k26 => k_is)
    (case a27 => k_is)
    (case l27 => k_is)
    (case c27 => k_is)
    (case k27 => k_is)
    (case a28 => k_is)
    (case l28 => k_is)
    (case c28 => k_is)
    (case k28 => k_is)
    (case a29 => k_is)
    (case l29 => k_is)
    (case c29 => k_is)
    (case k29 => k_is)
    (case a30 => k_is)
    (case l30 => k_is)
    (case c30 => k_is)
    (case k30 => k_is)
    (case a31 => k_is)
    (case l31 => k_is)
    (case c31 => k_is)
    (case k31 => k_is)
    (case a32 => k_is)
    (case l32 => k_is)
    (case c32 => k_is)
    (case k32 => k_is)
    (case a33 => k_is)
    (case l33 => k_is)
    (case c33 => k_is)
    (case k33 => k_is)
    (case a34 => k_is)
    (case l34 => k_is)
    (case c34 => k_is)
    (case k34 => k_is)
    (case a35 => k_is)
    (case l35 => k_is)
    (case c35 => k_is)
    (case k35 => k_is)
    (case a36 => k_is)
    (case l36 => k_is)
    (case c36 => k_is)
    (case k36 => k_is)
    (case a37 => k_is)
    (case l37 => k_is)
    (case c37 => k_is)
    (case k37 => k_is)
    (case a38 => k_is)
    (case l38 => k_is)
    (case c38 => k_is)
    (case k38 => k_is)
    (case a39 => k_is)
    (case l39 => k_is)
    (case c39 => k_is)
    (case k39 => k_is)
    (case a40 => k_is)
    (case l40 => k_is)
    (case c40 => k_is)
    (case k40 => k_is)
    (case a41 => k_is)
    (case l41 => k_is)
    (case c41 => k_is)
    (case k41 => k_is)
    (case a42 => k_is)
    (case l42 => k_is)
    (case c42 => k_is)
    (case k42 => k_is)
    (case a43 => k_is)
    (case l43 => k_is)
    (case c43 => k_is)
    (case k43 => k_is)
    (case a44 => k_is)
    (case l44 => k_is)
    (case c44 => k_is)
    (case k44 => k_is)
    (case a45 => k_is)
    (case l45 => k_is)
    (case c45 => k_is)
    (case k45 => k_is)
    (case a46 => k_is)
    (case l46 => k_is)
    (case c46 => k_is)
    (case k46 => k_is)
    (case a47 => k_is)
    (case l47 => k_is)
    (case c47 => k_is)
    (case k47 => k_is)
    (case a48 => k_is)
    (case l48 => k_is)
    (case c48 => k_is)
    (case k48 => k_is)
    (case a49 => k_is)
    (case l49 => k_is)
    (case c49 => k_is)
    (case k49 => k_is)
    (case a50 => k_is)
    (case l50 => k_is)
    (case c50 => k_is)
    (case k50 => k_is)
    (case a51 => k_is)
    (case l51 => k_is)
    (case c51 => k_is)
    (case k51 => k_is)
    (case a52 => k_is)
    (case l52 => k_is)
    (case c52 => k_is)
    (case k52 => k_is)
    (case a53 => k_is)
    (case l53 => k_is)
    (case c53 => k_is)
    (case k53 => k_is)
    (case a54 => k_is)
    (case l54 => k_is)
    (case c54 => k_is)
    (case k54 => k_is)
    (case a55 => k_is)
    (case l55 => k_is)
    (case c55 => k_is)
    (case k55 => k_is)
    (case a56 => k_is)
    (case l56 => k_is)
    (case c56 => k_is)
    (case k56 => k_is)
    (case a57 => k_is)
    (case l57 => k_is)
    (case c57 => k_is)
    (case k57 => k_is)
    (case a58 => k_is)
    (case l58 => k_is)
    (case c58 => k_is)
    (case k58 => k_is)
    (case a59 => k_is)
    (case l59 => k_is)
    (case c59 => k_is)
    (case k59 => k_is)
    (case a60 => k_is)
    (case i60 => k_is)
    (case l60 => k_is)
    (case c60 => k_is)
    (case k60 => k_is)
    (case a61 => k_is)
    (case i61 => k_is)
    (case l61 => k_is)
    (case c61 => k_is)
    (case k61 => k_is)
    (case a62 => k_is)
    (case i62 => k_is)
    (case l62 => k_is)
    (case c62 => k_is)
    (case k62 => k_is)
    (case a63 => k_is)
    (case i63 => k_is)
    (case l63 => k_is)
    (case c63 => k_is)
    (case k63 => k_is)
    (case z_range => k_is)
    (case z_len => k_is)
    (case z_str => k_is)
    (case z_list => k_is)
    (case z_enumerate => k_is)
    (case z_max => k_is)
    (case z_int => k_is)
    (case z_tuple => k_is)
    (case z_isinstance => k_is)
    (case z_bool => k_is)
    (case z_sorted => k_is)
    (case z_set => k_is)
    (case z_sum => k_is)
    (case z_dict => k_is)
    (case z_min => k_is)
    (case g_WORDS => k_is)
    (case l_WORDS => k_is)
    (case g_LETTERS => k_is)
    (case g_FIGURES => k_is)
    (case g_LIMIT => k_is)
    (case g_SIGNS => k_is)
    (case l_SIGNS => k_is)
    (case g_DEEPEST_ROW => k_is)
    (case g_MOST_DEEP => k_is)
#print axioms PySem.Challenge.cw_hushkind_k10_looked_holds
