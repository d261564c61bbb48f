import PyProof.Rows.All
import Wide.All
import OpenK.AllK
import Wide.FinOn
import HandS.ForMost
import HandS.TupAny
import HandS.IsInst
import HandS.Codes
import HandS.More
import HandS.Small
import HandS.DictComp
import HandS.DeepEq
import HandS.SetFor
import HandS.Strs
import HandS.Walk
import HandS.Rev
import HandS.Codes
import HandS.Finally
import PyProof.ListRange
import PyProof.Rows.SortShellAny
import PySem.Challenge.RW_hushkind_k06_runs
set_option Elab.async false
set_option linter.all false
set_option maxRecDepth 100000
set_option maxHeartbeats 4000000
namespace Hu
open PySem PySem.Spec PyProof.Rows L2
def rAddI : R2 := rI0 fun i j => .int (i + j)
def rAddT : R2 := fun x y H Q => ∃ i j, x = .str i ∧ y = .str j ∧ i.length + j.length ≤ sizeLine ∧ Q (.str (i ++ j)) H
def rAdd (K : PySem.W.Frag) : R2 := fun x y H Q => rAddI x y H Q ∨ rAddT x y H Q ∨ rCat x y H Q ∨ rCatA K x y H Q
def rSub : R2 := rI0 fun i j => .int (i - j)
def rMulI : R2 := rI CMul fun i j => .int (i * j)
def rMul : R2 := fun x y H Q => rMulI x y H Q ∨ rRep x y H Q
def rMod : R2 := rI (fun _ j => 0 < j) fun i j => .int (i % j)
def rDiv : R2 := rI CDiv fun i j => .int (i / j)
def rPow : R2 := rI CPow fun i j => .int (i ^ j.toNat)
def rLt : R2 := rI0 fun i j => .bl (decide (i < j))
def rLe : R2 := rI0 fun i j => .bl (decide (i ≤ j))
def rGt : R2 := rI0 fun i j => .bl (decide (j < i))
def rGe : R2 := rI0 fun i j => .bl (decide (j ≤ i))
def rEq2 (K : PySem.W.Frag) : R2 := fun x y H Q => rEq x y H Q ∨ rEqD K x y H Q ∨ rEqDA x y H Q ∨ rEqV K x y H Q
def rNe2 (K : PySem.W.Frag) : R2 := fun x y H Q => rNe x y H Q ∨ rNeD K x y H Q ∨ rNeDA x y H Q
def rInSg (neg : Bool) : R2 := fun x y H Q => ∃ (c : Nat) (z : Str), x = .str ⟨#[c]⟩ ∧ y = .str z ∧ Q (.bl (if neg then !decide (c ∈ z.cps.toList) else decide (c ∈ z.cps.toList))) H
def rIn2 (K : PySem.W.Frag) (neg : Bool) : R2 := fun x y H Q => rIn K neg x y H Q ∨ rInSg neg x y H Q
def rDIn (neg : Bool) : R2 := fun y x H Q => ∃ a o, x = .ref a ∧ DGet H a y o ∧ Q (.bl (if neg then !o.isSome else o.isSome)) H
def rIsN2 (neg : Bool) : R2 := fun x y H Q => y = .non ∧ Q (.bl (if neg then !decide (x = .non) else decide (x = .non))) H
def rNeg : V → Hp → VK → Prop := rU fun i => .int (-i)
def rSl (K : PySem.W.Frag) : V → Option Int → Option Int → Hp → VK → Prop := fun x lo hi H Q => rSlL K x lo hi H Q ∨ rSlA K x lo hi H Q ∨ C8.rSlX x lo hi H Q
def rLenA (K : PySem.W.Frag) : List V → Hp → VK → Prop := fun xs H Q => ∃ x n, xs = [x] ∧ LenV K x H n ∧ Q (.int (n : Nat)) H
def rIntB : List V → Hp → VK → Prop := fun xs H Q => (∃ i, xs = [.int i] ∧ Q (.int i) H) ∨ ∃ k, xs = [.bl k] ∧ Q (.int (if k then 1 else 0)) H
def rIntS : List V → Hp → VK → Prop := fun xs H Q => ∃ a n, xs = [.str a] ∧ PySem.intText? a = some n ∧ a.length ≤ 640 ∧ Q (.int n) H
def rInt : List V → Hp → VK → Prop := fun xs H Q => rIntB xs H Q ∨ rIntS xs H Q
def rStr : List V → Hp → VK → Prop := fun xs H Q => ∃ i, xs = [.int i] ∧ i.natAbs.log2 < 1920 ∧ Q (.str (toString i)) H
def rListS (K : PySem.W.Frag) : List V → Hp → VK → Prop := fun xs H Q => ∃ p ys, xs = [.ref p] ∧ (SqL K H p ys ∨ SqT K H p ys) ∧ ∀ l, H l = none → Q (.ref l) (upd H l (.lst ys))
def rListD : List V → Hp → VK → Prop := fun xs H Q => ∃ (a : Addr) (kvs : List (Key × V)), xs = [.ref a] ∧ Rd H a (.dK kvs) ∧ ∀ p, H p = none → Q (.ref p) (upd H p (.lst (kvs.map fun kv => kV kv.1)))
def rList (K : PySem.W.Frag) : List V → Hp → VK → Prop := fun xs H Q => rListS K xs H Q ∨ rListD xs H Q
def rTupO (K : PySem.W.Frag) : List V → Hp → VK → Prop := fun xs H Q => ∃ p ys, xs = [.ref p] ∧ ((SqL K H p ys ∧ ∀ l, H l = none → Q (.ref l) (upd H l (.tup ys))) ∨ (SqT K H p ys ∧ Q (.ref p) H))
def rIsi2 (K : PySem.W.Frag) : List V → Hp → VK → Prop := fun xs H Q => rIsi K xs H Q ∨ rIsiT K xs H Q
section
variable {X : Cx}
theorem o_add : OpR X (binaryOp .Add) (rAdd X.K) := OpR.or op_add (OpR.or op_add_str (OpR.or op_cat op_catA))
theorem o_sub : OpR X (binaryOp .Sub) rSub := op_sub
theorem o_mul : OpR X (binaryOp .Mult) rMul := OpR.or op_mul op_rep
theorem o_mod : OpR X (binaryOp .Mod) rMod := op_mod
theorem o_div : OpR X (binaryOp .FloorDiv) rDiv := op_fdiv
theorem o_pow : OpR X (binaryOp .Pow) rPow := op_pow
theorem o_lt : OpR X (compareOp .Lt) rLt := op_lt
theorem o_le : OpR X (compareOp .LtE) rLe := op_le
theorem o_gt : OpR X (compareOp .Gt) rGt := op_gt
theorem o_eq (hu : X.A.units + 64 < cLine) : OpR X (compareOp .Eq) (rEq2 X.K) := OpR.or op_eq (OpR.or (op_eqD hu) (OpR.or (op_eq_dictA (Nat.lt_of_le_of_lt (Nat.le_add_right _ _) hu)) (op_eqV hu)))
theorem o_ne (hu : X.A.units + 64 < cLine) : OpR X (compareOp .NotEq) (rNe2 X.K) := OpR.or op_ne (OpR.or (op_neD hu) (op_ne_dictA (Nat.lt_of_le_of_lt (Nat.le_add_right _ _) hu)))
theorem o_in : OpR X (compareOp .In) (rIn2 X.K false) := OpR.or op_in_seq op_in_sign
theorem o_nin : OpR X (compareOp .NotIn) (rIn2 X.K true) := OpR.or op_notIn_seq op_notIn_sign
theorem o_ndin (hu : X.A.units + 64 < cLine) : OpR X (compareOp .NotIn) (rDIn true) := by
  intro pins s σ H y x v u Q I ry rx h
  obtain ⟨a, o, hx, g, q⟩ := h
  subst hx
  cases rx
  exact d_notIn (Nat.lt_of_le_of_lt (Nat.add_le_add_left (by decide) _) hu) I g ry fun s3 I3 => ⟨.bl (!o.isSome), H, I3, rfl, q⟩
theorem o_isN : OpR X (compareOp .Is) (rIsN2 false) := op_isN
theorem o_neg : UnR X (unaryOp .USub) rNeg := un_neg
theorem o_sl : SlR X (rSl X.K) := SlR.or sl_list (SlR.or sl_tupA C8.sl_txt)
theorem o_len : CallR X (.builtin "len") (rLenA X.K) := call_len
theorem o_int : CallR X (.type "int") rInt := CallR.or call_int1 call_int_str
theorem o_str : CallR X (.type "str") rStr := call_str_int
theorem o_list (hc : X.calm = true) : CallR X (.type "list") (rList X.K) := CallR.or call_list_of (call_listD hc)
theorem o_tuple : CallR X (.type "tuple") (rTupO X.K) := call_tuple_of
theorem o_isi : CallR X (.builtin "isinstance") (rIsi2 X.K) := CallR.or call_isi call_isiT
end
def rDictC : List V → Hp → VK → Prop := fun xs H Q => ∃ (a : Addr) (kvs : List (Key × V)), xs = [.ref a] ∧ Rd H a (.dK kvs) ∧ ∀ p, H p = none → Q (.ref p) (upd H p (.dK kvs))
theorem o_dict {X : Cx} : CallR X (.type "dict") rDictC := call_dictD
theorem pe_globI {X : Cx} {x : Str} {i : Int} {pos : Pos} (hg : Gl X x) (hm : ∃ t, X.mg x = some (.int i t)) (hd : (x == ("__debug__" : Str)) = false := by decide) : PE X (.Name x pos) (tC (.int i)) := by
  obtain ⟨t, hm⟩ := hm
  exact pe_glob hg hm ⟨t, rfl⟩ hd
theorem pe_globS {X : Cx} {x z : Str} {pos : Pos} (hg : Gl X x) (hm : ∃ t, X.mg x = some (.str z t)) (hd : (x == ("__debug__" : Str)) = false := by decide) : PE X (.Name x pos) (tC (.str z)) := by
  obtain ⟨t, hm⟩ := hm
  exact pe_glob hg hm ⟨t, rfl⟩ hd
def iSeq (K : PySem.W.Frag) (tl : TE) : TI := fun σ H R => tl σ H fun x H1 => ∃ a, x = .ref a ∧ (((∃ xs, SqL K H1 a xs) ∧ R (Itl K a) H1) ∨ ((∃ xs, SqT K H1 a xs) ∧ R (Itt K a) H1))
section
variable {X : Cx} {tg : Expr}
theorem pi_seq {l : Expr} {tl : TE} (hl : PE X l tl) : PI X tg l (iSeq X.K tl) := by
  refine ⟨fun pins s σ H R I h => ?_⟩
  refine thn (hl.run pins s σ H _ I h) fun v s1 ⟨x, H1, I1, r1, q1⟩ => ?_
  obtain ⟨a, e, q⟩ := q1
  subst e
  cases r1
  rcases q with ⟨⟨xs, hq⟩, q⟩ | ⟨⟨xs, hq⟩, q⟩
  · obtain ⟨its, rv, pl, _⟩ := I1.list hq
    refine wpAny_pyIter_list pl.isList ?_
    refine ⟨s1.heap.objs.size, [s1.heap.objs.size], _, _, H1, rfl, I1.kept (t' := s1.toks) fun b o e => Heap.get?_push_of_some _ e, turn_list a _, ⟨_, Heap.get?_push_size _ rfl, rfl, rfl⟩, fun b hb => ?_, q⟩
    obtain rfl : b = s1.heap.objs.size := by simpa using hb
    exact I1.fpOk (Nat.le_refl _) (I1.hok.fresh (Nat.le_refl _))
  · obtain ⟨its, rv, pt, _⟩ := I1.tuple hq
    refine wpAny_pyIter_tuple (show s1.heap.IsTuple a its.toArray from pt) ?_
    refine ⟨s1.heap.objs.size, [s1.heap.objs.size], _, _, H1, rfl, I1.kept (t' := s1.toks) fun b o e => Heap.get?_push_of_some _ e, turn_tuple a _, ⟨_, Heap.get?_push_size _ rfl, rfl, rfl⟩, fun b hb => ?_, q⟩
    obtain rfl : b = s1.heap.objs.size := by simpa using hb
    exact I1.fpOk (Nat.le_refl _) (I1.hok.fresh (Nat.le_refl _))
end
structure Cal (P : Program) (w : World) (K : PySem.W.Frag) (mg : Str → Option Value) (base : Heap) (k : Nat) (x : Str) (sp : Sp) : Prop where
  ex : ∃ (f : Addr) (fd : FuncData) (ps : List Str), FnOk P w K mg base CX0 k f fd ps sp ∧ mg x = some (.ref f) ∧ PySem.W.keepIn K (.ref f) = true ∧ Binds K fd ps []
theorem Cal.mono {P : Program} {w : World} {K : PySem.W.Frag} {mg : Str → Option Value} {base : Heap} {j k : Nat} {x : Str} {sp : Sp} (c : Cal P w K mg base j x sp) (h : j ≤ k) : Cal P w K mg base k x sp := by
  obtain ⟨f, fd, ps, F, r⟩ := c.ex
  exact ⟨f, fd, ps, F.mono h, r⟩
theorem Cal.imp {P : Program} {w : World} {K : PySem.W.Frag} {mg : Str → Option Value} {base : Heap} {k : Nat} {x : Str} {sp sp' : Sp} (c : Cal P w K mg base k x sp) (h : ∀ vs H Q E, sp' vs H Q E → sp vs H Q E) : Cal P w K mg base k x sp' := by
  obtain ⟨f, fd, ps, F, r⟩ := c.ex
  exact ⟨f, fd, ps, F.imp h, r⟩
/-- a def of the top -/
structure DefAt (K : PySem.W.Frag) (mg : Str → Option Value) (x : Str) (st : Stmt) (ps : List Str) : Prop where
  ex : ∃ (f : Addr) (fd : FuncData), Fun K x x st f fd ∧ mg x = some (.ref f) ∧ Binds K fd ps []
section
variable {P : Program} {w : World} {K : PySem.W.Frag} {mg : Str → Option Value} {base : Heap}
theorem cal_of {x : Str} {st : Stmt} {N ps : List Str} {k : Nat} {sp : Sp} (D : DefAt K mg x st ps) (S : FnScope N ps (defScope st)) (len : ∀ vs H Q E, sp vs H Q E → vs.length = ps.length)
    (hbody : ∀ (f : Addr) (cdv : Value) (A : Around) (outer : List Env) (s : Shared) (H : Hp) (vs : List V) (Q : VK) (E : XK), Room k (A.deeper (envOfC x (defScope st) s.heap.objs.size f cdv)) → sp vs H Q E →
      ∃ t, PSs (cxOf CX0 P w K mg base N x (defScope st) f cdv A outer s H E).nox (defBody st) t ∧ t { nx := fun _ H' => Q .non H', rt := Q } (start N vs) H) : Cal P w K mg base (k + 1) x sp := by
  obtain ⟨f, fd, F, m, b⟩ := D.ex
  exact ⟨f, fd, ps, F.ok S len fun cdv A outer s H vs Q E => hbody f cdv A outer s H vs Q E, m, F.kp, b⟩
/-- nothing is promised: a def at no depth -/
theorem cal_none {x : Str} {st : Stmt} {ps : List Str} {k : Nat} {sp : Sp} (D : DefAt K mg x st ps) (no : ∀ vs H Q E, ¬ sp vs H Q E) : Cal P w K mg base k x sp := by
  obtain ⟨f, fd, F, m, b⟩ := D.ex
  exact ⟨f, fd, ps, ⟨fun vs H Q E h => absurd h (no vs H Q E), fun A outer s H args us vs Q E _ _ _ _ h => absurd h (no vs H Q E)⟩, m, F.kp, b⟩
end
section
variable {X : Cx} {k j : Nat} {x : Str} {sp : Sp} {p pos : Pos} {e : Expr} {es : List Expr} {t : TA}
def tF (sp : Sp) (t : TA) : TE := fun σ H Q => t σ H fun vs H1 => sp vs H1 Q E0
theorem pe_f (c : Cal X.prog X.w X.K X.mg X.base k x sp) (hr : Room j X.A) (hk : k ≤ j) (ha : PA X (e :: es) t) (hg : Gl X x := by rfl)
    (hdb : (x == ("__debug__" : Str)) = false := by decide) (he : starEach (e :: es) X.env = (false, eval e X.env) :: starEach es X.env := by rfl) (hpl : (backTo pos (starEach es X.env)).any (·.1) = false := by rfl) :
    PE X (.Call (.Name x p) (e :: es) [] pos) (tF sp t) := by
  obtain ⟨f, fd, ps, F, hm, kp, b⟩ := c.ex
  have h := pe_call (p := p) F (hr.mono hk) hg hm kp b .nil (pass0 (X := X)) ha hdb he hpl
  refine ⟨fun pins s σ H Q I q => h.run pins s σ H Q I ?_⟩
  show t σ H fun vs H1 => sp (vs ++ []) H1 Q E0
  have e : (fun (vs : List V) (H1 : Hp) => sp (vs ++ []) H1 Q E0) = fun vs H1 => sp vs H1 Q E0 := by
    funext vs H1
    rw [List.append_nil]
  rw [e]
  exact q
end
theorem same_new {H : Hp} {p : Addr} {o : HO} (h : H p = none) : Same H (upd H p o) := fun b u q => by rw [upd_ne (ne_of_none q h)]; exact q
theorem same_mut {H H' : Hp} {p : Addr} {o : HO} (e : Same H H') (h : H p = none) : Same H (upd H' p o) := fun a u ha => by
  rw [upd_ne (ne_of_none ha h)]
  exact e a u ha
theorem same_rd {H H' : Hp} {a : Addr} {u : HO} (e : Same H H') (h : Rd H a u) : Rd H' a u := by
  rcases h with h | ⟨o, h⟩
  · exact .inl (e a _ h)
  · exact .inr ⟨o, e a _ h⟩
theorem same_l {K : PySem.W.Frag} {H H' : Hp} {a : Addr} {xs : List V} (e : Same H H') (h : SqL K H a xs) : SqL K H' a xs := h.elim (fun h => .inl (same_rd e h)) .inr
theorem same_t {K : PySem.W.Frag} {H H' : Hp} {a : Addr} {xs : List V} (e : Same H H') (h : SqT K H a xs) : SqT K H' a xs := h.elim (fun h => .inl (same_rd e h)) .inr
theorem sz {n : Nat} (h : n ≤ 16000000) : n ≤ sizeLine := Nat.le_trans h (by decide)
section
variable {K : PySem.W.Frag} {σ : L2.St} {H : Hp} {Q : VK} {x y v : V} {ta tb tc te : TE} {t u : TT} {D : Ends} {ts tu tw : TS}
theorem w_neDict {a b : Addr} {ks ls : List (Key × V)} (ha : H a = some (.dK ks)) (hb : H b = some (.dK ls)) (hl : ks.length = ls.length) (h : ∀ p ∈ ks, valV ls p.1 = some p.2 ∧ flatB p.2 = true) (q : Q (.bl false) H) : rNe2 K (.ref a) (.ref b) H Q := .inr (.inr ⟨a, b, ks, ls, rfl, rfl, ha, hb, hl, h, q⟩)
theorem w_dictC {a : Addr} {kvs : List (Key × V)} (h : H a = some (.dK kvs)) (q : ∀ p, H p = none → Q (.ref p) (upd H p (.dK kvs))) : rDictC [.ref a] H Q := ⟨a, kvs, rfl, .inl h, q⟩
theorem dec_int {i j : Int} : decide (V.int i = V.int j) = decide (i = j) := by simp
theorem dec_str {i j : Str} : decide (V.str i = V.str j) = decide (i = j) := by simp
theorem w_var {i : Nat} (h : σ[i]? = some (some v)) (q : Q v H) : tVar i σ H Q := ⟨v, h, q⟩
theorem w_c (q : Q v H) : tC v σ H Q := q
theorem w_op {r : R2} (q : ta σ H fun x H1 => tb σ H1 fun y H2 => r x y H2 Q) : tOp r ta tb σ H Q := q
theorem w_un {r : V → Hp → VK → Prop} (q : ta σ H fun x H1 => r x H1 Q) : tUn r ta σ H Q := q
theorem w_neg {i : Int} (q : Q (.int (-i)) H) : rNeg (.int i) H Q := ⟨i, rfl, q⟩
theorem w_addI {i j : Int} (q : Q (.int (i + j)) H) : rAdd K (.int i) (.int j) H Q := .inl ⟨i, j, rfl, rfl, q⟩
theorem w_addT {i j : Str} (h : i.length + j.length ≤ sizeLine) (q : Q (.str (i ++ j)) H) : rAdd K (.str i) (.str j) H Q := .inr (.inl ⟨i, j, rfl, rfl, h, q⟩)
theorem w_addL {a b : Addr} {xs ys : List V} (ha : H a = some (.lst xs)) (hb : H b = some (.lst ys)) (h : xs.length + ys.length ≤ sizeLine) (q : ∀ p, H p = none → Q (.ref p) (upd H p (.lst (xs ++ ys)))) : rAdd K (.ref a) (.ref b) H Q :=
  .inr (.inr (.inl ⟨a, b, xs, ys, rfl, rfl, ha, hb, h, q⟩))
theorem w_sub {i j : Int} (q : Q (.int (i - j)) H) : rSub (.int i) (.int j) H Q := ⟨i, j, rfl, rfl, q⟩
theorem w_mulI {i j : Int} (h : CMul i j) (q : Q (.int (i * j)) H) : rMul (.int i) (.int j) H Q := .inl ⟨i, j, rfl, rfl, h, q⟩
theorem w_mod {i j : Int} (h : 0 < j) (q : Q (.int (i % j)) H) : rMod (.int i) (.int j) H Q := ⟨i, j, rfl, rfl, h, q⟩
theorem w_div {i j : Int} (h : CDiv i j) (q : Q (.int (i / j)) H) : rDiv (.int i) (.int j) H Q := ⟨i, j, rfl, rfl, h, q⟩
theorem w_pow {i j : Int} (h : CPow i j) (q : Q (.int (i ^ j.toNat)) H) : rPow (.int i) (.int j) H Q := ⟨i, j, rfl, rfl, h, q⟩
theorem w_lt {i j : Int} (q : Q (.bl (decide (i < j))) H) : rLt (.int i) (.int j) H Q := ⟨i, j, rfl, rfl, q⟩
theorem w_le {i j : Int} (q : Q (.bl (decide (i ≤ j))) H) : rLe (.int i) (.int j) H Q := ⟨i, j, rfl, rfl, q⟩
theorem w_gt {i j : Int} (q : Q (.bl (decide (j < i))) H) : rGt (.int i) (.int j) H Q := ⟨i, j, rfl, rfl, q⟩
theorem w_ge {i j : Int} (q : Q (.bl (decide (j ≤ i))) H) : rGe (.int i) (.int j) H Q := ⟨i, j, rfl, rfl, q⟩
theorem w_eqI {i j : Int} (q : Q (.bl (decide (i = j))) H) : rEq2 K (.int i) (.int j) H Q := .inl ⟨rfl, by rw [dec_int]; exact q⟩
theorem w_eqS {i j : Str} (q : Q (.bl (decide (i = j))) H) : rEq2 K (.str i) (.str j) H Q := .inl ⟨rfl, by rw [dec_str]; exact q⟩
theorem w_neI {i j : Int} (q : Q (.bl (!decide (i = j))) H) : rNe2 K (.int i) (.int j) H Q := .inl ⟨rfl, by rw [dec_int]; exact q⟩
theorem w_neS {i j : Str} (q : Q (.bl (!decide (i = j))) H) : rNe2 K (.str i) (.str j) H Q := .inl ⟨rfl, by rw [dec_str]; exact q⟩
theorem w_eqD {d e : PyData} (hx : Dp K H x d) (hy : Dp K H y e) (sd : SeqAt.shaped d = true) (se : SeqAt.shaped e = true) (q : Q (.bl (PyData.eqv d e)) H) : rEq2 K x y H Q := .inr (.inl ⟨d, e, hx, hy, sd, se, q⟩)
theorem w_neD {d e : PyData} (hx : Dp K H x d) (hy : Dp K H y e) (sd : SeqAt.shaped d = true) (se : SeqAt.shaped e = true) (q : Q (.bl (!PyData.eqv d e)) H) : rNe2 K x y H Q := .inr (.inl ⟨d, e, hx, hy, sd, se, q⟩)
theorem w_ixT {p : Addr} {xs : List V} {i : Int} (h : SqT K H p xs) (e : atI xs i = some v) (q : Q v H) : rIx K (.ref p) (.int i) H Q := .inr (.inl ⟨p, xs, i, v, rfl, rfl, h, e, q⟩)
theorem w_ixL {p : Addr} {xs : List V} {i : Int} (h : SqL K H p xs) (e : atI xs i = some v) (q : Q v H) : rIx K (.ref p) (.int i) H Q := .inl ⟨p, xs, i, v, rfl, rfl, h, e, q⟩
theorem w_ixS {z : Str} {i : Int} {c : Nat} (h : z.length ≤ sizeLine) (e : atI z.cps.toList i = some c) (q : Q (.str ⟨#[c]⟩) H) : rIx K (.str z) (.int i) H Q := .inr (.inr ⟨z, i, c, rfl, rfl, h, e, q⟩)
theorem w_lenL {p : Addr} {xs : List V} (h : SqL K H p xs) (q : Q (.int ((xs.length : Nat) : Int)) H) : rLenA K [.ref p] H Q := ⟨.ref p, xs.length, rfl, .inl ⟨xs, h, rfl⟩, q⟩
theorem w_lenT {p : Addr} {xs : List V} (h : SqT K H p xs) (q : Q (.int ((xs.length : Nat) : Int)) H) : rLenA K [.ref p] H Q := ⟨.ref p, xs.length, rfl, .inr ⟨xs, h, rfl⟩, q⟩
theorem w_lenS {z : Str} (h : z.length ≤ sizeLine) (q : Q (.int ((z.length : Nat) : Int)) H) : rLenA K [.str z] H Q := ⟨.str z, z.length, rfl, ⟨h, rfl⟩, q⟩
theorem w_intI {i : Int} (q : Q (.int i) H) : rInt [.int i] H Q := .inl (.inl ⟨i, rfl, q⟩)
theorem w_intB {k : Bool} (q : Q (.int (if k then 1 else 0)) H) : rInt [.bl k] H Q := .inl (.inr ⟨k, rfl, q⟩)
theorem w_nil {Q : List V → Hp → Prop} (q : Q [] H) : tNil σ H Q := q
theorem w_cons {tr : TA} {Q : List V → Hp → Prop} (q : ta σ H fun x H1 => tr σ H1 fun xs H2 => Q (x :: xs) H2) : tCons ta tr σ H Q := q
theorem w_f {sp : Sp} {t : TA} (q : t σ H fun vs H1 => sp vs H1 Q E0) : tF sp t σ H Q := q
theorem w_cb {r : List V → Hp → VK → Prop} {t : TA} (q : t σ H fun vs H1 => r vs H1 Q) : tCB r t σ H Q := q
theorem w_lst {t : TA} (q : t σ H fun xs H1 => xs.length ≤ sizeLine ∧ ∀ p, H1 p = none → Q (.ref p) (upd H1 p (.lst xs))) : tLst t σ H Q := q
theorem w_tup {t : TA} (q : t σ H fun xs H1 => xs.length ≤ sizeLine ∧ ∀ p, H1 p = none → Q (.ref p) (upd H1 p (.tup xs))) : tTup t σ H Q := q
theorem w_test {Q : Bool → Hp → Prop} (q : te σ H fun x H' => ∃ k, x = .bl k ∧ Q k H') : tTest te σ H Q := q
theorem w_tB {Q : Bool → Hp → Prop} (q : te σ H fun x H' => ∃ k, x = .bl k ∧ Q k H') : tB te σ H Q := q
theorem w_bl {b : Bool} {R : Bool → Prop} (q : R b) : ∃ k, V.bl b = .bl k ∧ R k := ⟨b, rfl, q⟩
theorem w_and {Q : Bool → Hp → Prop} (q : t σ H fun c H1 => if c = true then u σ H1 Q else Q false H1) : tAnd t u σ H Q := q
theorem w_or {Q : Bool → Hp → Prop} (q : t σ H fun c H1 => if c = true then Q true H1 else u σ H1 Q) : tOr t u σ H Q := q
theorem w_not {Q : Bool → Hp → Prop} (q : t σ H fun c H1 => Q (!c) H1) : tNot t σ H Q := q
theorem w_andV (q : ta σ H fun x H1 => ∃ c, x = .bl c ∧ if c = true then tb σ H1 Q else Q (.bl false) H1) : tAndV ta tb σ H Q := q
theorem w_orV (q : ta σ H fun x H1 => ∃ c, x = .bl c ∧ if c = true then Q (.bl true) H1 else tb σ H1 Q) : tOrV ta tb σ H Q := q
theorem w_notV (q : ta σ H fun x H1 => ∃ c, x = .bl c ∧ Q (.bl (!c)) H1) : tNotV ta σ H Q := q
theorem w_seq (q : ts { D with nx := tu D } σ H) : tSeq ts tu D σ H := q
theorem w_next (q : D.nx σ H) : tNext D σ H := q
theorem w_asg {i : Nat} (q : te σ H fun x H1 => D.nx (σ.set i (some x)) H1) : tAsg te (gName i) D σ H := q
theorem w_asgT {n : Nat} {g : TGs} (q : te σ H fun x H1 => gTup K n g x σ H1 D.nx) : tAsg te (gTup K n g) D σ H := q
theorem w_ret (q : te σ H D.rt) : tRet te D σ H := q
theorem w_drop (q : te σ H fun _ H1 => D.nx σ H1) : tDrop te D σ H := q
theorem w_if (q : t σ H fun b H1 => if b = true then ts D σ H1 else tu D σ H1) : tIfS t ts tu D σ H := q
theorem w_yes {c : Bool} {A B : Prop} (e : c = true) (a : A) : if c = true then A else B := by rw [if_pos e]; exact a
theorem w_no {c : Bool} {A B : Prop} (e : c = false) (b : B) : if c = true then A else B := by rw [e]; exact iteF b
theorem w_two {c : Bool} {A B : Prop} (a : c = true → A) (b : c = false → B) : if c = true then A else B := by
  cases c with
  | true => exact iteT (a rfl)
  | false => exact iteF (b rfl)
end
end Hu
namespace Hu
open PySem PySem.Spec PyProof.Rows L2
structure CC (K : PySem.W.Frag) (cx : Str) (as : List Str) (C : Addr) : Prop where
  isC : PySem.W.nsIn K mainGlobals cx = some (some (.ref C))
  cls : Cls K C
  no : ∀ f ∈ as, NoAttr K C f
theorem CC.eq {K : PySem.W.Frag} {cx : Str} {as bs : List Str} {C D : Addr} (a : CC K cx as C) (b : CC K cx bs D) : C = D := by
  have := a.isC.symm.trans b.isC
  exact Value.ref.inj (Option.some.inj (Option.some.inj this))
structure MethAt (K : PySem.W.Frag) (C : Addr) (x qual : Str) (st : Stmt) (ps : List Str) : Prop where
  ex : ∃ (f : Addr) (fd : FuncData), Fun K x qual st f fd ∧ Meth K C x f ∧ Binds K fd ps []
structure InitAt (K : PySem.W.Frag) (C : Addr) (qual : Str) (st : Stmt) (ps : List Str) : Prop where
  ex : ∃ (f : Addr) (fd : FuncData), Fun K "__init__" qual st f fd ∧ Mk K C f ∧ Binds K fd ps []
structure CalM (P : Program) (w : World) (K : PySem.W.Frag) (mg : Str → Option Value) (base : Heap) (k : Nat) (cx : Str) (as : List Str) (x : Str) (sp : Sp) : Prop where
  ex : ∃ (C f : Addr) (fd : FuncData) (ps : List Str), CC K cx as C ∧ FnOk P w K mg base CX0 k f fd ps sp ∧ Meth K C x f ∧ Binds K fd ps []
structure CalC (P : Program) (w : World) (K : PySem.W.Frag) (mg : Str → Option Value) (base : Heap) (k : Nat) (cx : Str) (as : List Str) (sp : Sp) : Prop where
  ex : ∃ (C f : Addr) (fd : FuncData) (ps : List Str), CC K cx as C ∧ mg cx = some (.ref C) ∧ FnOk P w K mg base CX0 k f fd ps sp ∧ Mk K C f ∧ Binds K fd ps []
section
variable {P : Program} {w : World} {K : PySem.W.Frag} {mg : Str → Option Value} {base : Heap}
theorem calM_of {C : Addr} {cx x qual : Str} {as : List Str} {st : Stmt} {N ps : List Str} {k : Nat} {sp : Sp} (c : CC K cx as C) (D : MethAt K C x qual st ps) (S : FnScope N ps (defScope st)) (len : ∀ vs H Q E, sp vs H Q E → vs.length = ps.length)
    (hbody : ∀ (f : Addr) (cdv : Value) (A : Around) (outer : List Env) (s : Shared) (H : Hp) (vs : List V) (Q : VK) (E : XK), Room k (A.deeper (envOfC qual (defScope st) s.heap.objs.size f cdv)) → sp vs H Q E →
      ∃ t, PSs (cxOf CX0 P w K mg base N qual (defScope st) f cdv A outer s H E).nox (defBody st) t ∧ t { nx := fun _ H' => Q .non H', rt := Q } (start N vs) H) : CalM P w K mg base (k + 1) cx as x sp := by
  obtain ⟨f, fd, F, m, b⟩ := D.ex
  exact ⟨C, f, fd, ps, c, F.ok S len fun cdv A outer s H vs Q E => hbody f cdv A outer s H vs Q E, m, b⟩
theorem calC_of {C : Addr} {cx qual : Str} {as : List Str} {st : Stmt} {N ps : List Str} {k : Nat} {sp : Sp} (c : CC K cx as C) (hm : mg cx = some (.ref C)) (D : InitAt K C qual st ps) (S : FnScope N ps (defScope st)) (len : ∀ vs H Q E, sp vs H Q E → vs.length = ps.length)
    (hbody : ∀ (f : Addr) (cdv : Value) (A : Around) (outer : List Env) (s : Shared) (H : Hp) (vs : List V) (Q : VK) (E : XK), Room k (A.deeper (envOfC qual (defScope st) s.heap.objs.size f cdv)) → sp vs H Q E →
      ∃ t, PSs (cxOf CX0 P w K mg base N qual (defScope st) f cdv A outer s H E).nox (defBody st) t ∧ t { nx := fun _ H' => Q .non H', rt := Q } (start N vs) H) : CalC P w K mg base (k + 1) cx as sp := by
  obtain ⟨f, fd, F, m, b⟩ := D.ex
  exact ⟨C, f, fd, ps, c, hm, F.ok S len fun cdv A outer s H vs Q E => hbody f cdv A outer s H vs Q E, m, b⟩
end
section
variable {X : Cx} {k j : Nat} {x cx : Str} {as : List Str} {sp : Sp} {p pos apos : Pos} {o e : Expr} {es : List Expr} {t : TA} {ta : TE}
/-- o.m(..), o an instance of the class named cx -/
def tM (K : PySem.W.Frag) (cx : Str) (as : List Str) (m : Str) (sp : Sp) (ta : TE) (t : TA) : TE := fun σ H Q => ta σ H fun x H1 => ∃ a C dx fs, x = .ref a ∧ H1 a = some (.ins C dx fs) ∧ CC K cx as C ∧ fs.lookup m = none ∧ t σ H1 fun vs H2 => sp (x :: vs) H2 Q E0
/-- cx(..) -/
def tMk (K : PySem.W.Frag) (cx : Str) (as : List Str) (sp : Sp) (t : TA) : TE := fun σ H Q => t σ H fun vs H1 => ∀ x C dx, CC K cx as C → H1 x = none → H1 dx = none → dx ≠ x →
  sp (.ref x :: vs) (upd (upd H1 dx (.own x)) x (.ins C dx [])) (fun v H2 => v = .non ∧ Q (.ref x) H2) E0
theorem pe_m {m : Str} {pl : Sem Bool} (c : CalM X.prog X.w X.K X.mg X.base k cx as m sp) (hr : Room j X.A) (hk : k ≤ j) (he : PE X o ta) (ha : PA X (e :: es) t)
    (hst : starEach (e :: es) X.env = (false, eval e X.env) :: starEach es X.env := by rfl) (hpl : (backTo pos (starEach es X.env)).any (·.1) = false := by rfl)
    (ht : eval (.Call (.Attribute o m apos) (e :: es) [] pos) X.env = (do
      let ov ← eval o X.env
      standAt apos.atName
      let (f, first) ← holding [ov] (getMethod ov m pl)
      callWith pos f first (backTo pos (starEach (e :: es) X.env)) (backToKw pos (keywordEach [] X.env))) := by rfl) : PE X (.Call (.Attribute o m apos) (e :: es) [] pos) (tM X.K cx as m sp ta t) := by
  obtain ⟨C, f, fd, ps, cc, F, hm, b⟩ := c.ex
  have h := pe_meth (pl := pl) (E := E0) he cc.cls hm F (hr.mono hk) b .nil (pass0 (X := X)) ha hst hpl ht
  refine ⟨fun pins s σ H Q I q => h.run pins s σ H Q I ?_⟩
  have e2 : ∀ (q : Q = Q), (fun (x : V) (H1 : Hp) => ∃ a C' dx fs, x = .ref a ∧ H1 a = some (.ins C' dx fs) ∧ CC X.K cx as C' ∧ fs.lookup m = none ∧ t σ H1 fun vs H2 => sp (x :: vs) H2 Q E0) = fun x H1 => ∃ a dx fs, x = .ref a ∧ H1 a = some (.ins C dx fs) ∧ fs.lookup m = none ∧ t σ H1 fun vs H2 => sp (x :: (vs ++ [])) H2 Q E0 := by
    intro _
    funext x H1
    have e0 : (fun (vs : List V) (H2 : Hp) => sp (x :: (vs ++ [])) H2 Q E0) = fun vs H2 => sp (x :: vs) H2 Q E0 := by
      funext vs H2
      rw [List.append_nil]
    rw [e0]
    refine propext ⟨?_, ?_⟩
    · rintro ⟨a, C', dx, fs, h1, h2, h3, h4, h5⟩
      have := h3.eq cc
      subst this
      exact ⟨a, dx, fs, h1, h2, h4, h5⟩
    · rintro ⟨a, dx, fs, h1, h2, h4, h5⟩
      exact ⟨a, C, dx, fs, h1, h2, cc, h4, h5⟩
  show ta σ H _
  rw [← e2 rfl]
  exact q
theorem pe_m0 {m : Str} {pl : Sem Bool} (c : CalM X.prog X.w X.K X.mg X.base k cx as m sp) (hr : Room j X.A) (hk : k ≤ j) (he : PE X o ta)
    (ht : eval (.Call (.Attribute o m apos) [] [] pos) X.env = (do
      let ov ← eval o X.env
      standAt apos.atName
      let (f, first) ← holding [ov] (getMethod ov m pl)
      callWith pos f first (backTo pos (starEach [] X.env)) (backToKw pos (keywordEach [] X.env))) := by rfl) : PE X (.Call (.Attribute o m apos) [] [] pos) (tM X.K cx as m sp ta tNil) := by
  obtain ⟨C, f, fd, ps, cc, F, hm, b⟩ := c.ex
  have h := pe_meth0 (pl := pl) (E := E0) he cc.cls hm F (hr.mono hk) b .nil (pass0 (X := X)) ht
  refine ⟨fun pins s σ H Q I q => h.run pins s σ H Q I ?_⟩
  have e2 : (fun (x : V) (H1 : Hp) => ∃ a C' dx fs, x = .ref a ∧ H1 a = some (.ins C' dx fs) ∧ CC X.K cx as C' ∧ fs.lookup m = none ∧ tNil σ H1 fun vs H2 => sp (x :: vs) H2 Q E0) = fun x H1 => ∃ a dx fs, x = .ref a ∧ H1 a = some (.ins C dx fs) ∧ fs.lookup m = none ∧ tNil σ H1 fun vs H2 => sp (x :: (vs ++ [])) H2 Q E0 := by
    funext x H1
    refine propext ⟨?_, ?_⟩
    · rintro ⟨a, C', dx, fs, h1, h2, h3, h4, h5⟩
      have := h3.eq cc
      subst this
      exact ⟨a, dx, fs, h1, h2, h4, h5⟩
    · rintro ⟨a, dx, fs, h1, h2, h4, h5⟩
      exact ⟨a, C, dx, fs, h1, h2, cc, h4, h5⟩
  show ta σ H _
  rw [← e2]
  exact q
theorem pe_c (c : CalC X.prog X.w X.K X.mg X.base k cx as sp) (hr : Room j X.A) (hk : k + 1 ≤ j) (ha : PA X (e :: es) t) (hg : Gl X cx := by rfl)
    (hdb : (cx == ("__debug__" : Str)) = false := by decide) (he : starEach (e :: es) X.env = (false, eval e X.env) :: starEach es X.env := by rfl) (hpl : (backTo pos (starEach es X.env)).any (·.1) = false := by rfl) :
    PE X (.Call (.Name cx p) (e :: es) [] pos) (tMk X.K cx as sp t) := by
  obtain ⟨C, f, fd, ps, cc, hm, F, M, b⟩ := c.ex
  have h := pe_make (p := p) (E := E0) M F (hr.mono hk) hg hm b .nil (pass0 (X := X)) ha hdb he hpl
  refine ⟨fun pins s σ H Q I q => h.run pins s σ H Q I ?_⟩
  show t σ H fun vs H1 => ∀ x dx, H1 x = none → H1 dx = none → dx ≠ x → sp (.ref x :: (vs ++ [])) (upd (upd H1 dx (.own x)) x (.ins C dx [])) (fun v H2 => v = .non ∧ Q (.ref x) H2) E0
  have e2 : (fun (vs : List V) (H1 : Hp) => ∀ x dx, H1 x = none → H1 dx = none → dx ≠ x → sp (.ref x :: (vs ++ [])) (upd (upd H1 dx (.own x)) x (.ins C dx [])) (fun v H2 => v = .non ∧ Q (.ref x) H2) E0) =
      fun vs H1 => ∀ x C' dx, CC X.K cx as C' → H1 x = none → H1 dx = none → dx ≠ x → sp (.ref x :: vs) (upd (upd H1 dx (.own x)) x (.ins C' dx [])) (fun v H2 => v = .non ∧ Q (.ref x) H2) E0 := by
    funext vs H1
    rw [List.append_nil]
    refine propext ⟨?_, ?_⟩
    · intro q x C' dx h3 h4 h5 h6
      have := h3.eq cc
      subst this
      exact q x dx h4 h5 h6
    · intro q x dx h4 h5 h6
      exact q x C dx cc h4 h5 h6
  rw [e2]
  exact q
/-- a name of the top that stands for a tuple -/
def tGT (K : PySem.W.Frag) (xs : List V) : TE := fun _ H Q => ∀ a, (∀ H', SqT K H' a xs) → Q (.ref a) H
theorem pe_globT {xs : List V} (hg : Gl X x) (hm : ∃ a, X.mg x = some (.ref a) ∧ ∀ H, SqT X.K H a xs) (hd : (x == ("__debug__" : Str)) = false := by decide) : PE X (.Name x pos) (tGT X.K xs) := by
  obtain ⟨a, hm, hs⟩ := hm
  have h := pe_glob (pos := pos) (v := .ref a) hg hm rfl hd
  exact ⟨fun pins s σ H Q I q => h.run pins s σ H Q I (q a hs)⟩
end
section
variable {K : PySem.W.Frag} {σ : L2.St} {H : Hp} {Q : VK} {te tv : TE} {D : Ends} {y v : V}
theorem w_glt {xs : List V} (q : ∀ a, (∀ H', SqT K H' a xs) → Q (.ref a) H) : tGT K xs σ H Q := q
theorem w_m {cx : Str} {as : List Str} {m : Str} {sp : Sp} {t : TA} (q : te σ H fun x H1 => ∃ a C dx fs, x = .ref a ∧ H1 a = some (.ins C dx fs) ∧ CC K cx as C ∧ fs.lookup m = none ∧ t σ H1 fun vs H2 => sp (x :: vs) H2 Q E0) : tM K cx as m sp te t σ H Q := q
theorem w_mk {cx : Str} {as : List Str} {sp : Sp} {t : TA} (q : t σ H fun vs H1 => ∀ x C dx, CC K cx as C → H1 x = none → H1 dx = none → dx ≠ x → sp (.ref x :: vs) (upd (upd H1 dx (.own x)) x (.ins C dx [])) (fun v H2 => v = .non ∧ Q (.ref x) H2) E0) : tMk K cx as sp t σ H Q := q
theorem w_fld {f : Str} (q : te σ H fun x H1 => ∃ a C dx fs v, x = .ref a ∧ H1 a = some (.ins C dx fs) ∧ Cls K C ∧ NoAttr K C f ∧ fs.lookup f = some v ∧ Q v H1) : tFld K te f σ H Q := q
theorem w_fldAt {f cx : Str} {as : List Str} {a C dx : Addr} {fs : List (Str × V)} {R : V → Prop} (h : H a = some (.ins C dx fs)) (c : CC K cx as C) (m : f ∈ as) (l : fs.lookup f = some v) (q : R v) : ∃ b C dx fs v, V.ref a = .ref b ∧ H b = some (.ins C dx fs) ∧ Cls K C ∧ NoAttr K C f ∧ fs.lookup f = some v ∧ R v := ⟨a, C, dx, fs, v, rfl, h, c.cls, c.no f m, l, q⟩
theorem w_sfld {f : Str} (q : tv σ H fun y H1 => te σ H1 fun x H2 => ∃ a C dx fs, x = .ref a ∧ H2 a = some (.ins C dx fs) ∧ Cls K C ∧ NoAttr K C f ∧ fs.length < 1000 ∧ D.nx σ (upd H2 a (.ins C dx (putF f y fs)))) : sFld K te tv f D σ H := q
theorem w_sfldAt {f cx : Str} {as : List Str} {a C dx : Addr} {fs : List (Str × V)} {R : Hp → Prop} (h : H a = some (.ins C dx fs)) (c : CC K cx as C) (m : f ∈ as) (l : fs.length < 1000) (q : R (upd H a (.ins C dx (putF f y fs)))) : ∃ b C dx fs, V.ref a = .ref b ∧ H b = some (.ins C dx fs) ∧ Cls K C ∧ NoAttr K C f ∧ fs.length < 1000 ∧ R (upd H b (.ins C dx (putF f y fs))) := ⟨a, C, dx, fs, rfl, h, c.cls, c.no f m, l, q⟩
theorem w_mAt {cx : Str} {as : List Str} {m : Str} {a C dx : Addr} {fs : List (Str × V)} {R : Prop} (h : H a = some (.ins C dx fs)) (c : CC K cx as C) (l : fs.lookup m = none) (q : R) : ∃ b C dx fs, V.ref a = .ref b ∧ H b = some (.ins C dx fs) ∧ CC K cx as C ∧ fs.lookup m = none ∧ R := ⟨a, C, dx, fs, rfl, h, c, l, q⟩
theorem w_chain {r r' : R2} {ta tb tc : TE} (q : ta σ H fun x H1 => tb σ H1 fun y H2 => r x y H2 fun z H3 => ∃ k, z = .bl k ∧ (if k = true then tc σ H3 fun w' H4 => r' y w' H4 Q else Q (.bl false) H3)) : tChain r r' ta tb tc σ H Q := q
theorem w_istr {R : It → Hp → Prop} (q : te σ H fun v H1 => ∃ x, v = .str x ∧ R (Its x) H1) : iStr te σ H R := q
theorem tyx_t {a : Addr} {xs : List V} (h : SqT K H a xs) : TyX K H (.ref a) (.type "tuple") := by
  rcases h with (h | ⟨o, h⟩) | ⟨o, its, n, h, c, _⟩
  · exact .base (.tup h)
  · exact .fTuple h
  · exact .kTuple h c
theorem tyx_l {a : Addr} {xs : List V} (h : SqL K H a xs) : TyX K H (.ref a) (.type "list") := by
  rcases h with (h | ⟨o, h⟩) | ⟨o, its, n, h, c, _⟩
  · exact .base (.lst h)
  · exact .base (.frz h)
  · exact .kList h c
end
theorem for_str {x : Str} {g : TG} {tb : TS} {D : Ends} {σ : L2.St} {H : Hp} (Pv : Nat → L2.St → Hp → Prop) (h0 : Pv 0 σ H)
    (hs : ∀ i c σ H, x.cps[i]? = some c → Pv i σ H → g (.str ⟨#[c]⟩) σ H fun σ2 H2 => tb { D with nx := Pv (i + 1), ct := Pv (i + 1), bk := D.nx } σ2 H2) (hd : ∀ σ H, Pv x.cps.size σ H → D.nx σ H) :
    ∃ W : Nat → Nat → L2.St → Hp → Prop, (∃ m, W 0 m σ H) ∧ ∀ i m σ H, W i m σ H →
      ((Its x).stop i H ∧ D.nx σ H) ∨ ((Its x).go i H ∧ ∃ N : L2.St → Hp → Prop, (∀ σ' H', N σ' H' → ∃ m', m' < m ∧ W (i + 1) m' σ' H') ∧ ∀ v H', (Its x).yld i H v H' → g v σ H' fun σ2 H2 => tb { D with nx := N, ct := N, bk := D.nx } σ2 H2) := by
  refine ⟨fun i m σ H => m = x.cps.size - i ∧ i ≤ x.cps.size ∧ Pv i σ H, ⟨x.cps.size, by simp, Nat.zero_le _, h0⟩, ?_⟩
  rintro i m σ H ⟨rfl, hi, p⟩
  by_cases hlt : i < x.cps.size
  · refine .inr ⟨hlt, Pv (i + 1), fun σ' H' p' => ⟨x.cps.size - (i + 1), by omega, rfl, hlt, p'⟩, fun v H' y => ?_⟩
    obtain ⟨rfl, c, hc, rfl⟩ := y
    exact hs i c σ _ hc p
  · have e : i = x.cps.size := by omega
    subst e
    exact .inl ⟨Nat.le_refl _, hd σ H p⟩
end Hu
namespace HuS
open PySem PySem.Spec PyProof.Rows L2
def nameOf (e : Int × Value) : Str := match e.2 with
  | .str x _ => x
  | _ => Str.empty
def Fit (w : World) (e : Int × Value) : Prop := ∃ x tk, e.2 = Value.str x tk ∧ e.1 = hashStr w x
def TxtSet (w : World) (h : Heap) (a : Addr) (S : Str → Bool) (n : Nat) : Prop :=
  ∃ o es ep t, h.get? a = some o ∧ o.ExactSet ∧ o.data = .set es ep t ∧ (∀ e ∈ es.toList, Fit w e) ∧ (es.toList.map nameOf).Nodup ∧ (∀ x, S x = true ↔ x ∈ es.toList.map nameOf) ∧
    es.size < scanBound ∧ t.fits es.size = true ∧ es.size = n ∧ Ris t.place.toList ∧ (w.params.followText "set-order" = true ∨ t.led = true)
section
variable {P : Program} {w : World} {h h' : Heap} {a : Addr} {S : Str → Bool} {n : Nat}
theorem TxtSet.at (R : TxtSet w h a S n) (k : ∀ o, h.get? a = some o → h'.get? a = some o) : TxtSet w h' a S n := by
  obtain ⟨o, es, ep, t, ho, r⟩ := R
  exact ⟨o, es, ep, t, k o ho, r⟩
theorem TxtSet.congr {S' : Str → Bool} (R : TxtSet w h a S n) (e : ∀ x, S' x = S x) : TxtSet w h a S' n := (funext e : S' = S) ▸ R
theorem fit_elems {l : List (Int × Value)} (g : ∀ e ∈ l, Fit w e) : ElemsOf (PySem.strKind P w) l := fun e he => by
  obtain ⟨x, tk, h1, h2⟩ := g e he
  exact ⟨⟨x, by rw [h1]; exact strKind_is P w x tk, h2⟩, by rw [h1] <;> rfl⟩
theorem fit_is {e : Int × Value} (g : Fit w e) (x : Str) : (PySem.strKind P w).is x e.2 = true ↔ nameOf e = x := by
  obtain ⟨y, tk, h1, _⟩ := g
  unfold nameOf
  rw [h1]
  constructor
  · intro z
    obtain ⟨t, e⟩ := Value.isStrOf_shape (show Value.isStrOf x (.str y tk) = true from z)
    injection e
  · intro z
    subst z
    exact strKind_is P w _ tk
theorem fit_mem {l : List (Int × Value)} (g : ∀ e ∈ l, Fit w e) (x : Str) : x ∈ l.map nameOf ↔ ∃ e ∈ l, (PySem.strKind P w).is x e.2 = true := by
  rw [List.mem_map]
  exact ⟨fun ⟨e, he, q⟩ => ⟨e, he, (fit_is (g e he) x).2 q⟩, fun ⟨e, he, q⟩ => ⟨e, he, (fit_is (g e he) x).1 q⟩⟩
end
section
variable {P : Program} {w : World} {A : Around} {E : Value → Shared → Prop} {s : Shared} {a : Addr} {S : Str → Bool} {n : Nat}
theorem put_tail {g : Bool → Sem Unit} (hg : ∀ (b : Bool) (s₁ : Shared) (Q' : Unit → Shared → Prop), Q' () s₁ → wpAny (model P w) A (g b) Q' E s₁)
    {o : Obj} {es : Array (Int × Value)} {ep : Nat} {t : SetTable} (ho : s.heap.get? a = some o) (hex : o.ExactSet) (hd : o.data = .set es ep t)
    {fs : Array (Int × Value)} {t2 : SetTable} {T : Str → Bool} (g1 : ∀ e ∈ fs.toList, Fit w e) (nd1 : (fs.toList.map nameOf).Nodup) (m1 : ∀ x, T x = true ↔ x ∈ fs.toList.map nameOf)
    (hb1 : fs.size < scanBound) (hf2 : t2.fits fs.size = true) (hr : Ris t2.place.toList) (hl : w.params.followText "set-order" = true ∨ t2.led = true) {dummy : Bool} {R : Option Bool → Shared → Prop}
    (hR : ∀ h', Heap.SameBut a s.heap h' → TxtSet w h' a T fs.size → R (some true) { s with heap := h' }) :
    wpAny (model P w) A (do
        storeSet a fs t2
        if (!dummy && t2.tooFull) = true then do
            g (relayAll t2 fs (SetTable.grown fs.size)).2.2
            storeSet a (relayAll t2 fs (SetTable.grown fs.size)).1 (relayAll t2 fs (SetTable.grown fs.size)).2.1
            pure (some true)
          else pure (some true)) R E s := by
  refine wpAny_bind (wpAny_storeSet_of ho hd ?_ (fits_of_scanBound hb1))
  have o1 := store_at (es' := fs) (t' := t2) ho hd
  have b1 := Heap.SameBut.update s.heap a (Obj.putSet fs t2)
  split
  · have pm := relayAll_perm t2 fs (SetTable.grown fs.size)
    have hf3 := relayAll_fits t2 fs (SetTable.grown fs.size)
    have hr3 := relayAll_ris t2 fs (SetTable.grown fs.size)
    have hl3 := relayAll_led t2 fs (SetTable.grown fs.size)
    generalize relayAll t2 fs (SetTable.grown fs.size) = Z at pm hf3 hr3 hl3 ⊢
    obtain ⟨gs, t3, gave⟩ := Z
    dsimp only at pm hf3 hr3 hl3 ⊢
    have z : gs.size = fs.size := by rw [← Array.length_toList, pm.length_eq, Array.length_toList]
    have hb2 : gs.size < scanBound := z ▸ hb1
    refine wpAny_bind (hg _ _ _ ?_)
    refine wpAny_bind (wpAny_storeSet_of o1 rfl ?_ (fits_of_scanBound hb2))
    have o2 := store_at (es' := gs) (t' := t3) o1 rfl
    refine wpAny_pure (hR _ (b1.trans (Heap.SameBut.update _ a _)) ?_)
    exact ⟨_, gs, _, t3, o2, hex, rfl, fun e he => g1 e (pm.mem_iff.mp he), (pm.map nameOf).nodup_iff.mpr nd1, fun x => (m1 x).trans (pm.map nameOf).mem_iff.symm, hb2, hf3, z, hr3,
      hl.imp id fun q => by rw [hl3]; exact q⟩
  · exact wpAny_pure (hR _ b1 ⟨_, fs, _, t2, o1, hex, rfl, g1, nd1, m1, hb1, hf2, rfl, hr, hl⟩)
theorem put_hashed {x : Str} {tk : Tok} {Q : Bool → Shared → Prop} (R : TxtSet w s.heap a S n) (room : n + 1 < scanBound)
    (hQ : ∀ h', Heap.SameBut a s.heap h' → TxtSet w h' a (fun y => S y || decide (y = x)) (if S x = true then n else n + 1) → Q (!S x) { s with heap := h' }) :
    wpAny (model P w) A (setAddHashed a (.str x tk) ((PySem.strKind P w).hash x)) Q E s := by
  obtain ⟨o, es, ep, t, ho, hex, hd, g, nd, hm, hb, hf, hn, hr, hl⟩ := R
  have hkey : (PySem.strKind P w).is x (.str x tk) = true := strKind_is P w x tk
  have hsc : (Value.str x tk).scannable = true := rfl
  have hel : ElemsOf (PySem.strKind P w) es.toList := fit_elems g
  unfold setAddHashed setAddHashedIn
  refine wpAny_holding (wpAny_bind (wpAny_setState_of ho hd hf ?_))
  dsimp only
  rw [byScan_of hsc hb hel]
  simp only [↓reduceIte]
  unfold setAddByScan
  refine wpAny_bind ?_
  refine wpAny_bind (wpAny_rule ?_)
  refine wpAny_bind (wpAny_setScan_of hkey ho hd hf hel ?_)
  cases hfi : List.findIdx? (fun e => (PySem.strKind P w).is x e.2) es.toList with
  | some j =>
    dsimp only
    obtain ⟨hj, pj, _⟩ := List.findIdx?_eq_some_iff_getElem.mp hfi
    have hS : S x = true := (hm x).2 ((fit_mem (P := P) (w := w) g x).2 ⟨es.toList[j], List.getElem_mem hj, pj⟩)
    refine wpAny_pure (wpAny_pure ?_)
    have q := hQ s.heap (Heap.SameBut.refl a s.heap) ⟨o, es, ep, t, ho, hex, hd, g, nd, fun y => by
      rw [Bool.or_eq_true, decide_eq_true_eq, ← hm y]
      exact ⟨fun z => z.elim id (fun e => e ▸ hS), .inl⟩, hb, hf, by rw [if_pos hS]; exact hn, hr, hl⟩
    rw [hS] at q
    exact q
  | none =>
    dsimp only
    have hno : x ∉ es.toList.map nameOf := fun z => by
      obtain ⟨e, he, q⟩ := (fit_mem (P := P) (w := w) g x).1 z
      have c := List.findIdx?_eq_none_iff.mp hfi e he
      rw [q] at c
      cases c
    have hS : S x = false := by
      cases q : S x with
      | false => rfl
      | true => exact absurd ((hm x).1 q) hno
    have hgw : ∀ (b : Bool) {s₁ : Shared} {Q' : Unit → Shared → Prop}, Q' () s₁ → wpAny (model P w) A (match b with | true => rule "set.scan.the-table-gave-way" | false => pure ()) Q' E s₁ :=
      fun b s₁ Q' q => by cases b <;> first | exact wpAny_pure q | exact wpAny_rule q
    have pm := layNew_perm t es ((PySem.strKind P w).hash x) (.str x tk)
    have hf1 := layNew_fits t es ((PySem.strKind P w).hash x) (.str x tk)
    have hr1 := layNew_ris t es ((PySem.strKind P w).hash x) (.str x tk) hr
    have hl1 := layNew_led t es ((PySem.strKind P w).hash x) (.str x tk)
    generalize layNew t es ((PySem.strKind P w).hash x) (.str x tk) = Z at pm hf1 hr1 hl1 ⊢
    obtain ⟨fs, t1, wasDummy, gave⟩ := Z
    dsimp only at pm hf1 hr1 hl1 ⊢
    rw [Array.toList_push] at pm
    have pc : fs.toList.Perm (((PySem.strKind P w).hash x, Value.str x tk) :: es.toList) := pm.trans (List.perm_append_singleton _ _)
    have pk : (fs.toList.map nameOf).Perm (x :: es.toList.map nameOf) := pc.map nameOf
    have g1 : ∀ e ∈ fs.toList, Fit w e := fun e he => by
      rcases List.mem_cons.mp (pc.mem_iff.mp he) with z | z
      · rw [z]; exact ⟨x, tk, rfl, rfl⟩
      · exact g e z
    have nd1 : (fs.toList.map nameOf).Nodup := pk.nodup_iff.mpr (List.nodup_cons.mpr ⟨hno, nd⟩)
    have m1 : ∀ y, (S y || decide (y = x)) = true ↔ y ∈ fs.toList.map nameOf := fun y => by
      rw [Bool.or_eq_true, decide_eq_true_eq, hm y, pk.mem_iff, List.mem_cons]
      exact Or.comm
    have z : fs.size = n + 1 := by rw [← Array.length_toList, pc.length_eq, List.length_cons, Array.length_toList, hn]
    have hb1 : fs.size < scanBound := by rw [z]; exact room
    have hled : w.params.followText "set-order" = true ∨ t1.led = true := hl.imp id fun q => by rw [hl1]; exact q
    have fin : ∀ h', Heap.SameBut a s.heap h' → TxtSet w h' a (fun y => S y || decide (y = x)) fs.size → Q true { s with heap := h' } := fun h' sb r => by
      have q := hQ h' sb
      rw [hS] at q
      rw [z] at r
      exact q r
    refine wpAny_bind (hgw _ ?_)
    split
    · refine wpAny_bind ?_
      rw [hashByValue_scannable 8 hsc]
      refine wpAny_pure ?_
      refine put_tail ?_ ho hex hd g1 nd1 m1 hb1 ?_ ?_ ?_ ?_
      · intro b s₁ Q' q; cases b <;> first | exact wpAny_pure q | exact wpAny_rule q
      · first | (split <;> first | exact hf1 | exact SetTable.fits_plain_off hf1) | exact hf1
      · first | (split <;> exact hr1) | exact hr1
      · first | (split <;> exact hled) | exact hled
      · intro h' sb r; dsimp only; exact wpAny_pure (fin h' sb r)
    · refine wpAny_bind (wpAny_pure ?_)
      simp only [↓reduceIte]
      refine put_tail ?_ ho hex hd g1 nd1 m1 hb1 hf1 hr1 hled ?_
      · intro b s₁ Q' q; cases b <;> first | exact wpAny_pure q | exact wpAny_rule q
      · intro h' sb r; dsimp only; exact wpAny_pure (fin h' sb r)
abbrev freshSet (w : World) : Obj := { cls := .type "set", dict := none, data := .set #[] 0 (.fresh 0 0 (!w.params.followText "set-order")) }
theorem fresh_txt {h : Heap} {a : Addr} {xs : List Str} (ho : h.get? a = some (freshSet w)) : TxtSet w h a (fun y => decide (y ∈ xs.take 0)) 0 :=
  ⟨_, #[], 0, _, ho, ⟨rfl, rfl, rfl⟩, rfl, (fun e he => by simp at he), (by simp), (fun x => by simp), (by decide), (by rfl), rfl, List.Pairwise.nil, by
    show _ ∨ (!w.params.followText "set-order") = true
    cases w.params.followText "set-order"
    · exact .inr rfl
    · exact .inl rfl⟩
/-- a set whose members all stand in ns is no longer than ns -/
theorem nodup_le {α : Type} [DecidableEq α] : ∀ {l m : List α}, l.Nodup → (∀ x ∈ l, x ∈ m) → l.length ≤ m.length
  | [], _, _, _ => Nat.zero_le _
  | x :: l, m, hn, hs => by
    obtain ⟨h1, h2⟩ := List.nodup_cons.mp hn
    have hx : x ∈ m := hs x List.mem_cons_self
    have ih := nodup_le (l := l) (m := m.erase x) h2 fun y hy => (List.mem_erase_of_ne (fun e : y = x => h1 (by rw [← e]; exact hy))).mpr (hs y (List.mem_cons_of_mem _ hy))
    have e := List.length_erase_of_mem hx
    have pos := List.length_pos_of_mem hx
    rw [List.length_cons]
    omega
theorem TxtSet.le (R : TxtSet w s.heap a S n) {ns : List Str} (h : ∀ x, S x = true → x ∈ ns) : n ≤ ns.length := by
  obtain ⟨o, es, ep, t, ho, hex, hd, g, nd, hm, hb, hf, hn, hr, hl⟩ := R
  have z := nodup_le nd fun x hx => h x ((hm x).2 hx)
  rw [List.length_map, Array.length_toList] at z
  omega
theorem put_loop {I : Addr} {fp wr : List Addr} {G : Array GenState → Array GenState → Prop} {n : Nat} {Pv : Nat → Value → Prop} {St : Nat → Shared → Prop} {R : Result → Shared → Prop}
    (W : WalksS P w A.in1 I fp wr G n Pv St) (D : Addr) (hSf : D ∉ fp) (xs ns : List Str) (hn : n = xs.length) (hsub : ∀ x ∈ xs, x ∈ ns) (hb : ns.length + 1 < scanBound) (hval : ∀ i v, Pv i v → ∃ x t, xs[i]? = some x ∧ v = .str x t) :
    ∀ (k i : Nat) (s : Shared), n - i = k → i ≤ n → St i s → (∃ c, TxtSet w s.heap D (fun y => decide (y ∈ xs.take i)) c) →
      (∀ s' c, Moved (D :: wr) G s s' → TxtSet w s'.heap D (fun y => decide (y ∈ xs)) c → R (.ok (.ret .none)) s') →
      codeAny (model P w) A (.builtin "set.update.loop" ⟨[.ref D, .ref I], []⟩) R s := by
  have hSw : D ∉ wr := fun h => hSf (W.sub _ h)
  have more : ∀ b ∈ wr, b ∈ D :: wr := fun b hb => List.mem_cons_of_mem _ hb
  intro k
  induction k with
  | zero =>
    intro i s hk hi hst ⟨c, hS⟩ hR
    obtain rfl : i = n := by omega
    refine codeAny_builtin F.entry_set_update_loop ?_
    rw [Around.under_plainId F.plain_set_update_loop _]
    show wpAny _ A.in1 (pyNext (.ref I) >>= _) _ _ s
    refine wpAny_bind (W.done s _ _ hst fun s' hm => ?_)
    show wpAny _ A.in1 (ret Value.none) _ _ s'
    rw [List.take_of_length_le (by omega)] at hS
    exact wpAny_pure (hR s' c (hm.mono more) (hS.at fun o e => hm.heap D o hSw e))
  | succ k ih =>
    intro i s hk hi hst ⟨c, hS⟩ hR
    have hlt : i < n := by omega
    refine codeAny_builtin F.entry_set_update_loop ?_
    rw [Around.under_plainId F.plain_set_update_loop _]
    show wpAny _ A.in1 (pyNext (.ref I) >>= _) _ _ s
    refine wpAny_bind (W.item i s _ _ hlt hst fun v s' hP hst' hm => ?_)
    obtain ⟨z, t, hz, rfl⟩ := hval i v hP
    have hS' : TxtSet w s'.heap D (fun y => decide (y ∈ xs.take i)) c := hS.at fun o e => hm.heap D o hSw e
    have hc : c ≤ ns.length := hS'.le fun x hx => hsub x (List.mem_of_mem_take (of_decide_eq_true hx))
    show wpAny _ A.in1 (holding [Value.str z t] (setAdd D (.str z t)) >>= _) _ _ s'
    refine wpAny_bind (wpAny_holding ?_)
    unfold setAdd
    refine wpAny_holding ?_
    refine wpAny_bind ((PySem.strKind P w).pyHash (k := z) (strKind_is _ _ _ _) ?_)
    refine put_hashed (s := { s' with toks := s'.toks + 1 }) hS' (by omega) fun h' hsb hS2 => ?_
    have hS3 : TxtSet w h' D (fun y => decide (y ∈ xs.take (i + 1))) (if decide (z ∈ xs.take i) = true then c else c + 1) := hS2.congr fun y => by
      rw [List.take_add_one, hz]
      simp [List.mem_append]
    refine wpAny_pure ⟨plainId_quiet F.plain_set_update_loop _, ih (i + 1) _ (by omega) hlt (W.frame _ s' _ _ hst' (Nat.le_succ _) fun b hb o e => ?_) ⟨_, hS3⟩ fun s'' c2 hm2 hS4 => ?_⟩
    · rw [hsb.2 b (fun h : b = D => hSf (h ▸ hb))]; exact e
    · refine hR s'' c2 (Moved.trans W.gtrans ((hm.mono more).then_heap (Nat.le_succ _) fun b o hb e => ?_) hm2) hS4
      rw [hsb.2 b (fun h : b = D => hb (h ▸ List.mem_cons_self))]; exact e
theorem txt_at : ∀ {us : List Value} {xs : List Str}, StrsAre us xs → ∀ (i : Nat) (v : Value), us[i]? = some v → ∃ x t, xs[i]? = some x ∧ v = .str x t
  | _, _, .nil, i, v, h => by simp at h
  | _, _, .cons n t hr, 0, v, h => ⟨n, t, rfl, by simpa using h.symm⟩
  | _, _, .cons n t hr, i + 1, v, h => by simpa using txt_at hr i v (by simpa using h)
set_option maxHeartbeats 3200000 in
theorem call_set_list {l : Addr} {items : Array Value} (xs ns : List Str) {Q : Value → Shared → Prop} (hh : A.handled = none) (hl : s.heap.IsList l items) (hit : StrsAre items.toList xs) (hsub : ∀ x ∈ xs, x ∈ ns) (hb : ns.length + 1 < scanBound)
    (h : ∀ (h' : Heap) (tk c : Nat), TxtSet w h' s.heap.objs.size (fun y => decide (y ∈ xs)) c → (∀ b o, s.heap.get? b = some o → h'.get? b = some o) → Q (.ref s.heap.objs.size) { s with heap := h', toks := tk }) :
    wpAny (model P w) A (call (.type "set") [.ref l]) Q E s := by
  have hisz : items.size = xs.length := by
    have q := StrsAre.length hit
    rw [Array.length_toList] at q
    exact q
  obtain ⟨c, tl, hmro⟩ := F.called_set.mro
  have hmade := F.called_set.made
  have hsb := F.called_set.sub
  refine wpAny_call (codeAny_of_tree ?_)
  show wpAny _ _ (callAny (.type "set") _) _ _ _
  refine wpAny_pure ⟨Code.quiet_builtin _ (by decide +kernel), codeAny_builtin F.entry_type_call ?_⟩
  rw [Around.under_plain (weight_type_call_type "set" [.ref l] []) rfl]
  have h1 := F.called_set.notType
  have h2 := F.called_set.canCreate
  have hct := F.typeCall_set_1 (.ref l)
  repeat (any_goals (first | assumption | wp_step))
  refine codeAny_mono (code_set_led1 (.ref l) (E := E) (Q₁ := fun obj s₁ => obj = .ref s.heap.objs.size ∧ s₁ = { s with heap := s.heap.push (freshSet w) }) ⟨rfl, rfl⟩) fun r s₁ hr => ?_
  cases r with
  | error e => exact hr
  | ok fl =>
    cases fl with
    | ret obj =>
      obtain ⟨rfl, rfl⟩ := hr
      have hS : (s.heap.push (freshSet w)).get? s.heap.objs.size = some (freshSet w) := Heap.get?_push_size _ rfl
      have hT : Shared.TypeIs { s with heap := s.heap.push (freshSet w) } (.ref s.heap.objs.size) "set" := ⟨_, hS, rfl⟩
      have hli := F.called_set.init.lookup
      have hbi := F.called_set.init.bind (.ref s.heap.objs.size)
      repeat (any_goals (first | assumption | wp_step))
      refine codeAny_mono (codeAny_call_builtin (R := wants (fun r s₂ => r = .none ∧ ∃ h' tk c, s₂ = { s with heap := h', toks := tk } ∧ TxtSet w h' s.heap.objs.size (fun y => decide (y ∈ xs)) c ∧
          (∀ b o, s.heap.get? b = some o → h'.get? b = some o)) E) F.called_set.init.plain F.entry_set_init (check_set_init_1 hT ?_)) fun r₂ s₂ hr₂ => ?_
      · obtain ⟨ol, hol, hcl, nl, hdl⟩ := hl
        obtain ⟨ocls, odict, odata, oslots⟩ := ol
        simp only at hcl hdl
        subst hcl; subst hdl
        have hol' : (s.heap.push (freshSet w)).get? l = some { cls := .type "list", dict := odict, data := .seq items nl, slots := oslots } := Heap.get?_push_of_some _ hol
        have hsls := PySem.F.sub_list_set
        have hslf := PySem.F.sub_list_frozenset
        have hne : (Value.type "list" == Value.type "dict") = false := by decide
        have hl1 : (s.heap.push (freshSet w)).IsList l items := ⟨_, hol', rfl, nl, rfl⟩
        unfold Builtin.«set.__init__» noKeywords Builtin.Frozenset.updateFrom
        generalize hPI : pyIter = PI
        wp_walk
        subst hPI
        refine wpAny_pyIter_list hl1 ?_
        refine wpAny_bind (wpAny_runValue ?_)
        have hlS : l < s.heap.objs.size := Heap.lt_size hol
        have hh3 : A.in1.in1.in1.handled = none := by simp [hh]
        have z1 : (s.heap.push (freshSet w)).objs.size = s.heap.objs.size + 1 := Heap.size_push ..
        have hneI : l ≠ (s.heap.push (freshSet w)).objs.size := by rw [z1]; exact Nat.ne_of_lt (Nat.lt_succ_of_lt hlS)
        have hSf : s.heap.objs.size ∉ [(s.heap.push (freshSet w)).objs.size, l] := by
          rw [z1]; simp only [List.mem_cons, List.mem_singleton, List.not_mem_nil, or_false, not_or]
          exact ⟨Nat.ne_of_lt (Nat.lt_succ_self _), Nat.ne_of_gt hlS⟩
        have hval : ∀ (i : Nat) (v : Value), items[i]? = some v → ∃ x t, xs[i]? = some x ∧ v = .str x t := fun i v hv => by
          exact txt_at hit i v (by rw [Array.getElem?_toList]; exact hv)
        refine put_loop ((Walks.list hh3 _ l hneI items).toS) s.heap.objs.size hSf xs ns hisz hsub hb hval (items.size - 0) 0 _ (by omega) (Nat.zero_le _)
          ⟨⟨_, Heap.get?_push_size _ rfl, rfl, rfl⟩, (hl1.push _)⟩ ?hS0 ?hR
        case hS0 => exact ⟨0, fresh_txt (Heap.get?_push_of_some _ hS)⟩
        case hR =>
          intro s' c' hm hS'
          obtain ⟨h', g2, d', tk', os'⟩ := s'
          have eg : g2 = s.gens := hm.gens
          have ed : d' = s.drawn := hm.drawn
          have eo : os' = s.os := hm.os
          subst eg; subst ed; subst eo
          show wpAny _ _ _ _ _ _
          refine wpAny_pure ?_
          show wpAny _ _ (ret Value.none) _ _ _
          refine wpAny_pure ⟨rfl, h', tk', c', rfl, hS', fun b o e => ?_⟩
          have hb0 : b < s.heap.objs.size := Heap.lt_size e
          refine hm.heap b o ?_ (Heap.get?_push_of_some _ (Heap.get?_push_of_some _ e))
          rw [z1]; simp only [List.mem_cons, List.mem_singleton, List.not_mem_nil, or_false, not_or]
          exact ⟨Nat.ne_of_lt hb0, Nat.ne_of_lt (Nat.lt_succ_of_lt hb0)⟩
      · cases r₂ with
        | error e => exact hr₂
        | ok fl₂ =>
          cases fl₂ with
          | ret r =>
            obtain ⟨rfl, h', tk, c', rfl, hS', hk'⟩ := hr₂
            repeat (any_goals (first | assumption | wp_step))
            exact h _ _ _ hS' hk'
          | _ => exact hr₂.elim
    | _ => exact hr.elim
theorem strsAre_names : ∀ (l : List (Int × Value)), (∀ e ∈ l, Fit w e) → StrsAre (l.map (·.2)) (l.map nameOf)
  | [], _ => .nil
  | e :: l, h => by
    obtain ⟨x, tk, h1, h2⟩ := h e List.mem_cons_self
    have q := strsAre_names l fun e he => h e (List.mem_cons_of_mem _ he)
    have z : nameOf e = x := by unfold nameOf; rw [h1]
    rw [List.map_cons, List.map_cons, z, h1]
    exact .cons x tk q
theorem strsAre_perm {us vs : List Value} (p : vs.Perm us) : ∀ {xs : List Str}, StrsAre us xs → ∃ ys : List Str, StrsAre vs ys ∧ ys.Perm xs := by
  intro xs h
  induction p generalizing xs with
  | nil => exact ⟨xs, h, .refl _⟩
  | cons v _ ih =>
    cases h with
    | cons x t h =>
      obtain ⟨ys, h1, h2⟩ := ih h
      exact ⟨x :: ys, .cons x t h1, h2.cons x⟩
  | swap v u l =>
    cases h with
    | cons x t h =>
      cases h with
      | cons y t' h => exact ⟨y :: x :: _, .cons y t' (.cons x t h), .swap x y _⟩
  | trans _ _ i1 i2 =>
    obtain ⟨ys, h1, h2⟩ := i2 h
    obtain ⟨zs, h3, h4⟩ := i1 h1
    exact ⟨zs, h3, h4.trans h2⟩
theorem sorted_txt {Q : Value → Shared → Prop} (R : TxtSet w s.heap a S n) (hh : A.handled = none)
    (hQ : ∀ s' p (out : Array Value) (c : Nat) (ys : List Str), (∀ b o, s.heap.get? b = some o → s'.heap.get? b = some o) → s'.gens = s.gens → s'.os = s.os → s.heap.objs.size ≤ p →
      s'.heap.get? p = some (seqObj "list" out c) → StrsAre out.toList ys → sortedS ys = true → ys.Nodup → (∀ x, x ∈ ys ↔ S x = true) → ys.length = n → Q (.ref p) s') :
    wpAny (model P w) A (call (.builtin "sorted") [.ref a]) Q E s := by
  obtain ⟨o, es, ep, t, ho, hex, hd, g, nd, hm, hb, hf, hn, hr, hl⟩ := R
  refine Calls.call_function_entry kind_sorted plain_sorted entry_sorted (args_sorted1 _) ?_
  unfold Builtin.«sorted»
  refine wpAny_bind (m := checkCount "sorted" 1 1 _) (wpAny_pure ?_)
  refine wpAny_bind (collect_set (A := A.in1) hh ⟨o, ho, hex.1, hd⟩ hf hb hr hl fun s1 vs k1 hz g1 o1 pm => ?_)
  have hvl : vs.length = n := by rw [pm.length_eq, List.length_map, Array.length_toList]; exact hn
  have hvz : vs.length ≤ sizeLine := by rw [hvl, ← hn]; exact fits_of_scanBound hb
  obtain ⟨zs, hZ, pz⟩ := strsAre_perm pm (strsAre_names es.toList g)
  refine wpAny_bind (wpAny_newList ?_ hvz)
  have hoL : (s1.heap.push (seqObj "list" vs.toArray 0)).get? s1.heap.objs.size = some (seqObj "list" vs.toArray 0) := Heap.get?_push_size _ rfl
  refine wpAny_bind (wpAny_holding (wpAny_call_entry slot_list_sort ⟨_, hoL, rfl⟩ entry_list_sort
    (list_sort_treeKAny strKind_oneLt hoL hZ.keysOf (fun v1 v2 rest e => keyKind_strs (by rw [← e]; exact hZ)) hvz fun st' hp hs => ⟨_, rfl, ?_⟩) (args_list_sort _)))
  obtain ⟨ys, a1, a2, a3⟩ := sorted_out_str hZ hp hs
  obtain ⟨c, hc⟩ := sortedHeap_at (vs := vs) (out := (arrOf st').map (·.2)) hoL
  have pn : ys.Perm (es.toList.map nameOf) := a2.trans pz
  refine wpAny_pure ⟨_, rfl, hQ _ s1.heap.objs.size _ c ys (fun b u e => ?_) g1 o1 hz hc a1 a3 (pn.nodup_iff.mpr nd) (fun x => by rw [pn.mem_iff, ← hm x]) ?_⟩
  · have q := k1 b u e
    have hlt := Heap.lt_size q
    show (sortedHeap (s1.heap.push (seqObj "list" vs.toArray 0)) s1.heap.objs.size vs _).get? b = some u
    rw [sortedHeap_old (Nat.ne_of_lt hlt) (by rw [size_push']; exact Nat.lt_succ_of_lt hlt)]
    exact Heap.get?_push_of_some _ q
  · rw [pn.length_eq, List.length_map, Array.length_toList]; exact hn
end
def tSortSet (K : PySem.W.Frag) (ta : TE) : TE := fun σ H Q => ta σ H fun x H1 => ∃ (l : Addr) (xs ns : List Str), x = .ref l ∧ SqL K H1 l (xs.map V.str) ∧ (∀ y ∈ xs, y ∈ ns) ∧ ns.length ≤ 4000 ∧
  ∀ (ys : List Str) (p : Addr) (H2 : Hp), sortedS ys = true → ys.Nodup → (∀ y, y ∈ ys ↔ y ∈ xs) → Same H1 H2 → H1 p = none → H2 p = some (.lst (ys.map V.str)) → Q (.ref p) H2
theorem vals_strs : ∀ {us : List Value} {xs : List Str}, StrsAre us xs → Vals (xs.map V.str) us
  | _, _, .nil => .nil
  | _, _, .cons x t h => .cons ⟨t, rfl⟩ (vals_strs h)
def TxtO (w : World) (a : Addr) (S : Str → Bool) (n : Nat) : HO := .ext fun h => TxtSet w h a S n
theorem txtO_new {w : World} {P : Program} {H : Hp} {h : Heap} {a : Addr} {S : Str → Bool} {n : Nat} (R : TxtSet w h a S n) : ObjOk P w H h a (TxtO w a S n) := by
  obtain ⟨o, es, ep, t, ho, r⟩ := id R
  exact ⟨R, ⟨o, ho⟩, fun h1 h2 f k => TxtSet.at f k⟩
def rSetL (K : PySem.W.Frag) (w : World) : List V → Hp → VK → Prop := fun vs H Q => ∃ (l : Addr) (xs ns : List Str), vs = [.ref l] ∧ SqL K H l (xs.map V.str) ∧ (∀ y ∈ xs, y ∈ ns) ∧ ns.length ≤ 4000 ∧
  ∀ p c, H p = none → Q (.ref p) (upd H p (TxtO w p (fun y => decide (y ∈ xs)) c))
def rSortT (w : World) : List V → Hp → VK → Prop := fun vs H Q => ∃ (a : Addr) (S : Str → Bool) (n : Nat), vs = [.ref a] ∧ H a = some (TxtO w a S n) ∧
  ∀ (ys : List Str) (p : Addr), sortedS ys = true → ys.Nodup → (∀ y, y ∈ ys ↔ S y = true) → H p = none → Q (.ref p) (upd H p (.lst (ys.map V.str)))
section
variable {X : Cx}
theorem cr_setL (hc : X.calm = true) : CallR X (.type "set") (rSetL X.K X.w) := by
  intro pins s σ H vs us Q I r h
  obtain ⟨l, xs, ns, rfl, hs, hsub, hn, q⟩ := h
  rw [Vals.ref1 r]
  obtain ⟨its, rv, pl, _⟩ := I.list hs
  have hS : StrsAre its xs := strsAre_of rv
  refine call_set_list xs ns (I.ok.hd hc) pl.isList hS hsub (by unfold scanBound; omega) fun h' tk c R k => ?_
  have hf : H s.heap.objs.size = none := I.hok.fresh (Nat.le_refl _)
  exact ⟨.ref s.heap.objs.size, _, I.laid (t' := tk) k (Nat.le_refl _) (txtO_new R), rfl, q _ c hf⟩
theorem cr_sortT (hc : X.calm = true) : CallR X (.builtin "sorted") (rSortT X.w) := by
  intro pins s σ H vs us Q I r h
  obtain ⟨a, S, n, rfl, ha, q⟩ := h
  rw [Vals.ref1 r]
  have R : TxtSet X.w s.heap a S n := (I.hok a _ ha).1
  refine sorted_txt R (I.ok.hd hc) fun s' p out c ys k g o hp hg hi hs hd hm hl => ?_
  have hlen : (ys.map V.str).length ≤ sizeLine := by
    obtain ⟨o', es, ep, t, _, _, _, _, _, _, hb, _, hn, _⟩ := R
    rw [List.length_map, hl, ← hn]
    exact fits_of_scanBound hb
  have hn : H p = none := I.hok.fresh hp
  have J : Inv X pins σ (upd H p (.lst (ys.map V.str))) { s with heap := s'.heap, gens := s'.gens, drawn := s'.drawn, toks := s'.toks } :=
    I.call (ch := []) (Un.laid k hp hn) (I.hok.laid k hp ⟨hlen, out.toList, c, vals_strs hi, hg⟩) (by rw [g]; exact I.bare) (fun _ z => nomatch z)
  have e : s' = { s with heap := s'.heap, gens := s'.gens, drawn := s'.drawn, toks := s'.toks } := by
    cases s'
    cases s
    cases o
    rfl
  rw [e]
  exact ⟨.ref p, _, J, rfl, q ys p hs hd hm hn⟩
variable {a : Expr} {ta : TE} {p p2 q pos : Pos}
/-- an expression at one place, its wish weakened -/
theorem pe_at {e : Expr} {t : TE} (h : PE X e t) (σ : L2.St) (H : Hp) (Q0 : VK) (h0 : t σ H Q0) : PE X e (fun σ' H' Q' => σ' = σ ∧ H' = H ∧ ∀ x H1, Q0 x H1 → Q' x H1) :=
  ⟨fun pins s σ' H' Q' I ⟨e1, e2, k⟩ => by
    subst e1 e2
    exact thn (h.run pins s _ _ Q0 I h0) fun v s1 ⟨x, H1, I1, r1, q1⟩ => ⟨x, H1, I1, r1, k x H1 q1⟩⟩
theorem pe_sortSet (hc : X.calm = true) (hg : Gl X "sorted") (hm : X.mg "sorted" = none) (hg2 : Gl X "set") (hm2 : X.mg "set" = none) (ha : PE X a ta)
    (hs : starEach [a] X.env = (false, eval a X.env) :: starEach [] X.env := by rfl) (hs2 : starEach [.Call (.Name "set" p2) [a] [] q] X.env = (false, eval (.Call (.Name "set" p2) [a] [] q) X.env) :: starEach [] X.env := by rfl)
    (e1 : (backTo q (starEach [] X.env)).any (·.1) = false := by rfl) (e2 : (backTo pos (starEach [] X.env)).any (·.1) = false := by rfl) :
    PE X (.Call (.Name "sorted" p) [.Call (.Name "set" p2) [a] [] q] [] pos) (tSortSet X.K ta) := by
  refine ⟨fun pins s σ H Q I h => ?_⟩
  have hp1 := pa_cons (pe_at ha σ H _ h) pa_nil hs
  have hp2 := pe_callTy (pos := q) (p := p2) (cr_setL hc) hg2 hm2 (by decide +kernel) hp1 (by decide) (by decide) hs e1
  have hp3 := pe_callB (pos := pos) (p := p) (cr_sortT hc) hg hm (by decide +kernel) (pa_cons hp2 pa_nil hs2) (by decide) (by decide) hs2 e2
  refine hp3.run pins s σ H Q I ⟨rfl, rfl, fun x H1 ⟨l, xs, ns, e, hl, hsub, hn, k⟩ => ?_⟩
  refine ⟨l, xs, ns, by rw [e], hl, hsub, hn, fun p c hp => ?_⟩
  refine ⟨p, _, c, rfl, upd_same, fun ys r h1 h2 h3 hr => ?_⟩
  have new : ∀ {H : Hp} {p : Addr} {o : HO}, H p = none → Same H (upd H p o) := fun h b u q => by rw [upd_ne (ne_of_none q h)]; exact q
  exact k ys r _ h1 h2 (fun y => (h3 y).trans decide_eq_true_iff) ((new hp).trans (new hr)) ((new hp).free hr) upd_same
end
end HuS
namespace Hu
open PySem PySem.Spec PyProof.Rows L2 HuS
abbrev cs (x : Str) : List Nat := x.cps.toList
theorem cs_app (x y : Str) : cs (x ++ y) = cs x ++ cs y := TL.tl_append x y
theorem cs_len (x : Str) : x.length = (cs x).length := by simp [Str.length]
theorem cs_one (c : Nat) : cs ⟨#[c]⟩ = [c] := rfl
theorem cs_slTo {x : Str} {i : Int} (h : 0 ≤ i) : cs (Txt.slice x none (some i)) = (cs x).take i.toNat := by
  have e := SX.slice_to (a := cs x) h
  rw [SX.S_tl] at e
  rw [e]
theorem cs_slFrom {x : Str} {i : Int} (h : 0 ≤ i) : cs (Txt.slice x (some i) none) = (cs x).drop i.toNat := by
  have e := SX.slice_from (a := cs x) h
  rw [SX.S_tl] at e
  rw [e]
def az : Str := "abcdefghijklmnopqrstuvwxyz"
def az9 : Str := "abcdefghijklmnopqrstuvwxyz0123456789"
def n09 : Str := "0123456789"
def words : List Str := ["set", "tell", "skip", "if", "else", "while", "end"]
def IsLet (c : Nat) : Prop := 97 ≤ c ∧ c ≤ 122
def IsSgn (c : Nat) : Prop := (97 ≤ c ∧ c ≤ 122) ∨ (48 ≤ c ∧ c ≤ 57)
theorem az_cs : cs az = (List.range 26).map (· + 97) := by decide +kernel
theorem n09_cs : cs n09 = (List.range 10).map (· + 48) := by decide +kernel
theorem az9_eq : az9 = az ++ n09 := by decide +kernel
theorem az9_cs : cs az9 = (List.range 26).map (· + 97) ++ (List.range 10).map (· + 48) := by rw [az9_eq, cs_app, az_cs, n09_cs]
theorem az_at {i : Int} (h0 : 0 ≤ i) (h : i < 26) : atI (cs az) i = some (i.toNat + 97) := by
  obtain ⟨j, rfl⟩ := Int.eq_ofNat_of_zero_le h0
  rw [Int.toNat_natCast]
  refine atI_nat ?_
  rw [az_cs, List.getElem?_map, List.getElem?_range (by omega)]
  rfl
theorem az9_at {i : Int} (h0 : 0 ≤ i) (h : i < 36) : ∃ c, atI (cs az9) i = some c ∧ IsSgn c := by
  obtain ⟨j, rfl⟩ := Int.eq_ofNat_of_zero_le h0
  by_cases hj : j < 26
  · refine ⟨j + 97, atI_nat ?_, .inl ⟨by omega, by omega⟩⟩
    rw [az9_cs, List.getElem?_append_left (by simpa using hj), List.getElem?_map, List.getElem?_range (by omega)]
    rfl
  · refine ⟨(j - 26) + 48, atI_nat ?_, .inr ⟨by omega, by omega⟩⟩
    rw [az9_cs, List.getElem?_append_right (by simp; omega), List.length_map, List.length_range, List.getElem?_map, List.getElem?_range (by omega)]
    rfl
/-- a name -/
structure Nm (x : Str) : Prop where
  pos : 1 ≤ (cs x).length
  most : (cs x).length ≤ 8
  hd : ∀ c, (cs x)[0]? = some c → IsLet c
  all : ∀ c ∈ cs x, IsSgn c
  nw : x ∉ words
/-- a name but for the words -/
structure Nw (x : Str) (n : Nat) : Prop where
  pos : 1 ≤ (cs x).length
  most : (cs x).length ≤ n
  hd : ∀ c, (cs x)[0]? = some c → IsLet c
  all : ∀ c ∈ cs x, IsSgn c
theorem Nm.nw' {x : Str} (h : Nm x) : Nw x 8 := ⟨h.pos, h.most, h.hd, h.all⟩
theorem words_short : ∀ x ∈ words, (cs x).length ≤ 5 := by decide +kernel
theorem words_zero : ∀ x ∈ words, (cs x).getLast? ≠ some 48 := by decide +kernel
theorem Nw.zero {x : Str} {n : Nat} (h : Nw x n) (w : x ∈ words) : Nm (x ++ ("0" : Str)) := by
  have e : cs (x ++ ("0" : Str)) = cs x ++ [48] := by rw [cs_app]; exact congrArg (cs x ++ ·) (by decide +kernel)
  have l := words_short x w
  refine ⟨?_, ?_, fun c hc => ?_, fun c hc => ?_, fun hw => words_zero _ hw ?_⟩
  · rw [e, List.length_append]; have := h.pos; omega
  · rw [e, List.length_append, List.length_singleton]; omega
  · rw [e, List.getElem?_append_left (by have := h.pos; omega)] at hc
    exact h.hd c hc
  · rw [e] at hc
    rcases List.mem_append.mp hc with hc | hc
    · exact h.all c hc
    · rw [List.mem_singleton.mp hc]; exact .inr ⟨by omega, by omega⟩
  · rw [e, List.getLast?_append]; rfl
theorem Nw.nm {x : Str} (h : Nw x 8) (w : x ∉ words) : Nm x := ⟨h.pos, h.most, h.hd, h.all, w⟩
theorem Nw.snoc {x : Str} {n c : Nat} (h : Nw x n) (hc : IsSgn c) : Nw (x ++ ⟨#[c]⟩) (n + 1) := by
  have e : cs (x ++ ⟨#[c]⟩) = cs x ++ [c] := cs_app _ _
  refine ⟨?_, ?_, fun d hd => ?_, fun d hd => ?_⟩
  · rw [e, List.length_append]; have := h.pos; omega
  · rw [e, List.length_append, List.length_singleton]; have := h.most; omega
  · rw [e, List.getElem?_append_left (by have := h.pos; omega)] at hd
    exact h.hd d hd
  · rw [e] at hd
    rcases List.mem_append.mp hd with hd | hd
    · exact h.all d hd
    · rw [List.mem_singleton.mp hd]; exact hc
theorem Nw.one {c : Nat} (h : IsLet c) : Nw ⟨#[c]⟩ 1 := ⟨Nat.le_refl _, Nat.le_refl _, fun d hd => by
  have e : c = d := Option.some.inj hd
  exact e ▸ h, fun d hd => by rw [List.mem_singleton.mp hd]; exact .inl h⟩
/-- one sign put in the place of another -/
theorem Nw.swap {x : Str} {at' : Nat} {c : Nat} (h : Nw x 8) (ha : at' < (cs x).length) (hc : IsSgn c) (h0 : at' = 0 → IsLet c) :
    Nw (Txt.slice x none (some (at' : Int)) ++ ⟨#[c]⟩ ++ Txt.slice x (some ((at' : Int) + 1)) none) 8 := by
  have e : cs (Txt.slice x none (some (at' : Int)) ++ ⟨#[c]⟩ ++ Txt.slice x (some ((at' : Int) + 1)) none) = ((cs x).take at' ++ [c]) ++ (cs x).drop (at' + 1) := by
    rw [cs_app, cs_app, cs_slTo (by omega), cs_slFrom (by omega)]
    have : ((at' : Int) + 1).toNat = at' + 1 := by omega
    rw [this, Int.toNat_natCast, cs_one]
  have l := h.most
  refine ⟨?_, ?_, fun d hd => ?_, fun d hd => ?_⟩
  · rw [e]; simp only [List.length_append, List.length_singleton]; omega
  · rw [e]; simp only [List.length_append, List.length_singleton, List.length_take, List.length_drop]; omega
  · rw [e] at hd
    cases at' with
    | zero =>
      have z : c = d := Option.some.inj hd
      exact z ▸ h0 rfl
    | succ k =>
      rw [List.append_assoc, List.getElem?_append_left (by rw [List.length_take]; omega), List.getElem?_take_of_lt (by omega)] at hd
      exact h.hd d hd
  · rw [e] at hd
    rcases List.mem_append.mp hd with hd | hd
    · rcases List.mem_append.mp hd with hd | hd
      · exact h.all d (List.mem_of_mem_take hd)
      · rw [List.mem_singleton.mp hd]; exact hc
    · exact h.all d (List.mem_of_mem_drop hd)
theorem Nw.cut {x : Str} {c : Nat} (h : Nw x 8) (hc : IsLet c) : Nw (Txt.slice x none (some 7) ++ ⟨#[c]⟩) 8 := by
  have e : cs (Txt.slice x none (some 7) ++ ⟨#[c]⟩) = (cs x).take 7 ++ [c] := by
    rw [cs_app, cs_slTo (by omega), cs_one] <;> rfl
  have l := h.most
  have p := h.pos
  refine ⟨?_, ?_, fun d hd => ?_, fun d hd => ?_⟩
  · rw [e, List.length_append, List.length_singleton]; omega
  · rw [e, List.length_append, List.length_singleton, List.length_take]; omega
  · rw [e, List.getElem?_append_left (by rw [List.length_take]; omega), List.getElem?_take_of_lt (by omega)] at hd
    exact h.hd d hd
  · rw [e] at hd
    rcases List.mem_append.mp hd with hd | hd
    · exact h.all d (List.mem_of_mem_take hd)
    · rw [List.mem_singleton.mp hd]; exact .inl hc
theorem flat_txt (xs : List Str) : (xs.map V.str).all flatV = true := by
  rw [List.all_map, List.all_eq_true]
  intro _ _
  rfl
theorem inV_txt (x : Str) (xs : List Str) : inV (.str x) (xs.map V.str) = decide (x ∈ xs) := by
  unfold inV
  rw [List.any_map]
  induction xs with
  | nil => rfl
  | cons y r ih =>
    rw [List.any_cons, ih]
    show ((y == x) || decide (x ∈ r)) = _
    by_cases e : y = x
    · subst e; simp
    · have e2 : ¬ x = y := fun z => e z.symm
      simp [e, e2]
/-- the text behind i turns -/
def cand (x : Str) (o k : Int) : Nat → Str
  | 0 => x
  | i + 1 => cand (Txt.slice x none (some 7) ++ ⟨#[((o + (x.length : Int) + k) % 26).toNat + 97]⟩) (o + 5) k i
def step7 (x : Str) (o k : Int) : Str := Txt.slice x none (some 7) ++ ⟨#[((o + (x.length : Int) + k) % 26).toNat + 97]⟩
theorem step7_cs (x : Str) (o k : Int) : cs (step7 x o k) = (cs x).take 7 ++ [((o + (x.length : Int) + k) % 26).toNat + 97] := by
  unfold step7
  rw [cs_app, cs_slTo (by omega), cs_one] <;> rfl
theorem cand_succ (x : Str) (o k : Int) (i : Nat) : cand x o k (i + 1) = cand (step7 x o k) (o + 5) k i := rfl
theorem cand_add (x : Str) (o k : Int) : ∀ i j, cand x o k (i + j) = cand (cand x o k i) (o + 5 * i) k j
  | 0, j => by
    rw [Nat.zero_add]
    have : o + 5 * ((0 : Nat) : Int) = o := by omega
    rw [this] <;> rfl
  | i + 1, j => by
    rw [Nat.succ_add, cand_succ, cand_succ, cand_add (step7 x o k) (o + 5) k i j]
    have : o + 5 + 5 * (i : Int) = o + 5 * ((i + 1 : Nat) : Int) := by omega
    rw [this]
theorem cand_len (x : Str) (o k : Int) (h : (cs x).length ≤ 8) : ∀ i, (cs (cand x o k i)).length ≤ 8 ∧ min 8 ((cs x).length + i) ≤ (cs (cand x o k i)).length
  | 0 => ⟨h, by show min 8 ((cs x).length + 0) ≤ (cs x).length; omega⟩
  | i + 1 => by
    have e : (cs (step7 x o k)).length = min 7 (cs x).length + 1 := by rw [step7_cs, List.length_append, List.length_take, List.length_singleton]
    have q := cand_len (step7 x o k) (o + 5) k (by omega) i
    rw [cand_succ]
    omega
/-- once eight long -/
theorem cand_eight (x : Str) (o k : Int) (h : (cs x).length = 8) : ∀ i, cs (cand x o k (i + 1)) = (cs x).take 7 ++ [((o + 5 * (i : Int) + 8 + k) % 26).toNat + 97]
  | 0 => by
    show cs (step7 x o k) = _
    rw [step7_cs, cs_len, h]
    have : o + 5 * ((0 : Nat) : Int) + 8 + k = o + ((8 : Nat) : Int) + k := by omega
    rw [this]
  | i + 1 => by
    have l : (cs (step7 x o k)).length = 8 := by rw [step7_cs, List.length_append, List.length_take, List.length_singleton, h] <;> rfl
    have q := cand_eight (step7 x o k) (o + 5) k l i
    rw [cand_succ, q, step7_cs]
    have e1 : ((cs x).take 7 ++ [((o + (x.length : Int) + k) % 26).toNat + 97]).take 7 = (cs x).take 7 := by
      rw [List.take_append_of_le_length (by rw [List.length_take, h]; omega), List.take_take] <;> rfl
    have e2 : o + 5 + 5 * (i : Int) + 8 + k = o + 5 * ((i + 1 : Nat) : Int) + 8 + k := by omega
    rw [e1, e2]
theorem cand_inj (x : Str) (o k : Int) (h : (cs x).length = 8) {i j : Nat} (hi : i < 26) (hj : j < 26) (e : cand x o k (i + 1) = cand x o k (j + 1)) : i = j := by
  have q := congrArg cs e
  rw [cand_eight x o k h, cand_eight x o k h] at q
  have z := List.append_cancel_left q
  injection z with z _
  have a1 := Int.emod_nonneg (o + 5 * (i : Int) + 8 + k) (show (26 : Int) ≠ 0 by decide)
  have a2 := Int.emod_nonneg (o + 5 * (j : Int) + 8 + k) (show (26 : Int) ≠ 0 by decide)
  omega
theorem cand_out (x : Str) (o k : Int) (h : (cs x).length = 8) (ns : List Str) (hn : ns.length ≤ 20) : ∃ m, m ≤ 26 ∧ cand x o k m ∉ ns := by
  refine Classical.byContradiction fun no => ?_
  have all : ∀ i, i < 26 → cand x o k (i + 1) ∈ ns := fun i hi => Classical.byContradiction fun z => no ⟨i + 1, by omega, z⟩
  have nd : ((List.range 26).map fun i => cand x o k (i + 1)).Nodup := by
    unfold List.Nodup
    rw [List.pairwise_map]
    refine List.Pairwise.imp_of_mem (fun {a b} ha hb hab e => ?_) (List.nodup_range (n := 26))
    exact hab (cand_inj x o k h (List.mem_range.mp ha) (List.mem_range.mp hb) e)
  have l := HuS.nodup_le nd fun y hy => by
    obtain ⟨i, hi, rfl⟩ := List.mem_map.mp hy
    exact all i (List.mem_range.mp hi)
  rw [List.length_map, List.length_range] at l
  omega
theorem cand_ends (x : Str) (o k : Int) (h : (cs x).length ≤ 8) (ns : List Str) (hn : ns.length ≤ 20) : ∃ m, cand x o k m ∉ ns := by
  have l := cand_len x o k h 8
  have l8 : (cs (cand x o k 8)).length = 8 := by omega
  obtain ⟨m, _, hm⟩ := cand_out (cand x o k 8) (o + 5 * ((8 : Nat) : Int)) k l8 ns hn
  exact ⟨8 + m, by rw [cand_add]; exact hm⟩
def rFind : V → List V → Hp → VK → Prop := fun x xs H Q => ∃ a b, x = .str a ∧ xs = [.str b] ∧ Q (.int (Txt.find a b)) H
section
variable {K : PySem.W.Frag} {σ : L2.St} {H : Hp} {Q : VK} {x y v : V} {ta tb tc te : TE} {t u : TT} {D : Ends} {ts tu tw : TS}
theorem w_new {n : Nat} {R : Addr → Prop} (z : n ≤ sizeLine) (q : ∀ p, H p = none → R p) : n ≤ sizeLine ∧ ∀ p, H p = none → R p := ⟨z, q⟩
theorem w_for {wi : TI} {g : TG} (q : wi σ H fun J H1 => ∃ W : Nat → Nat → L2.St → Hp → Prop, (∃ m, W 0 m σ H1) ∧ ∀ i m σ H, W i m σ H →
    (J.stop i H ∧ D.nx σ H) ∨ (J.go i H ∧ ∃ N : L2.St → Hp → Prop, (∀ σ' H', N σ' H' → ∃ m', m' < m ∧ W (i + 1) m' σ' H') ∧ ∀ x H', J.yld i H x H' → g x σ H' fun σ2 H2 => ts { D with nx := N, ct := N, bk := D.nx } σ2 H2)) : tFor wi g ts D σ H := q
theorem w_rng1 {ta : TA} {R : It → Hp → Prop} (q : ta σ H fun vs H1 => ∃ j : Int, vs = [.int j] ∧ -(2 ^ 62) ≤ j ∧ j < 2 ^ 62 ∧ R (Itr 0 j.toNat) H1) : iRng1 ta σ H R := q
theorem w_iseq {R : It → Hp → Prop} (q : te σ H fun x H1 => ∃ a, x = .ref a ∧ (((∃ xs, SqL K H1 a xs) ∧ R (Itl K a) H1) ∨ ((∃ xs, SqT K H1 a xs) ∧ R (Itt K a) H1))) : iSeq K te σ H R := q
theorem w_isL {a : Addr} {xs : List V} {P1 : Addr → Prop} {P2 : Addr → Prop} (h : SqL K H a xs) (q : P1 a) : ∃ b, V.ref a = .ref b ∧ (((∃ xs, SqL K H b xs) ∧ P1 b) ∨ P2 b) := ⟨a, rfl, .inl ⟨⟨xs, h⟩, q⟩⟩
theorem w_isT {a : Addr} {xs : List V} {P1 : Addr → Prop} {P2 : Addr → Prop} (h : SqT K H a xs) (q : P2 a) : ∃ b, V.ref a = .ref b ∧ (P1 b ∨ ((∃ xs, SqT K H b xs) ∧ P2 b)) := ⟨a, rfl, .inr ⟨⟨xs, h⟩, q⟩⟩
theorem w_inTxt {p : Addr} {z : Str} {xs : List Str} (h : SqL K H p (xs.map V.str)) (q : Q (.bl (decide (z ∈ xs))) H) : rIn2 K false (.str z) (.ref p) H Q := .inl ⟨p, _, rfl, .inl h, rfl, flat_txt xs, by rw [inV_txt]; exact q⟩
theorem w_ninTxt {p : Addr} {z : Str} {xs : List Str} (h : SqL K H p (xs.map V.str)) (q : Q (.bl (!decide (z ∈ xs))) H) : rIn2 K true (.str z) (.ref p) H Q := .inl ⟨p, _, rfl, .inl h, rfl, flat_txt xs, by rw [inV_txt]; exact q⟩
theorem w_inTxtT {p : Addr} {z : Str} {xs : List Str} (h : SqT K H p (xs.map V.str)) (q : Q (.bl (decide (z ∈ xs))) H) : rIn2 K false (.str z) (.ref p) H Q := .inl ⟨p, _, rfl, .inr h, rfl, flat_txt xs, by rw [inV_txt]; exact q⟩
theorem w_tYes {Q : Bool → Hp → Prop} (q : Q true H) : tYes σ H Q := q
theorem w_gN {i : Nat} {Qs : L2.St → Hp → Prop} (q : Qs (σ.set i (some v)) H) : gName i v σ H Qs := q
theorem w_gTup {n : Nat} {t : TGs} {a : Addr} {xs : List V} {Qs : L2.St → Hp → Prop} (h : SqT K H a xs) (l : xs.length = n) (q : t xs σ H Qs) : gTup K n t (.ref a) σ H Qs := ⟨a, xs, rfl, h, l, q⟩
theorem w_gTupN {n : Nat} {t : TGs} {a : Addr} {xs : List V} {Qs : L2.St → Hp → Prop} (l : xs.length = n) (q : t xs σ (upd H a (.tup xs)) Qs) : gTup K n t (.ref a) σ (upd H a (.tup xs)) Qs := ⟨a, xs, rfl, SqT.of upd_same, l, q⟩
theorem w_gCons {t : TG} {u : TGs} {vs : List V} {Qs : L2.St → Hp → Prop} (q : t v σ H fun σ' H' => u vs σ' H' Qs) : gCons t u (v :: vs) σ H Qs := ⟨v, vs, rfl, q⟩
theorem w_gNil {Qs : L2.St → Hp → Prop} (q : Qs σ H) : gNil [] σ H Qs := ⟨rfl, q⟩
theorem w_enum {ta : TA} {R : It → Hp → Prop} (q : ta σ H fun vs H1 => ∃ a xs, vs = [.ref a] ∧ SqL K H1 a xs ∧ R (Ite K a) H1) : iEnum K ta σ H R := q
theorem w_rng2 {ta : TA} {R : It → Hp → Prop} (q : ta σ H fun vs H1 => ∃ i j : Int, vs = [.int i, .int j] ∧ (-(2 ^ 62) ≤ i ∧ i < 2 ^ 62 ∧ -(2 ^ 62) ≤ j ∧ j < 2 ^ 62) ∧ R (Itr i (j - i).toNat) H1) : iRng2 ta σ H R := q
theorem w_isNref {a : Addr} (q : Q (.bl false) H) : rIsN2 false (.ref a) .non H Q := ⟨rfl, q⟩
theorem w_notNref {a : Addr} (q : Q (.bl true) H) : rIsN2 true (.ref a) .non H Q := ⟨rfl, q⟩
theorem w_isNint {i : Int} (q : Q (.bl false) H) : rIsN2 false (.int i) .non H Q := ⟨rfl, q⟩
theorem w_notNint {i : Int} (q : Q (.bl true) H) : rIsN2 true (.int i) .non H Q := ⟨rfl, q⟩
theorem w_isNnon (q : Q (.bl true) H) : rIsN2 false .non .non H Q := ⟨rfl, q⟩
theorem w_notNnon (q : Q (.bl false) H) : rIsN2 true .non .non H Q := ⟨rfl, q⟩
theorem w_dget {td ty : TE} (q : td σ H fun x H1 => ty σ H1 fun y H2 => ∃ a v, x = .ref a ∧ DGet H2 a y (some v) ∧ Q v H2) : tDGet td ty σ H Q := q
theorem w_dput {td ty tv : TE} (q : tv σ H fun v H1 => td σ H1 fun x H2 => ty σ H2 fun y H3 => ∃ a H4, x = .ref a ∧ DPut H3 a y v H4 ∧ D.nx σ H4) : sDPut td ty tv D σ H := q
theorem w_dnew (q : ∀ p, H p = none → Q (.ref p) (upd H p (.dK []))) : tDNewK σ H Q := q
theorem w_dgetAt {a : Addr} {kvs : List (Key × V)} {x : Str} {R : V → Prop} {v : V} (h : H a = some (.dK kvs)) (e : valV kvs (.inr x) = some v) (q : R v) : ∃ b w, V.ref a = .ref b ∧ DGet H b (.str x) (some w) ∧ R w := ⟨a, v, rfl, by rw [← e]; exact DGet.k (k := .inr x) h, q⟩
theorem w_dputAt {a : Addr} {kvs : List (Key × V)} {x : Str} {y : V} {R : Hp → Prop} (h : H a = some (.dK kvs)) (l : kvs.length < sizeLine) (q : R (upd H a (.dK (putK kvs (.inr x) y)))) : ∃ b H4, V.ref a = .ref b ∧ DPut H b (.str x) y H4 ∧ R H4 := ⟨a, _, rfl, DPut.k (k := .inr x) h l, q⟩
theorem w_retN (q : D.rt .non H) : tRetN D σ H := q
theorem w_cont (q : D.ct σ H) : tCont D σ H := q
theorem w_inSg {neg : Bool} {c : Nat} {z : Str} (q : Q (.bl (if neg then !decide (c ∈ cs z) else decide (c ∈ cs z))) H) : rIn2 K neg (.str ⟨#[c]⟩) (.str z) H Q := .inr ⟨c, z, rfl, rfl, q⟩
theorem w_ninTxtT {p : Addr} {z : Str} {xs : List Str} (h : SqT K H p (xs.map V.str)) (q : Q (.bl (!decide (z ∈ xs))) H) : rIn2 K true (.str z) (.ref p) H Q := .inl ⟨p, _, rfl, .inr h, rfl, flat_txt xs, by rw [inV_txt]; exact q⟩
theorem w_isLT {a tp : Addr} {xs : List V} (h : H tp = some (.tup [.ty "list", .ty "tuple"])) (s : SqL K H a xs ∨ SqT K H a xs) (q : Q (.bl true) H) : rIsi2 K [.ref a, .ref tp] H Q := by
  rcases s with s | s
  · exact .inr ⟨_, _, _, _, [.type "list", .type "tuple"], true, rfl, h, .cons (.ty _) (.cons (.ty _) .nil), tyx_l s, rfl, q⟩
  · exact .inr ⟨_, _, _, _, [.type "list", .type "tuple"], true, rfl, h, .cons (.ty _) (.cons (.ty _) .nil), tyx_t s, rfl, q⟩
theorem w_sl {tl th : TO} {r : V → Option Int → Option Int → Hp → VK → Prop} (q : te σ H fun x H1 => tl σ H1 fun l H2 => th σ H2 fun u H3 => r x l u H3 Q) : tSl r te tl th σ H Q := q
theorem w_noP {Q : Option Int → Hp → Prop} (q : Q none H) : tNoPart σ H Q := q
theorem w_part {Q : Option Int → Hp → Prop} (q : te σ H fun x H1 => ∃ i, x = .int i ∧ Q (some i) H1) : tPart te σ H Q := q
theorem w_slS {z : Str} {lo hi : Option Int} (h : z.length ≤ sizeLine) (q : Q (.str (Txt.slice z lo hi)) H) : rSl K (.str z) lo hi H Q := .inr (.inr ⟨z, rfl, h, q⟩)
theorem w_slL {a : Addr} {xs : List V} {lo hi : Option Int} (h : SqL K H a xs) (q : ∀ p, H p = none → Q (.ref p) (upd H p (.lst (cutV xs lo hi)))) : rSl K (.ref a) lo hi H Q := .inl ⟨a, xs, rfl, h, q⟩
theorem w_exI {i : Int} {R : Int → Prop} (q : R i) : ∃ j, V.int i = .int j ∧ R j := ⟨i, rfl, q⟩
theorem w_bm {T : String} {r : V → List V → Hp → VK → Prop} {t : TA} (q : te σ H fun x H1 => tyV K T x H1 ∧ t σ H1 fun xs H2 => r x xs H2 Q) : tBM K T r te t σ H Q := q
theorem w_bmS {z : Str} {R : Prop} (q : R) : tyV K "str" (.str z) H ∧ R := ⟨rfl, q⟩
theorem w_bmL {p : Addr} {xs : List V} {R : Prop} (h : SqL K H p xs) (q : R) : tyV K "list" (.ref p) H ∧ R := ⟨.inl ⟨rfl, xs, h⟩, q⟩
theorem w_find {a b : Str} (q : Q (.int (Txt.find a b)) H) : rFind (.str a) [.str b] H Q := ⟨a, b, rfl, rfl, q⟩
theorem w_bm0 {T : String} {r : V → List V → Hp → VK → Prop} (q : te σ H fun x H1 => tyV K T x H1 ∧ r x [] H1 Q) : tBM0 K T r te σ H Q := q
theorem w_pop {l : Addr} {xs : List V} (h : H l = some (.lst xs)) (e : xs[xs.length - 1]? = some y) (q : Q y (upd H l (.lst xs.dropLast))) : rPop (.ref l) [] H Q := ⟨l, xs, y, rfl, rfl, h, e, q⟩
theorem w_tupL {p : Addr} {xs : List V} (h : SqL K H p xs) (q : ∀ l, H l = none → Q (.ref l) (upd H l (.tup xs))) : rTupO K [.ref p] H Q := ⟨p, xs, rfl, .inl ⟨h, q⟩⟩
theorem w_app {l : Addr} {xs : List V} (h : H l = some (.lst xs)) (z : xs.length < sizeLine) (q : Q .non (upd H l (.lst (xs ++ [y])))) : rAppend (.ref l) [y] H Q := ⟨l, xs, y, rfl, rfl, h, z, q⟩
theorem w_while' {c : TT} (Pv : Nat → L2.St → Hp → Prop) (m0 : Nat) (h0 : Pv m0 σ H)
    (hs : ∀ m σ' H', Pv m σ' H' → c σ' H' fun b H1 => if b = true then ∃ N : L2.St → Hp → Prop, (∀ σ2 H2, N σ2 H2 → ∃ m', m' < m ∧ Pv m' σ2 H2) ∧ ts { D with nx := N, ct := N, bk := D.nx } σ' H1 else D.nx σ' H1) : tWhile c ts D σ H :=
  ⟨Pv, ⟨m0, h0⟩, hs⟩
theorem w_body {m : Nat} {Pv : Nat → L2.St → Hp → Prop} {S : Ends} (h : ts { S with nx := fun σ2 H2 => ∃ m', m' < m ∧ Pv m' σ2 H2, ct := fun σ2 H2 => ∃ m', m' < m ∧ Pv m' σ2 H2, bk := D.nx } σ H) :
    ∃ N : L2.St → Hp → Prop, (∀ σ2 H2, N σ2 H2 → ∃ m', m' < m ∧ Pv m' σ2 H2) ∧ ts { S with nx := N, ct := N, bk := D.nx } σ H := ⟨_, fun _ _ h => h, h⟩
end
local macro_rules | `(tactic| walk_at "sm.") => `(tactic| (refine Same.trans (H1 := ?M) ?a ?b; (case b => with_reducible assumption); (case a => walk_at "sm")))
local macro_rules | `(tactic| walk_at "sm.") => `(tactic| (refine same_mut ?_ (by with_reducible assumption); walk_at "sm"))
local macro_rules | `(tactic| walk_at "sm.") => `(tactic| (refine Same.trans ?_ (same_new (by with_reducible assumption)); walk_at "sm"))
local macro_rules | `(tactic| walk_at "sm.") => `(tactic| exact Same.refl _)
local macro_rules | `(tactic| walk_at "sm.") => `(tactic| with_reducible assumption)
local macro_rules | `(tactic| walk_at "sm") => `(tactic| first | walk_at "sm." | fail)
local macro_rules | `(tactic| walk_at "sq.") => `(tactic| (refine SqT.of (Eq.trans (upd_ne ?n) ?h); (case h => with_reducible assumption); (case n => walk_at "ne")))
local macro_rules | `(tactic| walk_at "sq.") => `(tactic| (refine SqL.of (Eq.trans (upd_ne ?n) ?h); (case h => with_reducible assumption); (case n => walk_at "ne")))
local macro_rules | `(tactic| walk_at "sq.") => `(tactic| exact SqT.of (by with_reducible assumption))
local macro_rules | `(tactic| walk_at "sq.") => `(tactic| exact SqL.of (by with_reducible assumption))
local macro_rules | `(tactic| walk_at "sq.") => `(tactic| exact SqL.of upd_same)
local macro_rules | `(tactic| walk_at "sq.") => `(tactic| exact SqT.of upd_same)
local macro_rules | `(tactic| walk_at "sq.") => `(tactic| (refine same_l (H := ?M) ?e ?h; (case h => with_reducible assumption); (case e => walk_at "sm")))
local macro_rules | `(tactic| walk_at "sq.") => `(tactic| (refine same_t (H := ?M) ?e ?h; (case h => with_reducible assumption); (case e => walk_at "sm")))
local macro_rules | `(tactic| walk_at "sq.") => `(tactic| with_reducible assumption)
local macro_rules | `(tactic| walk_at "sq") => `(tactic| first | walk_at "sq." | fail)
local macro_rules | `(tactic| walk_at "ne.") => `(tactic| exact (ne_of_none (by with_reducible assumption) (by with_reducible assumption)).symm)
local macro_rules | `(tactic| walk_at "ne.") => `(tactic| exact ne_of_none (by with_reducible assumption) (by with_reducible assumption))
local macro_rules | `(tactic| walk_at "ne.") => `(tactic| with_reducible assumption)
local macro_rules | `(tactic| walk_at "ne") => `(tactic| first | walk_at "ne." | fail)
local macro_rules | `(tactic| walk_at "sz.") => `(tactic| (refine sz ?_; first | omega | (simp only [List.length_cons, List.length_nil, List.length_map]; omega) | (simp only [cs_len]; omega)))
local macro_rules | `(tactic| walk_at "sz.") => `(tactic| with_reducible assumption)
local macro_rules | `(tactic| walk_at "sz") => `(tactic| first | walk_at "sz." | fail)
set_option hygiene false in
local macro_rules | `(tactic| walk_at "new") => `(tactic| (refine w_new ?_ (fun p hp => ?_); (walk_at "sz")))
local macro_rules | `(tactic| walk_at "tr.") => `(tactic| exact decide_eq_false (by with_reducible assumption))
local macro_rules | `(tactic| walk_at "tr.") => `(tactic| exact decide_eq_true (by with_reducible assumption))
local macro_rules | `(tactic| walk_at "tr.") => `(tactic| decide +kernel)
local macro_rules | `(tactic| walk_at "tr.") => `(tactic| with_reducible rfl)
local macro_rules | `(tactic| walk_at "tr.") => `(tactic| with_reducible assumption)
local macro_rules | `(tactic| walk_at "tr") => `(tactic| first | walk_at "tr." | fail)
local macro_rules | `(tactic| walk_at "go1.") => `(tactic| with_reducible refine w_tup ?_)
local macro_rules | `(tactic| walk_at "go1.") => `(tactic| with_reducible refine w_lst ?_)
local macro_rules | `(tactic| walk_at "go1.") => `(tactic| ((with_reducible refine w_lenT (xs := ?xs) ?h ?_); (case h => walk_at "sq")))
local macro_rules | `(tactic| walk_at "go1.") => `(tactic| ((with_reducible refine w_lenL (xs := ?xs) ?h ?_); (case h => walk_at "sq")))
local macro_rules | `(tactic| walk_at "go1.") => `(tactic| ((with_reducible refine w_addT ?z ?_); (case z => walk_at "sz")))
local macro_rules | `(tactic| walk_at "go1.") => `(tactic| ((with_reducible refine w_lenS ?z ?_); (case z => walk_at "sz")))
local macro_rules | `(tactic| walk_at "go1.") => `(tactic| ((with_reducible refine w_slS ?z ?_); (case z => walk_at "sz")))
local macro_rules | `(tactic| walk_at "go1.") => `(tactic| with_reducible refine w_find ?_)
local macro_rules | `(tactic| walk_at "go1.") => `(tactic| ((with_reducible refine w_bmL (xs := ?xs) ?h ?_); (case h => walk_at "sq")))
local macro_rules | `(tactic| walk_at "go1.") => `(tactic| with_reducible refine w_bmS ?_)
local macro_rules | `(tactic| walk_at "go1.") => `(tactic| with_reducible refine w_bm0 ?_)
local macro_rules | `(tactic| walk_at "go1.") => `(tactic| with_reducible refine w_bm ?_)
local macro_rules | `(tactic| walk_at "go1.") => `(tactic| with_reducible refine w_exI ?_)
local macro_rules | `(tactic| walk_at "go1.") => `(tactic| with_reducible refine w_part ?_)
local macro_rules | `(tactic| walk_at "go1.") => `(tactic| with_reducible refine w_cont ?_)
local macro_rules | `(tactic| walk_at "go1.") => `(tactic| with_reducible refine w_retN ?_)
local macro_rules | `(tactic| walk_at "go1.") => `(tactic| with_reducible refine w_istr ?_)
local macro_rules | `(tactic| walk_at "go1.") => `(tactic| with_reducible refine w_chain ?_)
local macro_rules | `(tactic| walk_at "go1.") => `(tactic| with_reducible refine w_glt ?_)
local macro_rules | `(tactic| walk_at "go1.") => `(tactic| with_reducible refine w_mk ?_)
local macro_rules | `(tactic| walk_at "go1.") => `(tactic| with_reducible refine w_m ?_)
local macro_rules | `(tactic| walk_at "go1.") => `(tactic| with_reducible refine w_sfld ?_)
local macro_rules | `(tactic| walk_at "go1.") => `(tactic| with_reducible refine w_fld ?_)
local macro_rules | `(tactic| walk_at "go1.") => `(tactic| with_reducible refine w_dnew ?_)
local macro_rules | `(tactic| walk_at "go1.") => `(tactic| with_reducible refine w_dput ?_)
local macro_rules | `(tactic| walk_at "go1.") => `(tactic| with_reducible refine w_dget ?_)
local macro_rules | `(tactic| walk_at "go1.") => `(tactic| with_reducible refine w_notNnon ?_)
local macro_rules | `(tactic| walk_at "go1.") => `(tactic| with_reducible refine w_isNnon ?_)
local macro_rules | `(tactic| walk_at "go1.") => `(tactic| with_reducible refine w_notNint ?_)
local macro_rules | `(tactic| walk_at "go1.") => `(tactic| with_reducible refine w_isNint ?_)
local macro_rules | `(tactic| walk_at "go1.") => `(tactic| with_reducible refine w_notNref ?_)
local macro_rules | `(tactic| walk_at "go1.") => `(tactic| with_reducible refine w_isNref ?_)
local macro_rules | `(tactic| walk_at "go1.") => `(tactic| with_reducible refine w_rng2 ?_)
local macro_rules | `(tactic| walk_at "go1.") => `(tactic| with_reducible refine w_enum ?_)
local macro_rules | `(tactic| walk_at "go1.") => `(tactic| with_reducible refine w_gNil ?_)
local macro_rules | `(tactic| walk_at "go1.") => `(tactic| with_reducible refine w_gCons ?_)
local macro_rules | `(tactic| walk_at "go1.") => `(tactic| ((with_reducible refine w_gTup (xs := ?xs) ?h ?l ?_); (case h => walk_at "sq"); (case l => rfl)))
local macro_rules | `(tactic| walk_at "go1.") => `(tactic| ((with_reducible refine w_gTupN ?l ?_); (case l => rfl)))
local macro_rules | `(tactic| walk_at "go1.") => `(tactic| with_reducible refine w_gN ?_)
local macro_rules | `(tactic| walk_at "go1.") => `(tactic| with_reducible refine w_tYes ?_)
local macro_rules | `(tactic| walk_at "go1.") => `(tactic| with_reducible refine w_noP ?_)
local macro_rules | `(tactic| walk_at "go1.") => `(tactic| with_reducible refine w_sl ?_)
local macro_rules | `(tactic| walk_at "go1.") => `(tactic| with_reducible refine w_iseq ?_)
local macro_rules | `(tactic| walk_at "go1.") => `(tactic| with_reducible refine w_rng1 ?_)
local macro_rules | `(tactic| walk_at "go1.") => `(tactic| with_reducible refine w_for ?_)
local macro_rules | `(tactic| walk_at "go1.") => `(tactic| ((with_reducible refine w_no ?e ?_); (case e => walk_at "tr")))
local macro_rules | `(tactic| walk_at "go1.") => `(tactic| ((with_reducible refine w_yes ?e ?_); (case e => walk_at "tr")))
local macro_rules | `(tactic| walk_at "go1.") => `(tactic| with_reducible refine w_intI ?_)
local macro_rules | `(tactic| walk_at "go1.") => `(tactic| with_reducible refine w_intB ?_)
local macro_rules | `(tactic| walk_at "go1.") => `(tactic| with_reducible refine w_neg ?_)
local macro_rules | `(tactic| walk_at "go1.") => `(tactic| with_reducible refine w_un ?_)
local macro_rules | `(tactic| walk_at "go1.") => `(tactic| with_reducible refine w_notV ?_)
local macro_rules | `(tactic| walk_at "go1.") => `(tactic| with_reducible refine w_orV ?_)
local macro_rules | `(tactic| walk_at "go1.") => `(tactic| with_reducible refine w_andV ?_)
local macro_rules | `(tactic| walk_at "go1.") => `(tactic| with_reducible refine w_not ?_)
local macro_rules | `(tactic| walk_at "go1.") => `(tactic| with_reducible refine w_or ?_)
local macro_rules | `(tactic| walk_at "go1.") => `(tactic| with_reducible refine w_and ?_)
local macro_rules | `(tactic| walk_at "go1.") => `(tactic| with_reducible refine w_ge ?_)
local macro_rules | `(tactic| walk_at "go1.") => `(tactic| with_reducible refine w_gt ?_)
local macro_rules | `(tactic| walk_at "go1.") => `(tactic| with_reducible refine w_le ?_)
local macro_rules | `(tactic| walk_at "go1.") => `(tactic| with_reducible refine w_lt ?_)
local macro_rules | `(tactic| walk_at "go1.") => `(tactic| ((with_reducible refine w_div ?c ?_); (case c => (first | exact ⟨by decide, by decide⟩ | exact ⟨by omega, by omega⟩))))
local macro_rules | `(tactic| walk_at "go1.") => `(tactic| ((with_reducible refine w_mod ?c ?_); (case c => (first | decide | omega))))
local macro_rules | `(tactic| walk_at "go1.") => `(tactic| with_reducible refine w_sub ?_)
local macro_rules | `(tactic| walk_at "go1.") => `(tactic| with_reducible refine w_addI ?_)
local macro_rules | `(tactic| walk_at "go1.") => `(tactic| with_reducible refine w_neS ?_)
local macro_rules | `(tactic| walk_at "go1.") => `(tactic| with_reducible refine w_neI ?_)
local macro_rules | `(tactic| walk_at "go1.") => `(tactic| with_reducible refine w_eqS ?_)
local macro_rules | `(tactic| walk_at "go1.") => `(tactic| with_reducible refine w_eqI ?_)
local macro_rules | `(tactic| walk_at "go1.") => `(tactic| ((with_reducible refine w_ixL (xs := ?xs) (v := ?v) ?h ?e ?_); (case h => walk_at "sq"); (case e => rfl)))
local macro_rules | `(tactic| walk_at "go1.") => `(tactic| ((with_reducible refine w_ixT (xs := ?xs) (v := ?v) ?h ?e ?_); (case h => walk_at "sq"); (case e => rfl)))
local macro_rules | `(tactic| walk_at "go1.") => `(tactic| with_reducible refine w_bl ?_)
local macro_rules | `(tactic| walk_at "go1.") => `(tactic| with_reducible refine w_cb ?_)
local macro_rules | `(tactic| walk_at "go1.") => `(tactic| with_reducible refine w_f ?_)
local macro_rules | `(tactic| walk_at "go1.") => `(tactic| with_reducible refine w_nil ?_)
local macro_rules | `(tactic| walk_at "go1.") => `(tactic| with_reducible refine w_cons ?_)
local macro_rules | `(tactic| walk_at "go1.") => `(tactic| ((with_reducible refine w_var (v := ?v) ?h ?_); (case h => rfl)))
local macro_rules | `(tactic| walk_at "go1.") => `(tactic| with_reducible refine w_c ?_)
local macro_rules | `(tactic| walk_at "go1.") => `(tactic| with_reducible refine w_op ?_)
local macro_rules | `(tactic| walk_at "go1.") => `(tactic| with_reducible refine w_tB ?_)
local macro_rules | `(tactic| walk_at "go1.") => `(tactic| with_reducible refine w_test ?_)
local macro_rules | `(tactic| walk_at "go1.") => `(tactic| with_reducible refine w_drop ?_)
local macro_rules | `(tactic| walk_at "go1.") => `(tactic| with_reducible refine w_next ?_)
local macro_rules | `(tactic| walk_at "go1.") => `(tactic| with_reducible refine w_ret ?_)
local macro_rules | `(tactic| walk_at "go1.") => `(tactic| with_reducible refine w_asgT ?_)
local macro_rules | `(tactic| walk_at "go1.") => `(tactic| with_reducible refine w_asg ?_)
local macro_rules | `(tactic| walk_at "go1.") => `(tactic| with_reducible refine w_if ?_)
local macro_rules | `(tactic| walk_at "go1.") => `(tactic| with_reducible refine w_seq ?_)
local macro_rules | `(tactic| walk_at "go1") => `(tactic| first | walk_at "go1." | fail)
local macro_rules | `(tactic| walk_at "go") => `(tactic| repeat walk_at "go1")
local macro_rules | `(tactic| walk_at "gn") => `(tactic| repeat ((fail_if_success (with_reducible refine w_next ?_)); walk_at "go1"))
local macro_rules | `(tactic| walk_at "sz1") => `(tactic| (simp only [List.length_cons, List.length_nil, List.length_map]; omega))
inductive Sg where
  | add | sub | mul | div | lt | eq
  deriving DecidableEq
def Sg.txt : Sg → Str
  | .add => "+" | .sub => "-" | .mul => "*" | .div => "/" | .lt => "<" | .eq => "="
inductive Fm where
  | num (n : Int)
  | nam (x : Str)
  | op (s : Sg) (a b : Fm)
def Fm.depth : Fm → Nat
  | .num _ => 1
  | .nam _ => 1
  | .op _ a b => max a.depth b.depth + 1
theorem Fm.depth_pos : ∀ f : Fm, 1 ≤ f.depth
  | .num _ => Nat.le_refl _
  | .nam _ => Nat.le_refl _
  | .op _ _ _ => Nat.succ_le_succ (Nat.zero_le _)
inductive FmAt (K : PySem.W.Frag) (H : Hp) : V → Fm → Prop where
  | num {a : Addr} {n : Int} (h : SqT K H a [.str "number", .int n]) : FmAt K H (.ref a) (.num n)
  | nam {a : Addr} {x : Str} (h : SqT K H a [.str "name", .str x]) : FmAt K H (.ref a) (.nam x)
  | op {a : Addr} {s : Sg} {u v : V} {f g : Fm} (h : SqT K H a [.str s.txt, u, v]) (h1 : FmAt K H u f) (h2 : FmAt K H v g) : FmAt K H (.ref a) (.op s f g)
theorem FmAt.mono {K : PySem.W.Frag} {H H' : Hp} (e : Same H H') {v : V} {f : Fm} (h : FmAt K H v f) : FmAt K H' v f := by
  induction h with
  | num h => exact .num (same_t e h)
  | nam h => exact .nam (same_t e h)
  | op h _ _ i1 i2 => exact .op (same_t e h) i1 i2
theorem sg_num (s : Sg) : decide (s.txt = ("number" : Str)) = false := by cases s <;> decide +kernel
theorem sg_nam (s : Sg) : decide (s.txt = ("name" : Str)) = false := by cases s <;> decide +kernel
def Fm.names : Fm → List Str
  | .num _ => []
  | .nam x => [x]
  | .op _ a b => a.names ++ b.names
theorem Fm.names_len : ∀ f : Fm, f.names.length ≤ 2 ^ f.depth
  | .num _ => Nat.zero_le _
  | .nam _ => by show 1 ≤ 2 ^ 1; decide
  | .op _ a b => by
    have h1 := a.names_len
    have h2 := b.names_len
    have h3 : 2 ^ a.depth ≤ 2 ^ max a.depth b.depth := Nat.pow_le_pow_right (by decide) (Nat.le_max_left _ _)
    have h4 : 2 ^ b.depth ≤ 2 ^ max a.depth b.depth := Nat.pow_le_pow_right (by decide) (Nat.le_max_right _ _)
    show (a.names ++ b.names).length ≤ 2 ^ (max a.depth b.depth + 1)
    rw [List.length_append, Nat.pow_succ]
    omega
def Fm.ok (ns : List Str) : Fm → Prop
  | .num n => 0 ≤ n ∧ n < 1000000
  | .nam x => x ∈ ns
  | .op _ a b => a.ok ns ∧ b.ok ns
theorem Fm.ok_mono {ns ms : List Str} (h : ∀ x ∈ ns, x ∈ ms) : ∀ {f : Fm}, f.ok ns → f.ok ms
  | .num _, q => q
  | .nam _, q => h _ q
  | .op _ _ _, q => ⟨Fm.ok_mono h q.1, Fm.ok_mono h q.2⟩
def sp_law_cell_at (K : PySem.W.Frag) : Sp := fun vs H Q _ => ∃ (a : Addr) (ns : List Int) (k : Int), vs = [.ref a, .int k] ∧ SqL K H a (ns.map V.int) ∧ 0 ≤ k ∧ ∀ c : Int, Q (.int c) H
def sp_law_mixed (_ : PySem.W.Frag) : Sp := fun vs H Q _ => ∃ n : Int, vs = [.int n] ∧ ∀ r : Int, 0 ≤ r → r < 2147483647 → Q (.int r) H
def sp_law_name_by (_ : PySem.W.Frag) : Sp := fun vs H Q _ => ∃ n : Int, vs = [.int n] ∧ ∀ x H', Nm x → Same H H' → Q (.str x) H'
def sp_law_twin (_ : PySem.W.Frag) : Sp := fun vs H Q _ => ∃ (x : Str) (n : Int), vs = [.str x, .int n] ∧ Nm x ∧ ∀ y H', Nm y → Same H H' → Q (.str y) H'
structure Ten (ns : List Str) : Prop where
  len : ns.length = 10
  nd : ns.Nodup
  nm : ∀ x ∈ ns, Nm x
def sp_law_names (_ : PySem.W.Frag) : Sp := fun vs H Q _ => ∃ n m : Int, vs = [.int n, .int m] ∧ ∀ p H' ns, Ten ns → Same H H' → H p = none → H' p = some (.lst (ns.map V.str)) → Q (.ref p) H'
def sp_law_end_by (K : PySem.W.Frag) : Sp := fun vs H Q _ => ∃ (n : Int) (a : Addr) (ns : List Str), vs = [.int n, .ref a] ∧ SqL K H a (ns.map V.str) ∧ (∀ x ∈ ns, Nm x) ∧ ns.length ≤ 1000 ∧ ∀ v H' f, FmAt K H' v f → Same H H' → f.ok ns → f.depth = 1 → Q v H'
def sp_law_formula_by (K : PySem.W.Frag) (n : Nat) : Sp := fun vs H Q _ => ∃ (i : Int) (a b : Addr) (ns ms : List Str) (d : Bool) (l : Int), vs = [.int i, .ref a, .ref b, .bl d, .int l] ∧ SqL K H a (ns.map V.str) ∧ SqL K H b (ms.map V.str) ∧
  (∀ x ∈ ns, Nm x) ∧ (∀ x ∈ ms, Nm x) ∧ ns.length ≤ 1000 ∧ ms.length ≤ 1000 ∧ 1 ≤ l ∧ l ≤ n ∧ ∀ v H' f, FmAt K H' v f → Same H H' → f.ok (ns ++ ms) → (f.depth : Int) ≤ l → Q v H'
abbrev N_law_cell_at : List Str := ["_law_script", "_law_k"]
def t_law_cell_at (K : PySem.W.Frag) : TS :=
  (tSeq (tIfS (tTest (tOp rLt (tVar 1) (tCB (rLenA K) (tCons (tVar 0) tNil)))) (tRet (tOp (rIx K) (tVar 0) (tVar 1))) tNext) (tRet (tC (.int 0))))
abbrev N_law_mixed : List Str := ["_law_number"]
def t_law_mixed (K : PySem.W.Frag) : TS :=
  (tRet (tOp rMod (tOp (rAdd K) (tOp rMul (tVar 0) (tC (.int 48271))) (tC (.int 7919))) (tC (.int 2147483647))))
abbrev N_law_name_by : List Str := ["_law_cell", "_law_found", "_law_number", "_law_k"]
def t_law_name_by (K : PySem.W.Frag) : TS :=
  (tSeq (tAsg (tOp (rIx K) (tC (.str "abcdefghijklmnopqrstuvwxyz")) (tOp rMod (tOp rDiv (tVar 0) (tC (.int 8))) (tC (.int 26)))) (gName 1)) (tSeq (tAsg (tVar 0) (gName 2)) (tSeq (tFor (iRng1 (tCons (tOp rMod (tVar 0) (tC (.int 8))) tNil)) (gName 3) (tSeq (tAsg (tF (sp_law_mixed K) (tCons (tVar 2) tNil)) (gName 2)) (tAsg (tOp (rAdd K) (tVar 1) (tOp (rIx K) (tC (.str "abcdefghijklmnopqrstuvwxyz0123456789")) (tOp rMod (tVar 2) (tC (.int 36))))) (gName 1)))) (tSeq (tIfS (tTest (tOp (rIn2 K false) (tVar 1) (tLst (tCons (tC (.str "set")) (tCons (tC (.str "tell")) (tCons (tC (.str "skip")) (tCons (tC (.str "if")) (tCons (tC (.str "else")) (tCons (tC (.str "while")) (tCons (tC (.str "end")) tNil)))))))))) (tRet (tOp (rAdd K) (tVar 1) (tC (.str "0")))) tNext) (tRet (tVar 1))))))
abbrev N_law_twin : List Str := ["_law_name", "_law_cell", "_law_some", "_law_at", "_law_step", "_law_found"]
def t_law_twin (K : PySem.W.Frag) : TS :=
  (tSeq (tAsg (tC (.str "abcdefghijklmnopqrstuvwxyz")) (gName 2)) (tSeq (tAsg (tOp rMod (tVar 1) (tCB (rLenA K) (tCons (tVar 0) tNil))) (gName 3)) (tSeq (tIfS (tTest (tOp rGt (tVar 3) (tC (.int 0)))) (tAsg (tOp (rAdd K) (tVar 2) (tC (.str "0123456789"))) (gName 2)) tNext) (tSeq (tAsg (tOp (rAdd K) (tOp (rAdd K) (tBM K "str" rFind (tVar 2) (tCons (tOp (rIx K) (tVar 0) (tVar 3)) tNil)) (tC (.int 1))) (tOp rMod (tOp rDiv (tVar 1) (tC (.int 8))) (tOp rSub (tCB (rLenA K) (tCons (tVar 2) tNil)) (tC (.int 1))))) (gName 4)) (tSeq (tAsg (tOp (rAdd K) (tOp (rAdd K) (tSl (rSl K) (tVar 0) tNoPart (tPart (tVar 3))) (tOp (rIx K) (tVar 2) (tOp rMod (tVar 4) (tCB (rLenA K) (tCons (tVar 2) tNil))))) (tSl (rSl K) (tVar 0) (tPart (tOp (rAdd K) (tVar 3) (tC (.int 1)))) tNoPart)) (gName 5)) (tSeq (tIfS (tTest (tOp (rIn2 K false) (tVar 5) (tLst (tCons (tC (.str "set")) (tCons (tC (.str "tell")) (tCons (tC (.str "skip")) (tCons (tC (.str "if")) (tCons (tC (.str "else")) (tCons (tC (.str "while")) (tCons (tC (.str "end")) tNil)))))))))) (tRet (tOp (rAdd K) (tVar 5) (tC (.str "0")))) tNext) (tRet (tVar 5))))))))
abbrev N_law_names : List Str := ["_law_one", "_law_other", "_law_names_here", "_law_k", "_law_name"]
def t_law_names (K : PySem.W.Frag) : TS :=
  (tSeq (tAsg (tLst tNil) (gName 2)) (tSeq (tFor (iRng1 (tCons (tC (.int 10)) tNil)) (gName 3) (tSeq (tAsg (tF (sp_law_mixed K) (tCons (tVar 0) tNil)) (gName 0)) (tSeq (tAsg (tF (sp_law_name_by K) (tCons (tOp rDiv (tVar 0) (tC (.int 5))) tNil)) (gName 4)) (tSeq (tIfS (tAnd (tTest (tOp (rEq2 K) (tOp rMod (tVar 3) (tC (.int 2))) (tC (.int 1)))) (tTest (tOp (rEq2 K) (tOp rMod (tOp rDiv (tVar 1) (tC (.int 4))) (tC (.int 2))) (tC (.int 1))))) (tAsg (tF (sp_law_twin K) (tCons (tOp (rIx K) (tVar 2) (tOp rSub (tVar 3) (tC (.int 1)))) (tCons (tF (sp_law_mixed K) (tCons (tOp (rAdd K) (tVar 1) (tVar 3)) tNil)) tNil))) (gName 4)) tNext) (tSeq (tWhile (tOr (tTest (tOp (rIn2 K false) (tVar 4) (tVar 2))) (tTest (tOp (rIn2 K false) (tVar 4) (tLst (tCons (tC (.str "set")) (tCons (tC (.str "tell")) (tCons (tC (.str "skip")) (tCons (tC (.str "if")) (tCons (tC (.str "else")) (tCons (tC (.str "while")) (tCons (tC (.str "end")) tNil))))))))))) (tSeq (tAsg (tOp (rAdd K) (tSl (rSl K) (tVar 4) tNoPart (tPart (tC (.int 7)))) (tOp (rIx K) (tC (.str "abcdefghijklmnopqrstuvwxyz")) (tOp rMod (tOp (rAdd K) (tOp (rAdd K) (tVar 1) (tCB (rLenA K) (tCons (tVar 4) tNil))) (tVar 3)) (tC (.int 26))))) (gName 4)) (tAsg (tOp (rAdd K) (tVar 1) (tC (.int 5))) (gName 1)))) (tDrop (tBM K "list" rAppend (tVar 2) (tCons (tVar 4) tNil)))))))) (tRet (tVar 2))))
abbrev N_law_end_by : List Str := ["_law_number", "_law_names_here"]
def t_law_end_by (K : PySem.W.Frag) : TS :=
  (tSeq (tIfS (tAnd (tTest (tOp (rNe2 K) (tVar 1) (tLst tNil))) (tTest (tOp rGt (tOp rMod (tVar 0) (tC (.int 3))) (tC (.int 0))))) (tRet (tTup (tCons (tC (.str "name")) (tCons (tOp (rIx K) (tVar 1) (tOp rMod (tOp rDiv (tVar 0) (tC (.int 3))) (tCB (rLenA K) (tCons (tVar 1) tNil)))) tNil)))) tNext) (tSeq (tIfS (tTest (tOp (rEq2 K) (tOp rMod (tOp rDiv (tVar 0) (tC (.int 3))) (tC (.int 4))) (tC (.int 0)))) (tRet (tTup (tCons (tC (.str "number")) (tCons (tOp rMod (tOp rDiv (tVar 0) (tC (.int 12))) (tOp rPow (tC (.int 10)) (tC (.int 6)))) tNil)))) tNext) (tRet (tTup (tCons (tC (.str "number")) (tCons (tOp rMod (tOp rDiv (tVar 0) (tC (.int 12))) (tC (.int 5))) tNil))))))
abbrev N_law_formula_by : List Str := ["_law_number", "_law_names_here", "_law_low", "_law_divide", "_law_left", "_law_sign", "_law_one"]
def t_law_formula_by (K : PySem.W.Frag) (n : Nat) : TS :=
  (tSeq (tAsg (tF (sp_law_mixed K) (tCons (tVar 0) tNil)) (gName 0)) (tSeq (tIfS (tOr (tTest (tOp (rEq2 K) (tVar 4) (tC (.int 1)))) (tTest (tOp rLt (tOp rMod (tVar 0) (tC (.int 8))) (tC (.int 3))))) (tRet (tF (sp_law_end_by K) (tCons (tOp rDiv (tVar 0) (tC (.int 8))) (tCons (tVar 1) tNil)))) tNext) (tSeq (tAsg (tOp (rIx K) (tLst (tCons (tC (.str "+")) (tCons (tC (.str "-")) (tCons (tC (.str "*")) (tCons (tC (.str "<")) (tCons (tC (.str "=")) (tCons (tC (.str "+")) (tCons (tC (.str "-")) (tCons (tC (.str "<")) (tCons (tC (.str "/")) (tCons (tC (.str "/")) tNil))))))))))) (tOp rMod (tOp rDiv (tVar 0) (tC (.int 8))) (tOp (rIx K) (tLst (tCons (tC (.int 8)) (tCons (tC (.int 10)) tNil))) (tCB rInt (tCons (tVar 3) tNil))))) (gName 5)) (tSeq (tAsg (tF (sp_law_formula_by K n) (tCons (tOp (rAdd K) (tOp rMul (tVar 0) (tC (.int 3))) (tC (.int 1))) (tCons (tVar 1) (tCons (tVar 2) (tCons (tVar 3) (tCons (tOp rSub (tVar 4) (tC (.int 1))) tNil)))))) (gName 6)) (tSeq (tIfS (tAnd (tTest (tOp (rEq2 K) (tVar 5) (tC (.str "/")))) (tTest (tOp rLt (tOp rMod (tOp rDiv (tVar 0) (tC (.int 80))) (tC (.int 4))) (tC (.int 3))))) (tRet (tTup (tCons (tVar 5) (tCons (tVar 6) (tCons (tTup (tCons (tC (.str "number")) (tCons (tOp (rAdd K) (tC (.int 1)) (tOp rMod (tOp rDiv (tVar 0) (tC (.int 320))) (tC (.int 9)))) tNil))) tNil))))) tNext) (tSeq (tIfS (tTest (tOp (rEq2 K) (tVar 5) (tC (.str "/")))) (tRet (tTup (tCons (tVar 5) (tCons (tVar 6) (tCons (tF (sp_law_formula_by K n) (tCons (tOp (rAdd K) (tOp rMul (tVar 0) (tC (.int 5))) (tC (.int 2))) (tCons (tVar 2) (tCons (tVar 2) (tCons (tVar 3) (tCons (tOp rSub (tVar 4) (tC (.int 1))) tNil)))))) tNil))))) tNext) (tRet (tTup (tCons (tVar 5) (tCons (tVar 6) (tCons (tF (sp_law_formula_by K n) (tCons (tOp (rAdd K) (tOp rMul (tVar 0) (tC (.int 5))) (tC (.int 2))) (tCons (tVar 1) (tCons (tVar 2) (tCons (tVar 3) (tCons (tOp rSub (tVar 4) (tC (.int 1))) tNil)))))) tNil)))))))))))
theorem at_map {α : Type} {f : α → V} {xs : List α} {k : Int} (h0 : 0 ≤ k) (h : k < (xs.length : Int)) : ∃ x, x ∈ xs ∧ xs[k.toNat]? = some x ∧ atI (xs.map f) k = some (f x) := by
  obtain ⟨j, rfl⟩ := Int.eq_ofNat_of_zero_le h0
  have hj : j < xs.length := by omega
  refine ⟨xs[j], List.getElem_mem hj, by rw [Int.toNat_natCast, List.getElem?_eq_getElem hj], atI_nat ?_⟩
  rw [List.getElem?_map, List.getElem?_eq_getElem hj]
  rfl
theorem mod_in (a : Int) {m : Int} (h : 0 < m) : 0 ≤ a % m ∧ a % m < m := ⟨Int.emod_nonneg a (by omega), Int.emod_lt_of_pos a h⟩
theorem pure_law_cell_at (K : PySem.W.Frag) (vs : List V) (H : Hp) (Q : VK) (E : XK) (h : sp_law_cell_at K vs H Q E) :
    t_law_cell_at K { nx := fun _ H' => Q .non H', rt := Q } (start N_law_cell_at vs) H := by
  obtain ⟨a, ns, k, rfl, hS, h0, q⟩ := h
  unfold t_law_cell_at
  walk_at "go"
  refine w_two (fun e => ?_) (fun e => ?_)
  · have e := of_decide_eq_true e
    rw [List.length_map] at e
    obtain ⟨x, _, _, hx⟩ := at_map (f := V.int) h0 e
    walk_at "go"
    exact w_ixL hS hx (q x)
  · walk_at "go"
    exact q 0
theorem pure_law_mixed (K : PySem.W.Frag) (vs : List V) (H : Hp) (Q : VK) (E : XK) (h : sp_law_mixed K vs H Q E) :
    t_law_mixed K { nx := fun _ H' => Q .non H', rt := Q } (start N_law_mixed vs) H := by
  obtain ⟨n, rfl, q⟩ := h
  unfold t_law_mixed
  walk_at "go"
  refine w_mulI (.inr ⟨by decide, by decide⟩) ?_
  walk_at "go"
  have m := mod_in (n * 48271 + 7919) (show (0 : Int) < 2147483647 by decide)
  exact q _ m.1 m.2
theorem len_le {x : Str} {n : Nat} (h : (cs x).length ≤ n) (hn : n ≤ 16000000) : x.length ≤ sizeLine := sz (by rw [cs_len]; omega)
theorem pure_law_name_by (K : PySem.W.Frag) (vs : List V) (H : Hp) (Q : VK) (E : XK) (h : sp_law_name_by K vs H Q E) :
    t_law_name_by K { nx := fun _ H' => Q .non H', rt := Q } (start N_law_name_by vs) H := by
  obtain ⟨n, rfl, q⟩ := h
  unfold t_law_name_by
  have m26 := mod_in (n / 8) (show (0 : Int) < 26 by decide)
  have m8 := mod_in n (show (0 : Int) < 8 by decide)
  walk_at "go"
  refine w_ixS (sz (by decide +kernel)) (az_at m26.1 m26.2) ?_
  walk_at "go"
  refine ⟨_, rfl, by omega, by omega, for_range (lo := 0) (n := (n % 8).toNat) (fun i σ H' => H' = H ∧ ∃ (x : Str) (m : Int) (v : Option V), σ = [some (.int n), some (.str x), some (.int m), v] ∧ Nw x (i + 1))
    ⟨rfl, _, _, _, rfl, Nw.one ⟨by omega, by omega⟩⟩ ?_ ?_⟩
  · rintro i σ H' hi ⟨rfl, x, m, v, rfl, hx⟩
    show tSeq _ _ _ _ _
    walk_at "go"
    refine ⟨_, rfl, fun r r0 r1 => ?_⟩
    have m36 := mod_in r (show (0 : Int) < 36 by decide)
    obtain ⟨c, hc, sc⟩ := az9_at m36.1 m36.2
    walk_at "go"
    refine w_ixS (sz (by decide +kernel)) hc ?_
    refine w_addT (sz (by have := hx.most; rw [cs_len, cs_len, cs_one, List.length_singleton]; omega)) ?_
    exact ⟨rfl, _, _, _, rfl, hx.snoc sc⟩
  · rintro σ H' ⟨rfl, x, m, v, rfl, hx⟩
    have hx8 : Nw x 8 := ⟨hx.pos, by have := hx.most; omega, hx.hd, hx.all⟩
    walk_at "go"
    walk_at "new"
    refine w_inTxt (xs := words) (SqL.of upd_same) ?_
    walk_at "go"
    refine w_two (fun e => ?_) (fun e => ?_)
    · walk_at "go"
      refine w_addT (sz (by have := hx8.most; have : (cs ("0" : Str)).length = 1 := by decide +kernel
                            rw [cs_len, cs_len]; omega)) ?_
      exact q _ _ (hx.zero (of_decide_eq_true e)) (by walk_at "sm")
    · walk_at "go"
      exact q _ _ (hx8.nm (of_decide_eq_false e)) (by walk_at "sm")
theorem sgn_of_az {i : Int} (h0 : 0 ≤ i) (h : i < 26) : ∃ c, atI (cs az) i = some c ∧ IsSgn c ∧ IsLet c := ⟨_, az_at h0 h, .inl ⟨by omega, by omega⟩, ⟨by omega, by omega⟩⟩
theorem pure_law_twin (K : PySem.W.Frag) (vs : List V) (H : Hp) (Q : VK) (E : XK) (h : sp_law_twin K vs H Q E) :
    t_law_twin K { nx := fun _ H' => Q .non H', rt := Q } (start N_law_twin vs) H := by
  obtain ⟨x, n, rfl, hx, q⟩ := h
  unfold t_law_twin
  have l8 := hx.most
  have l1 := hx.pos
  have lx : x.length = (cs x).length := cs_len x
  walk_at "go"
  have ma := mod_in n (show (0 : Int) < ((x.length : Nat) : Int) by omega)
  generalize hat : n % ((x.length : Nat) : Int) = a at ma ⊢
  have key : ∀ (z : Str) (m : Int), (z = az ∧ m = 26) ∨ (z = az ++ n09 ∧ m = 36 ∧ 0 < a) → ∀ H1, H1 = H → ((z.length : Nat) : Int) = m ∧ z.length ≤ sizeLine ∧ ∀ i : Int, 0 ≤ i → i < m → ∃ c, atI (cs z) i = some c ∧ IsSgn c ∧ (a = 0 → IsLet c) := by
    rintro z m (⟨rfl, rfl⟩ | ⟨rfl, rfl, hp⟩) H1 _
    · refine ⟨by rw [cs_len, az_cs] <;> rfl, sz (by decide +kernel), fun i h0 h1 => ?_⟩
      obtain ⟨c, h2, h3, h4⟩ := sgn_of_az h0 h1
      exact ⟨c, h2, h3, fun _ => h4⟩
    · rw [← az9_eq]
      refine ⟨by rw [cs_len, az9_cs]; simp, sz (by decide +kernel), fun i h0 h1 => ?_⟩
      obtain ⟨c, h2, h3⟩ := az9_at h0 h1
      exact ⟨c, h2, h3, fun z => by omega⟩
  have obt : ∃ c, atI (cs x) a = some c := by
    obtain ⟨j, rfl⟩ := Int.eq_ofNat_of_zero_le ma.1
    have hj : j < (cs x).length := by omega
    exact ⟨_, atI_nat (List.getElem?_eq_getElem hj)⟩
  obtain ⟨c0, hc0⟩ := obt
  have rest : ∀ (z : Str) (m : Int), (z = az ∧ m = 26) ∨ (z = az ++ n09 ∧ m = 36 ∧ 0 < a) →
      (tSeq (tAsg (tOp (rAdd K) (tOp (rAdd K) (tBM K "str" rFind (tVar 2) (tCons (tOp (rIx K) (tVar 0) (tVar 3)) tNil)) (tC (.int 1))) (tOp rMod (tOp rDiv (tVar 1) (tC (.int 8))) (tOp rSub (tCB (rLenA K) (tCons (tVar 2) tNil)) (tC (.int 1))))) (gName 4)) (tSeq (tAsg (tOp (rAdd K) (tOp (rAdd K) (tSl (rSl K) (tVar 0) tNoPart (tPart (tVar 3))) (tOp (rIx K) (tVar 2) (tOp rMod (tVar 4) (tCB (rLenA K) (tCons (tVar 2) tNil))))) (tSl (rSl K) (tVar 0) (tPart (tOp (rAdd K) (tVar 3) (tC (.int 1)))) tNoPart)) (gName 5)) (tSeq (tIfS (tTest (tOp (rIn2 K false) (tVar 5) (tLst (tCons (tC (.str "set")) (tCons (tC (.str "tell")) (tCons (tC (.str "skip")) (tCons (tC (.str "if")) (tCons (tC (.str "else")) (tCons (tC (.str "while")) (tCons (tC (.str "end")) tNil)))))))))) (tRet (tOp (rAdd K) (tVar 5) (tC (.str "0")))) tNext) (tRet (tVar 5)))))
        { nx := fun _ H' => Q .non H', rt := Q } [some (.str x), some (.int n), some (.str z), some (.int a), none, none] H := by
    intro z m hz
    obtain ⟨k1, k2, k3⟩ := key z m hz H rfl
    have mp : 0 < m := by rcases hz with ⟨_, rfl⟩ | ⟨_, rfl, _⟩ <;> decide
    have m1 : 1 < m := by rcases hz with ⟨_, rfl⟩ | ⟨_, rfl, _⟩ <;> decide
    walk_at "go"
    refine w_ixS (len_le l8 (by decide)) hc0 ?_
    walk_at "go"
    rw [k1]
    walk_at "go"
    generalize hst : (Txt.find z ⟨#[c0]⟩ + 1 + n / 8 % (m - 1)) % m = st
    have ms := mod_in (Txt.find z ⟨#[c0]⟩ + 1 + n / 8 % (m - 1)) mp
    rw [hst] at ms
    obtain ⟨c, hc, sc, lc⟩ := k3 st ms.1 ms.2
    refine w_ixS k2 hc ?_
    obtain ⟨j, hj⟩ := Int.eq_ofNat_of_zero_le ma.1
    have hjl : j < (cs x).length := by omega
    have sw := Nw.swap (c := c) hx.nw' hjl sc (fun z => lc (by omega))
    have e0 : (cs (Txt.slice x none (some a))).length ≤ 8 := by rw [cs_slTo ma.1, List.length_take]; omega
    have e1 : (cs (Txt.slice x (some (a + 1)) none)).length ≤ 8 := by rw [cs_slFrom (by omega), List.length_drop]; omega
    refine w_addT (sz (by rw [cs_len, cs_len, cs_one, List.length_singleton]; omega)) ?_
    walk_at "go"
    subst hj
    refine w_addT (sz (by rw [cs_len, cs_len, cs_app, List.length_append, cs_one, List.length_singleton]; omega)) ?_
    walk_at "go"
    walk_at "new"
    refine w_inTxt (xs := words) (SqL.of upd_same) ?_
    walk_at "go"
    refine w_two (fun e => ?_) (fun e => ?_)
    · walk_at "go"
      refine w_addT (sz (by have := sw.most; have : (cs ("0" : Str)).length = 1 := by decide +kernel
                            rw [cs_len, cs_len]; omega)) ?_
      exact q _ _ (sw.zero (of_decide_eq_true e)) (by walk_at "sm")
    · walk_at "go"
      exact q _ _ (sw.nm (of_decide_eq_false e)) (by walk_at "sm")
  refine w_two (fun e => ?_) (fun e => ?_)
  · have e := of_decide_eq_true e
    walk_at "go"
    refine w_addT (sz (by decide +kernel)) ?_
    exact rest _ 36 (.inr ⟨rfl, rfl, e⟩)
  · refine w_next ?_
    exact rest az 26 (.inl ⟨rfl, rfl⟩)
abbrev tNmW (K : PySem.W.Frag) : TS := (tWhile (tOr (tTest (tOp (rIn2 K false) (tVar 4) (tVar 2))) (tTest (tOp (rIn2 K false) (tVar 4) (tLst (tCons (tC (.str "set")) (tCons (tC (.str "tell")) (tCons (tC (.str "skip")) (tCons (tC (.str "if")) (tCons (tC (.str "else")) (tCons (tC (.str "while")) (tCons (tC (.str "end")) tNil))))))))))) (tSeq (tAsg (tOp (rAdd K) (tSl (rSl K) (tVar 4) tNoPart (tPart (tC (.int 7)))) (tOp (rIx K) (tC (.str "abcdefghijklmnopqrstuvwxyz")) (tOp rMod (tOp (rAdd K) (tOp (rAdd K) (tVar 1) (tCB (rLenA K) (tCons (tVar 4) tNil))) (tVar 3)) (tC (.int 26))))) (gName 4)) (tAsg (tOp (rAdd K) (tVar 1) (tC (.int 5))) (gName 1))))
abbrev tNmB (K : PySem.W.Frag) : TS := (tSeq (tAsg (tOp (rAdd K) (tSl (rSl K) (tVar 4) tNoPart (tPart (tC (.int 7)))) (tOp (rIx K) (tC (.str "abcdefghijklmnopqrstuvwxyz")) (tOp rMod (tOp (rAdd K) (tOp (rAdd K) (tVar 1) (tCB (rLenA K) (tCons (tVar 4) tNil))) (tVar 3)) (tC (.int 26))))) (gName 4)) (tAsg (tOp (rAdd K) (tVar 1) (tC (.int 5))) (gName 1)))
abbrev tNmA (K : PySem.W.Frag) : TS := (tDrop (tBM K "list" rAppend (tVar 2) (tCons (tVar 4) tNil)))
def PN (H : Hp) (p : Addr) (i : Nat) : L2.St → Hp → Prop := fun σ H' => Same H H' ∧ ∃ (a b : Int) (ns : List Str) (v w : Option V), σ = [some (.int a), some (.int b), some (.ref p), v, w] ∧ ns.length = i ∧ ns.Nodup ∧ (∀ x ∈ ns, Nm x) ∧ H' p = some (.lst (ns.map V.str))
abbrev DN (H : Hp) (Q : VK) (p : Addr) (i : Nat) : Ends := ⟨PN H p (i + 1), Q, tRet (tVar 2) { nx := fun _ H' => Q .non H', rt := Q }, PN H p (i + 1)⟩
theorem pure_law_names (K : PySem.W.Frag) (vs : List V) (H : Hp) (Q : VK) (E : XK) (h : sp_law_names K vs H Q E) :
    t_law_names K { nx := fun _ H' => Q .non H', rt := Q } (start N_law_names vs) H := by
  obtain ⟨n, m, rfl, q⟩ := h
  unfold t_law_names
  walk_at "go"
  refine w_new (by decide) (fun p hp => ?_)
  walk_at "go"
  refine ⟨_, rfl, by decide, by decide, for_range (lo := 0) (n := 10) (PN H p)
    ⟨by walk_at "sm", _, _, [], _, _, rfl, rfl, List.nodup_nil, (fun x hx => nomatch hx), upd_same⟩ ?_ ?_⟩
  · rintro i σ H1 hi ⟨e1, a, b, ns, v, w, rfl, hl, hd, hN, hL⟩
    show tSeq _ _ _ _ _
    walk_at "go"
    refine ⟨_, rfl, fun r _ _ => ?_⟩
    walk_at "go"
    refine ⟨_, rfl, fun x H2 hx e2 => ?_⟩
    have hL2 := e2 _ _ hL
    walk_at "go"
    -- the twin or not
    have two : ∀ (x : Str) (H2 : Hp), Nm x → Same H1 H2 → tSeq (tNmW K) (tNmA K) (DN H Q p i) [some (.int r), some (.int b), some (.ref p), some (.int (0 + (i : Int))), some (.str x)] H2 := by
      intro x H2 hx e2
      obtain ⟨m0, hm0⟩ := cand_ends x b (0 + (i : Int)) hx.most (ns ++ words) (by rw [List.length_append]; have : words.length = 7 := rfl; omega)
      walk_at "go"
      refine w_while' (fun m σ' H' => Same H1 H' ∧ ∃ (o : Int) (y : Str), σ' = [some (.int r), some (.int o), some (.ref p), some (.int (0 + (i : Int))), some (.str y)] ∧ Nw y 8 ∧ cand y o (0 + (i : Int)) m ∉ ns ++ words) m0 ⟨e2, _, _, rfl, hx.nw', hm0⟩ ?_
      rintro m σ' H' ⟨e3, o, y, rfl, hy, hm⟩
      have hL3 := e3 _ _ hL
      have body : ∀ H4, Same H1 H4 → y ∈ ns ++ words → ∃ N : L2.St → Hp → Prop, (∀ σ2 H2, N σ2 H2 → ∃ m', m' < m ∧ Same H1 H2 ∧ ∃ (o : Int) (y : Str), σ2 = [some (.int r), some (.int o), some (.ref p), some (.int (0 + (i : Int))), some (.str y)] ∧ Nw y 8 ∧ cand y o (0 + (i : Int)) m' ∉ ns ++ words) ∧
          tNmB K ⟨N, Q, tNmA K (DN H Q p i), N⟩
            [some (.int r), some (.int o), some (.ref p), some (.int (0 + (i : Int))), some (.str y)] H4 := by
        intro H4 e4 hin
        cases m with
        | zero => exact absurd hin hm
        | succ m =>
          refine ⟨_, fun σ2 H2 h => h, ?_⟩
          have m26 := mod_in (o + ((y.length : Nat) : Int) + (0 + (i : Int))) (show (0 : Int) < 26 by decide)
          have hy8 := hy.most
          walk_at "go"
          refine w_ixS (sz (by decide +kernel)) (az_at m26.1 m26.2) ?_
          have e0 : (cs (Txt.slice y none (some 7))).length ≤ 8 := by rw [cs_slTo (by decide), List.length_take]; omega
          refine w_addT (sz (by rw [cs_len, cs_len, cs_one, List.length_singleton]; omega)) ?_
          walk_at "go"
          exact ⟨m, Nat.lt_succ_self _, e4, _, _, rfl, hy.cut ⟨by omega, by omega⟩, by rw [cand_succ] at hm; exact hm⟩
      walk_at "go"
      refine w_inTxt (SqL.of hL3) ?_
      walk_at "go"
      refine w_two (fun e => ?_) (fun e => ?_)
      · walk_at "go"
        exact body H' e3 (List.mem_append_left _ (of_decide_eq_true e))
      · have n1 := of_decide_eq_false e
        walk_at "go"
        refine w_new (by decide) (fun r2 hr2 => ?_)
        refine w_inTxt (xs := words) (SqL.of upd_same) ?_
        walk_at "go"
        refine w_two (fun e => ?_) (fun e => ?_)
        · exact body _ (by walk_at "sm") (List.mem_append_right _ (of_decide_eq_true e))
        · have n2 := of_decide_eq_false e
          have nm := hy.nm n2
          have ne : p ≠ r2 := ne_of_none hL3 hr2
          walk_at "go"
          refine w_app (xs := ns.map V.str) (by rw [upd_ne ne]; exact hL3) (Nat.lt_of_le_of_lt (by rw [List.length_map]; omega : _ ≤ 1000) (by decide)) ?_
          refine ⟨same_mut (e1.trans (e3.trans (same_new hr2))) hp, r, o, ns ++ [y], _, _, rfl, by rw [List.length_append, hl] <;> rfl, ?_, ?_, ?_⟩
          · rw [List.nodup_append]
            exact ⟨hd, (List.nodup_cons.mpr ⟨List.not_mem_nil, List.nodup_nil⟩), fun u hu w hw => by rw [List.mem_singleton.mp hw]; exact fun e => n1 (e ▸ hu)⟩
          · intro u hu
            rcases List.mem_append.mp hu with hu | hu
            · exact hN u hu
            · rw [List.mem_singleton.mp hu]; exact nm
          · rw [upd_same, List.map_append] <;> rfl
    refine w_two (fun e => ?_) (fun e => ?_)
    · walk_at "go"
      refine w_two (fun e' => ?_) (fun e' => ?_)
      · have e := of_decide_eq_true e
        have ip : 0 < i := by omega
        obtain ⟨y, ym, _, hy⟩ := at_map (f := V.str) (xs := ns) (k := 0 + (i : Int) - 1) (by omega) (by omega)
        walk_at "go"
        refine w_ixL (SqL.of hL2) hy ?_
        walk_at "go"
        refine ⟨_, rfl, fun r' _ _ => ?_⟩
        refine ⟨_, _, rfl, hN y ym, fun x' H3 hx' e3 => ?_⟩
        exact two x' H3 hx' (e2.trans e3)
      · walk_at "go"
        exact two x H2 hx e2
    · walk_at "go"
      exact two x H2 hx e2
  · rintro σ H1 ⟨e1, a, b, ns, v, w, rfl, hl, hd, hN, hL⟩
    walk_at "go"
    exact q p H1 ns ⟨hl, hd, hN⟩ e1 hp hL
theorem ok_txt {x : Str} (h : Nm x) : PyData.strOk x = true := by
  unfold PyData.strOk
  rw [← Array.all_toList, List.all_eq_true]
  intro c hc
  have := h.all c hc
  unfold IsSgn at this
  exact decide_eq_true (by omega)
theorem shaped_txts {xs : List Str} (h : ∀ x ∈ xs, PyData.strOk x = true) : SeqAt.shaped (.list (xs.map PyData.str)) = true := by
  have c : ∀ xs : List Str, (∀ x ∈ xs, PyData.strOk x = true) → PyData.canLayAll0 (xs.map PyData.str) = true := by
    intro xs
    induction xs with
    | nil => intro _; rfl
    | cons x r ih =>
      intro h
      show (PyData.strOk x && PyData.canLayAll0 (r.map PyData.str)) = true
      rw [h x List.mem_cons_self, ih fun y hy => h y (List.mem_cons_of_mem _ hy)] <;> rfl
  have d : ∀ xs : List Str, PyData.depthAll (xs.map PyData.str) = 0 := by
    intro xs
    induction xs with
    | nil => rfl
    | cons x r ih =>
      show max 0 (PyData.depthAll (r.map PyData.str)) = 0
      rw [ih] <;> rfl
  unfold SeqAt.shaped
  rw [Bool.and_eq_true]
  refine ⟨c xs h, decide_eq_true ?_⟩
  show PyData.depthAll (xs.map PyData.str) + 1 ≤ 64
  rw [d] <;> decide
theorem dp_txts {K : PySem.W.Frag} {H : Hp} : ∀ (xs : List Str), DpAll K H (xs.map V.str) (xs.map PyData.str)
  | [] => .nil
  | x :: r => .cons (.str x) (dp_txts r)
theorem eqv_txts : ∀ xs ys : List Str, PyData.eqvAll (xs.map .str) (ys.map .str) = decide (xs = ys)
  | [], [] => rfl
  | [], _ :: _ => rfl
  | _ :: _, [] => rfl
  | x :: r, y :: t => by
    show ((x == y) && PyData.eqvAll (r.map .str) (t.map .str)) = _
    rw [eqv_txts r t]
    by_cases e : x = y
    · subst e; by_cases e2 : r = t <;> simp [e2]
    · simp [e]
theorem w_eqTxt {K : PySem.W.Frag} {H : Hp} {Q : VK} {a b : Addr} {xs ys : List Str} (ha : SqL K H a (xs.map V.str)) (hb : SqL K H b (ys.map V.str)) (ox : ∀ x ∈ xs, PyData.strOk x = true) (oy : ∀ x ∈ ys, PyData.strOk x = true) (q : Q (.bl (decide (xs = ys))) H) : rEq2 K (.ref a) (.ref b) H Q :=
  w_eqD (.lst ha (dp_txts xs)) (.lst hb (dp_txts ys)) (shaped_txts ox) (shaped_txts oy) (by rw [show PyData.eqv (.list (xs.map .str)) (.list (ys.map .str)) = _ from eqv_txts xs ys]; exact q)
theorem w_neTxt {K : PySem.W.Frag} {H : Hp} {Q : VK} {a b : Addr} {xs ys : List Str} (ha : SqL K H a (xs.map V.str)) (hb : SqL K H b (ys.map V.str)) (ox : ∀ x ∈ xs, PyData.strOk x = true) (oy : ∀ x ∈ ys, PyData.strOk x = true) (q : Q (.bl (!decide (xs = ys))) H) : rNe2 K (.ref a) (.ref b) H Q :=
  w_neD (.lst ha (dp_txts xs)) (.lst hb (dp_txts ys)) (shaped_txts ox) (shaped_txts oy) (by rw [show PyData.eqv (.list (xs.map .str)) (.list (ys.map .str)) = _ from eqv_txts xs ys]; exact q)
theorem pure_law_end_by (K : PySem.W.Frag) (vs : List V) (H : Hp) (Q : VK) (E : XK) (h : sp_law_end_by K vs H Q E) :
    t_law_end_by K { nx := fun _ H' => Q .non H', rt := Q } (start N_law_end_by vs) H := by
  obtain ⟨n, a, ns, rfl, hS, hN, hl, q⟩ := h
  unfold t_law_end_by
  have m3 := mod_in n (show (0 : Int) < 3 by decide)
  have num : ∀ (H1 : Hp) (i : Int), Same H H1 → 0 ≤ i → i < 1000000 → [V.str "number", V.int i].length ≤ sizeLine ∧ ∀ p, H1 p = none → Q (.ref p) (upd H1 p (.tup [.str "number", .int i])) := fun H1 i e h0 h1 =>
    ⟨by walk_at "sz", fun p hp => q _ _ (.num i) (.num (SqT.of upd_same)) (e.trans (same_new hp)) ⟨h0, h1⟩ rfl⟩
  have rest : ∀ H1, Same H H1 → (tSeq (tIfS (tTest (tOp (rEq2 K) (tOp rMod (tOp rDiv (tVar 0) (tC (.int 3))) (tC (.int 4))) (tC (.int 0)))) (tRet (tTup (tCons (tC (.str "number")) (tCons (tOp rMod (tOp rDiv (tVar 0) (tC (.int 12))) (tOp rPow (tC (.int 10)) (tC (.int 6)))) tNil)))) tNext) (tRet (tTup (tCons (tC (.str "number")) (tCons (tOp rMod (tOp rDiv (tVar 0) (tC (.int 12))) (tC (.int 5))) tNil)))))
      { nx := fun _ H' => Q .non H', rt := Q } (start N_law_end_by [.int n, .ref a]) H1 := by
    intro H1 e
    walk_at "go"
    refine w_two (fun _ => ?_) (fun _ => ?_)
    · walk_at "go"
      refine w_pow ⟨by decide, by decide, by decide⟩ ?_
      refine w_mod (by decide) ?_
      walk_at "go"
      have m := mod_in (n / 12) (show (0 : Int) < 10 ^ (6 : Int).toNat by decide)
      exact num H1 _ e m.1 (Int.lt_of_lt_of_le m.2 (by decide))
    · walk_at "go"
      have m := mod_in (n / 12) (show (0 : Int) < 5 by decide)
      exact num H1 _ e m.1 (by omega)
  walk_at "go"
  refine w_new (by walk_at "sz") (fun p hp => ?_)
  refine w_neTxt (xs := ns) (ys := []) (same_l (same_new hp) hS) (SqL.of upd_same) (fun x hx => ok_txt (hN x hx)) (fun x hx => nomatch hx) ?_
  walk_at "go"
  refine w_two (fun e1 => ?_) (fun e1 => ?_)
  · walk_at "go"
    refine w_two (fun e2 => ?_) (fun e2 => ?_)
    · have ne : ns ≠ [] := by simpa using e1
      have pos : 0 < ns.length := List.length_pos_iff.mpr ne
      walk_at "go"
      rw [List.length_map]
      refine w_mod (by omega) ?_
      have m := mod_in (n / 3) (show (0 : Int) < ((ns.length : Nat) : Int) by omega)
      obtain ⟨x, xm, _, hx⟩ := at_map (f := V.str) (xs := ns) m.1 m.2
      refine w_ixL (same_l (same_new hp) hS) hx ?_
      walk_at "go"
      exact ⟨by walk_at "sz", fun r hr => q _ _ (.nam x) (.nam (SqT.of upd_same)) ((same_new hp).trans (same_new hr)) xm rfl⟩
    · walk_at "gn"
      exact rest _ (same_new hp)
  · walk_at "gn"
    exact rest _ (same_new hp)
theorem sg_div (s : Sg) : decide (s.txt = ("/" : Str)) = decide (s = .div) := by cases s <;> decide +kernel
theorem no_law_formula_by {K : PySem.W.Frag} : ∀ vs H Q E, ¬ sp_law_formula_by K 0 vs H Q E := by
  rintro vs H Q E ⟨i, a, b, ns, ms, d, l, _, _, _, _, _, _, _, h1, h2, _⟩
  omega
theorem pure_law_formula_by (K : PySem.W.Frag) (n : Nat) (vs : List V) (H : Hp) (Q : VK) (E : XK) (h : sp_law_formula_by K (n + 1) vs H Q E) :
    t_law_formula_by K n { nx := fun _ H' => Q .non H', rt := Q } (start N_law_formula_by vs) H := by
  obtain ⟨i, a, b, ns, ms, d, l, rfl, hS, hT, hN, hM, hl, hm, h1, h2, q⟩ := h
  unfold t_law_formula_by
  walk_at "go"
  refine ⟨_, rfl, fun r r0 r1 => ?_⟩
  have endby : ∀ H1, Same H H1 → sp_law_end_by K [.int (r / 8), .ref a] H1 Q E0 := by
    intro H1 e
    exact ⟨_, _, ns, rfl, same_l e hS, hN, hl, fun v H' f hf e' ho hd => q v H' f hf (e.trans e') (Fm.ok_mono (fun x hx => List.mem_append_left _ hx) ho) (by omega)⟩
  walk_at "go"
  refine w_two (fun e1 => ?_) (fun e1 => ?_)
  · walk_at "go"
    exact endby H (Same.refl H)
  · walk_at "go"
    refine w_two (fun e2 => ?_) (fun e2 => ?_)
    · walk_at "go"
      exact endby H (Same.refl H)
    · have e1 := of_decide_eq_false e1
      walk_at "go"
      refine w_new (by walk_at "sz") (fun p hp => ?_)
      walk_at "go"
      refine w_new (by walk_at "sz") (fun p2 hp2 => ?_)
      walk_at "go"
      have hd2 : atI [V.int 8, V.int 10] (if d then 1 else 0) = some (.int (if d then 10 else 8)) := by cases d <;> rfl
      refine w_ixL (SqL.of upd_same) hd2 ?_
      have m := mod_in (r / 8) (show (0 : Int) < (if d then 10 else 8) by cases d <;> decide)
      refine w_mod (by cases d <;> decide) ?_
      have m10 : r / 8 % (if d then 10 else 8) < 10 := by
        cases d
        · exact Int.lt_trans m.2 (by decide)
        · exact m.2
      generalize hx : r / 8 % (if d then 10 else 8) = x at m m10 ⊢
      have np : p ≠ p2 := ne_of_none upd_same hp2
      obtain ⟨z, zm, _, hz⟩ := at_map (f := fun s : Sg => V.str s.txt) (xs := [.add, .sub, .mul, .lt, .eq, .add, .sub, .lt, .div, .div]) (k := x) m.1 m10
      refine w_ixL (SqL.of ((upd_ne np).trans upd_same)) hz ?_
      have e0 : Same H (upd (upd H p (.lst [.str "+", .str "-", .str "*", .str "<", .str "=", .str "+", .str "-", .str "<", .str "/", .str "/"])) p2 (.lst [.int 8, .int 10])) := (same_new hp).trans (same_new hp2)
      generalize (upd (upd H p (.lst [.str "+", .str "-", .str "*", .str "<", .str "=", .str "+", .str "-", .str "<", .str "/", .str "/"])) p2 (.lst [.int 8, .int 10])) = H0 at e0 ⊢
      walk_at "go"
      refine w_mulI (.inr ⟨by decide, by decide⟩) ?_
      walk_at "go"
      refine ⟨_, a, b, ns, ms, d, _, rfl, same_l e0 hS, same_l e0 hT, hN, hM, hl, hm, by omega, by omega, fun u H1 f hf e3 of df => ?_⟩
      walk_at "go"
      rw [sg_div]
      have last : ∀ (H2 : Hp) (w : V) (g : Fm), Same H1 H2 → FmAt K H2 w g → g.ok (ns ++ ms) → (g.depth : Int) ≤ l - 1 → [V.str z.txt, u, w].length ≤ sizeLine ∧ ∀ p, H2 p = none → Q (.ref p) (upd H2 p (.tup [.str z.txt, u, w])) := fun H2 w g e4 hg og dg =>
        ⟨by walk_at "sz", fun p hp => q _ _ (.op z f g) (.op (SqT.of upd_same) (hf.mono (e4.trans (same_new hp))) (hg.mono (same_new hp))) (((e0.trans e3).trans e4).trans (same_new hp)) ⟨of, og⟩ (by simp only [Fm.depth]; omega)⟩
      have again : ∀ c : Addr, (c = a ∨ c = b) → ∀ i' : Int, sp_law_formula_by K n [.int i', .ref c, .ref b, .bl d, .int (l - 1)] H1 (fun w H2 => [V.str z.txt, u, w].length ≤ sizeLine ∧ ∀ p, H2 p = none → Q (.ref p) (upd H2 p (.tup [.str z.txt, u, w]))) E0 := by
        rintro c (rfl | rfl) i'
        · exact ⟨_, c, b, ns, ms, d, _, rfl, same_l (e0.trans e3) hS, same_l (e0.trans e3) hT, hN, hM, hl, hm, by omega, by omega, fun w H2 g hg e4 og dg => last H2 w g e4 hg og dg⟩
        · exact ⟨_, c, c, ms, ms, d, _, rfl, same_l (e0.trans e3) hT, same_l (e0.trans e3) hT, hM, hM, hm, hm, by omega, by omega, fun w H2 g hg e4 og dg => last H2 w g e4 hg (Fm.ok_mono (fun x hx => List.mem_append_right _ (by simpa using hx)) og) dg⟩
      have tail : (tSeq (tIfS (tTest (tOp (rEq2 K) (tVar 5) (tC (.str "/")))) (tRet (tTup (tCons (tVar 5) (tCons (tVar 6) (tCons (tF (sp_law_formula_by K n) (tCons (tOp (rAdd K) (tOp rMul (tVar 0) (tC (.int 5))) (tC (.int 2))) (tCons (tVar 2) (tCons (tVar 2) (tCons (tVar 3) (tCons (tOp rSub (tVar 4) (tC (.int 1))) tNil)))))) tNil))))) tNext) (tRet (tTup (tCons (tVar 5) (tCons (tVar 6) (tCons (tF (sp_law_formula_by K n) (tCons (tOp (rAdd K) (tOp rMul (tVar 0) (tC (.int 5))) (tC (.int 2))) (tCons (tVar 1) (tCons (tVar 2) (tCons (tVar 3) (tCons (tOp rSub (tVar 4) (tC (.int 1))) tNil)))))) tNil))))))
          { nx := fun _ H' => Q .non H', rt := Q } [some (.int r), some (.ref a), some (.ref b), some (.bl d), some (.int l), some (.str z.txt), some u] H1 := by
        walk_at "go"
        rw [sg_div]
        refine w_two (fun _ => ?_) (fun _ => ?_)
        · walk_at "go"
          refine w_mulI (.inr ⟨by decide, by decide⟩) ?_
          walk_at "go"
          exact again b (.inr rfl) _
        · walk_at "go"
          refine w_mulI (.inr ⟨by decide, by decide⟩) ?_
          walk_at "go"
          exact again a (.inl rfl) _
      refine w_two (fun e4 => ?_) (fun e4 => ?_)
      · walk_at "go"
        refine w_two (fun e5 => ?_) (fun e5 => ?_)
        · walk_at "go"
          refine w_new (by walk_at "sz") (fun p3 hp3 => ?_)
          walk_at "go"
          have m9 := mod_in (r / 320) (show (0 : Int) < 9 by decide)
          exact last _ _ (.num _) (same_new hp3) (.num (SqT.of upd_same)) ⟨by omega, by omega⟩ (by simp only [Fm.depth]; omega)
        · walk_at "gn"
          exact tail
      · walk_at "gn"
        exact tail
mutual
theorem eqv_self : ∀ d : PyData, d.canLay0 = true → PyData.eqv d d = true
  | .none, _ => rfl
  | .bool b, _ => by show (b == b) = true; simp
  | .int i, _ => by show (i == i) = true; simp
  | .str x, _ => by show (x == x) = true; simp
  | .list xs, h => eqvAll_self xs h
  | .tuple xs, h => eqvAll_self xs h
  | .dict _, h => nomatch h
theorem eqvAll_self : ∀ xs : List PyData, PyData.canLayAll0 xs = true → PyData.eqvAll xs xs = true
  | [], _ => rfl
  | x :: r, h => by
    have h' := Bool.and_eq_true_iff.mp (show (x.canLay0 && PyData.canLayAll0 r) = true from h)
    show (PyData.eqv x x && PyData.eqvAll r r) = true
    rw [eqv_self x h'.1, eqvAll_self r h'.2] <;> rfl
end
structure Dk (d : PyData) (k : Nat) : Prop where
  lay : d.canLay0 = true
  dep : d.depth ≤ k
theorem Dk.shaped {d : PyData} {k : Nat} (h : Dk d k) (hk : k ≤ 64) : SeqAt.shaped d = true := by
  unfold SeqAt.shaped
  rw [h.lay, decide_eq_true (Nat.le_trans h.dep hk)] <;> rfl
theorem Dk.mono {d : PyData} {k j : Nat} (h : Dk d k) (hk : k ≤ j) : Dk d j := ⟨h.lay, Nat.le_trans h.dep hk⟩
theorem Dk.int {i : Int} {k : Nat} : Dk (.int i) k := ⟨rfl, Nat.zero_le _⟩
theorem Dk.bl {i : Bool} {k : Nat} : Dk (.bool i) k := ⟨rfl, Nat.zero_le _⟩
theorem Dk.non {k : Nat} : Dk .none k := ⟨rfl, Nat.zero_le _⟩
theorem Dk.str {x : Str} {k : Nat} (h : PyData.strOk x = true) : Dk (.str x) k := ⟨h, Nat.zero_le _⟩
theorem dk_all {k : Nat} : ∀ {ds : List PyData}, (∀ d ∈ ds, Dk d k) → PyData.canLayAll0 ds = true ∧ PyData.depthAll ds ≤ k
  | [], _ => ⟨rfl, Nat.zero_le _⟩
  | d :: r, h => by
    have h1 := h d List.mem_cons_self
    have h2 := dk_all fun y hy => h y (List.mem_cons_of_mem d hy)
    constructor
    · show (d.canLay0 && PyData.canLayAll0 r) = true
      rw [h1.lay, h2.1] <;> rfl
    · show max d.depth (PyData.depthAll r) ≤ k
      exact Nat.max_le.mpr ⟨h1.dep, h2.2⟩
theorem Dk.list {ds : List PyData} {k : Nat} (h : ∀ d ∈ ds, Dk d k) : Dk (.list ds) (k + 1) := ⟨(dk_all h).1, Nat.succ_le_succ (dk_all h).2⟩
theorem Dk.tup {ds : List PyData} {k : Nat} (h : ∀ d ∈ ds, Dk d k) : Dk (.tuple ds) (k + 1) := ⟨(dk_all h).1, Nat.succ_le_succ (dk_all h).2⟩
theorem dk_nil {k : Nat} : ∀ d ∈ ([] : List PyData), Dk d k := fun _ h => nomatch h
theorem dk_cons {k : Nat} {x : PyData} {ds : List PyData} (a : Dk x k) (b : ∀ d ∈ ds, Dk d k) : ∀ d ∈ x :: ds, Dk d k := fun d h => (List.mem_cons.mp h).elim (fun e => e ▸ a) (b d)
theorem dk_map {α : Type} {k : Nat} {f : α → PyData} {xs : List α} (h : ∀ x ∈ xs, Dk (f x) k) : ∀ d ∈ xs.map f, Dk d k := fun d hd => by
  obtain ⟨x, hx, e⟩ := List.mem_map.mp hd
  exact e ▸ h x hx
section
variable {K : PySem.W.Frag} {H : Hp} {Q : VK} {x y : V} {d : PyData}
theorem w_eqSelf {k : Nat} (hx : Dp K H x d) (hy : Dp K H y d) (hd : Dk d k) (hk : k ≤ 64) (q : Q (.bl true) H) : rEq2 K x y H Q := w_eqD hx hy (hd.shaped hk) (hd.shaped hk) (by rw [eqv_self d hd.lay]; exact q)
theorem w_neSelf {k : Nat} (hx : Dp K H x d) (hy : Dp K H y d) (hd : Dk d k) (hk : k ≤ 64) (q : Q (.bl false) H) : rNe2 K x y H Q := w_neD hx hy (hd.shaped hk) (hd.shaped hk) (by rw [eqv_self d hd.lay]; exact q)
theorem tyx_list {a : Addr} {xs : List V} (h : H a = some (.lst xs)) : TyX K H (.ref a) (.type "list") := .base (.lst h)
theorem w_isi {t c : String} (h : TyX K H x (.type t)) (e : PySem.W.kitOne K (.type t) (.type c) = some true) (q : Q (.bl true) H) : rIsi2 K [x, .ty c] H Q := .inl ⟨_, _, _, _, _, rfl, .ty _, h, e, q⟩
theorem w_isiNo {t c : String} (h : TyX K H x (.type t)) (e : PySem.W.kitOne K (.type t) (.type c) = some false) (q : Q (.bl false) H) : rIsi2 K [x, .ty c] H Q := .inl ⟨_, _, _, _, _, rfl, .ty _, h, e, q⟩
theorem w_listL {p : Addr} {xs : List V} (h : SqL K H p xs) (q : ∀ l, H l = none → Q (.ref l) (upd H l (.lst xs))) : rList K [.ref p] H Q := .inl ⟨p, xs, rfl, .inl h, q⟩
end
theorem rising_all : ∀ {xs : List Str} {p : Str}, risingS p xs = true → (∀ y ∈ xs, ¬ (y.cps.toList < p.cps.toList)) ∧ sortedS xs = true
  | [], _, _ => ⟨(fun _ h => nomatch h), rfl⟩
  | x :: r, p, h => by
    have h' : (!ltCps x.cps.toList p.cps.toList && risingS x r) = true := h
    have h2 := Bool.and_eq_true_iff.mp h'
    have h3 : ¬ (x.cps.toList < p.cps.toList) := by
      have := h2.1
      rw [ltCps_eq] at this
      simpa using this
    have ih := rising_all h2.2
    refine ⟨fun y hy => ?_, h2.2⟩
    rcases List.mem_cons.mp hy with rfl | hy
    · exact h3
    · intro c
      exact ih.1 y hy (Decidable.byContradiction fun n => h3 (List.lt_of_le_of_lt (List.not_lt.mp n) c))
theorem str_ext {x y : Str} (h : x.cps.toList = y.cps.toList) : x = y := by
  cases x with
  | mk a =>
    cases y with
    | mk b => exact congrArg Str.mk (Array.toList_inj.mp h)
theorem sort_one : ∀ {xs ys : List Str}, sortedS xs = true → xs.Nodup → sortedS ys = true → ys.Nodup → (∀ z, z ∈ xs ↔ z ∈ ys) → xs = ys
  | [], [], _, _, _, _, _ => rfl
  | [], y :: t, _, _, _, _, h => absurd ((h y).mpr List.mem_cons_self) List.not_mem_nil
  | x :: r, [], _, _, _, _, h => absurd ((h x).mp List.mem_cons_self) List.not_mem_nil
  | x :: r, y :: t, sx, nx, sy, ny, h => by
    have rx := rising_all (p := x) (xs := r) sx
    have ry := rising_all (p := y) (xs := t) sy
    have hx : ¬ (x.cps.toList < y.cps.toList) := by
      rcases List.mem_cons.mp ((h x).mp List.mem_cons_self) with e | e
      · rw [e]; exact List.lt_irrefl _
      · exact ry.1 x e
    have hy : ¬ (y.cps.toList < x.cps.toList) := by
      rcases List.mem_cons.mp ((h y).mpr List.mem_cons_self) with e | e
      · rw [e]; exact List.lt_irrefl _
      · exact rx.1 y e
    have e : x = y := str_ext (List.le_antisymm (List.not_lt.mp hy) (List.not_lt.mp hx))
    subst e
    obtain ⟨nx1, nx2⟩ := List.nodup_cons.mp nx
    obtain ⟨ny1, ny2⟩ := List.nodup_cons.mp ny
    have : r = t := sort_one rx.2 nx2 ry.2 ny2 fun z => by
      constructor
      · intro hz
        rcases List.mem_cons.mp ((h z).mp (List.mem_cons_of_mem _ hz)) with e | e
        · exact absurd (e ▸ hz) nx1
        · exact e
      · intro hz
        rcases List.mem_cons.mp ((h z).mpr (List.mem_cons_of_mem _ hz)) with e | e
        · exact absurd (e ▸ hz) ny1
        · exact e
    rw [this]
theorem none_of {H H' : Hp} {a : Addr} (e : Same H H') (h : H' a = none) : H a = none := by
  cases c : H a with
  | none => rfl
  | some u => rw [e a u c] at h; exact nomatch h
theorem w_sortSet {K : PySem.W.Frag} {σ : L2.St} {H : Hp} {Q : VK} {ta : TE} (h : ta σ H fun x H1 => ∃ (l : Addr) (xs ns : List Str), x = .ref l ∧ SqL K H1 l (xs.map V.str) ∧ (∀ y ∈ xs, y ∈ ns) ∧ ns.length ≤ 4000 ∧
  ∀ (ys : List Str) (p : Addr) (H2 : Hp), sortedS ys = true → ys.Nodup → (∀ y, y ∈ ys ↔ y ∈ xs) → Same H1 H2 → H1 p = none → H2 p = some (.lst (ys.map V.str)) → Q (.ref p) H2) : tSortSet K ta σ H Q := h
theorem w_lc {wi : TI} {g : TG} {tt : TT} {te : TE} {vs : List Nat} {σ : L2.St} {H : Hp} {Q : VK} (h : wi σ H fun J H1 => ∀ D, H1 D = none → ∃ W : Nat → Nat → Hp → Prop, (∃ m, W 0 m (upd H1 D (.lst []))) ∧ ∀ i m H, W i m H →
  (J.stop i H ∧ Q (.ref D) H) ∨ (J.go i H ∧ ∃ Nx : Hp → Prop, (∀ H', Nx H' → ∃ m', m' < m ∧ W (i + 1) m' H') ∧ ∀ x H', J.yld i H x H' → g x (wipe σ vs) H' fun σ2 H2 => wipe σ2 vs = wipe σ vs ∧ tt σ2 H2 fun b H3 =>
    if b = true then te σ2 H3 fun y H4 => ∃ acc, H4 D = some (.lst acc) ∧ acc.length < sizeLine ∧ Nx (upd H4 D (.lst (acc ++ [y]))) else Nx H3)) : tLc wi g tt te vs σ H Q := h
def SameX (D : Addr) (H H' : Hp) : Prop := ∀ a u, a ≠ D → H a = some u → H' a = some u
theorem lc_each {K : PySem.W.Frag} {a : Addr} {xs : List V} {g : TG} {tt : TT} {te : TE} {vs : List Nat} {σ : L2.St} {H0 : Hp} {D : Addr} {Qd : Hp → Prop} (R : Nat → V → Hp → Prop) (hq : SqL K H0 a xs) (hl : xs.length ≤ 16000000) (hD : H0 D = none)
    (mono : ∀ i y H H', R i y H → SameX D H H' → R i y H')
    (hs : ∀ i x H (Nx : Hp → Prop), xs[i]? = some x → Same H0 H → (∃ ys, H D = some (.lst ys)) → (∀ y H4, Same H H4 → R i y H4 → ∃ acc, H4 D = some (.lst acc) ∧ acc.length < sizeLine ∧ Nx (upd H4 D (.lst (acc ++ [y])))) →
      g x (wipe σ vs) H fun σ2 H2 => wipe σ2 vs = wipe σ vs ∧ tt σ2 H2 fun b H3 => if b = true then te σ2 H3 fun y H4 => ∃ acc, H4 D = some (.lst acc) ∧ acc.length < sizeLine ∧ Nx (upd H4 D (.lst (acc ++ [y]))) else Nx H3)
    (hd : ∀ H ys, Same H0 H → H D = some (.lst ys) → ys.length = xs.length → (∀ (i : Nat) y, ys[i]? = some y → R i y H) → Qd H) :
    ∃ W : Nat → Nat → Hp → Prop, (∃ m, W 0 m (upd H0 D (.lst []))) ∧ ∀ i m H, W i m H →
      ((Itl K a).stop i H ∧ Qd H) ∨ ((Itl K a).go i H ∧ ∃ Nx : Hp → Prop, (∀ H', Nx H' → ∃ m', m' < m ∧ W (i + 1) m' H') ∧ ∀ x H', (Itl K a).yld i H x H' → g x (wipe σ vs) H' fun σ2 H2 => wipe σ2 vs = wipe σ vs ∧ tt σ2 H2 fun b H3 =>
        if b = true then te σ2 H3 fun y H4 => ∃ acc, H4 D = some (.lst acc) ∧ acc.length < sizeLine ∧ Nx (upd H4 D (.lst (acc ++ [y]))) else Nx H3) := by
  refine lc_list (xs := xs) (fun i H => Same H0 H ∧ ∃ ys, H D = some (.lst ys) ∧ ys.length = i ∧ ∀ (j : Nat) y, ys[j]? = some y → R j y H) ⟨same_new hD, [], upd_same, rfl, fun j y h => by simp at h⟩ (fun i H _ h => same_l h.1 hq) ?_ ?_
  · rintro i x H hx ⟨e, ys, hy, hl2, hR⟩
    refine hs i x H _ hx e ⟨ys, hy⟩ fun y H4 e4 hr => ?_
    have hi : i < xs.length := (List.getElem?_eq_some_iff.mp hx).1
    have sx : SameX D H4 (upd H4 D (.lst (ys ++ [y]))) := fun b u nb hb => by rw [upd_ne nb]; exact hb
    have sx0 : SameX D H (upd H4 D (.lst (ys ++ [y]))) := fun b u nb hb => by rw [upd_ne nb]; exact e4 b u hb
    refine ⟨ys, e4 D _ hy, Nat.lt_of_le_of_lt (by omega : ys.length ≤ 16000000) (by decide), same_mut (e.trans e4) hD, ys ++ [y], upd_same, by rw [List.length_append, hl2] <;> rfl, fun j z hz => ?_⟩
    rcases Nat.lt_or_ge j ys.length with lt | ge
    · rw [List.getElem?_append_left lt] at hz
      exact mono j z _ _ (hR j z hz) sx0
    · rw [List.getElem?_append_right ge] at hz
      have hj : j - ys.length = 0 := by
        have := (List.getElem?_eq_some_iff.mp hz).1
        simp only [List.length_singleton] at this
        omega
      rw [hj] at hz
      have hz' : y = z := Option.some.inj hz
      have ji : j = i := by omega
      rw [← hz', ji]
      exact mono i y _ _ hr sx
  · rintro H ⟨e, ys, hy, hl2, hR⟩
    exact hd H ys e hy hl2 hR
theorem list_one {α : Type} : ∀ {l : List α}, l.length = 1 → ∃ a, l = [a]
  | [a], _ => ⟨a, rfl⟩
theorem list_two {α : Type} : ∀ {l : List α}, l.length = 2 → ∃ a b, l = [a, b]
  | [a, b], _ => ⟨a, b, rfl⟩
theorem for_enum {K : PySem.W.Frag} {a : Addr} {xs : List V} {g : TG} {tb : TS} {D : Ends} {σ : L2.St} {H : Hp} (Pv : Nat → L2.St → Hp → Prop) (h0 : Pv 0 σ H) (hl : ∀ i σ H, i ≤ xs.length → Pv i σ H → SqL K H a xs)
    (hs : ∀ i x σ H T, xs[i]? = some x → H T = none → Pv i σ H → g (.ref T) σ (upd H T (.tup [.int (i : Nat), x])) fun σ2 H2 => tb { D with nx := Pv (i + 1), ct := Pv (i + 1), bk := D.nx } σ2 H2) (hd : ∀ σ H, Pv xs.length σ H → D.nx σ H) :
    ∃ W : Nat → Nat → L2.St → Hp → Prop, (∃ m, W 0 m σ H) ∧ ∀ i m σ H, W i m σ H →
      ((Ite K a).stop i H ∧ D.nx σ H) ∨ ((Ite K a).go i H ∧ ∃ N : L2.St → Hp → Prop, (∀ σ' H', N σ' H' → ∃ m', m' < m ∧ W (i + 1) m' σ' H') ∧ ∀ x H', (Ite K a).yld i H x H' → g x σ H' fun σ2 H2 => tb { D with nx := N, ct := N, bk := D.nx } σ2 H2) := by
  refine ⟨fun i m σ H => m = xs.length - i ∧ i ≤ xs.length ∧ Pv i σ H, ⟨xs.length, by simp, Nat.zero_le _, h0⟩, ?_⟩
  rintro i m σ H ⟨rfl, hi, p⟩
  have q := hl i σ H hi p
  by_cases hlt : i < xs.length
  · refine .inr ⟨⟨xs, xs[i], q, by simp [hlt]⟩, Pv (i + 1), fun σ' H' p' => ⟨xs.length - (i + 1), by omega, rfl, hlt, p'⟩, fun x H' y => ?_⟩
    obtain ⟨T, z, rfl, hT, rfl, hz⟩ := y
    exact hs i z σ _ T (hz xs q) hT p
  · have e : i = xs.length := by omega
    subst e
    exact .inl ⟨⟨xs, q, Nat.le_refl _⟩, hd σ H p⟩
theorem Fm.ok_names {ns : List Str} : ∀ {f : Fm}, f.ok ns → ∀ x ∈ f.names, x ∈ ns
  | .num _, _, x, hx => nomatch hx
  | .nam y, q, x, hx => by rw [List.mem_singleton.mp hx]; exact q
  | .op _ a b, q, x, hx => (List.mem_append.mp hx).elim (Fm.ok_names q.1 x) (Fm.ok_names q.2 x)
theorem Fm.names_small18 {f : Fm} (h : f.depth ≤ 18) : f.names.length ≤ 262144 := Nat.le_trans f.names_len (Nat.pow_le_pow_right (by decide) h)
def sp_all_names (K : PySem.W.Frag) (n : Nat) : Sp := fun vs H Q _ => ∃ (v : V) (f : Fm), vs = [v] ∧ FmAt K H v f ∧ f.depth ≤ n ∧ f.depth ≤ 18 ∧ ∀ p H', Same H H' → H p = none → H' p = some (.lst (f.names.map V.str)) → Q (.ref p) H'
def sp_names_in (K : PySem.W.Frag) : Sp := fun vs H Q _ => ∃ (v : V) (f : Fm) (ns : List Str), vs = [v] ∧ FmAt K H v f ∧ f.ok ns ∧ ns.length ≤ 1000 ∧ f.depth ≤ 18 ∧
  ∀ p H' ys, sortedS ys = true → ys.Nodup → (∀ y, y ∈ ys ↔ y ∈ f.names) → Same H H' → H p = none → H' p = some (.lst (ys.map V.str)) → Q (.ref p) H'
abbrev N_all_names : List Str := ["formula"]
def t_all_names (K : PySem.W.Frag) (n : Nat) : TS :=
  (tSeq (tIfS (tTest (tOp (rEq2 K) (tOp (rIx K) (tVar 0) (tC (.int 0))) (tC (.str "number")))) (tRet (tLst tNil)) tNext) (tSeq (tIfS (tTest (tOp (rEq2 K) (tOp (rIx K) (tVar 0) (tC (.int 0))) (tC (.str "name")))) (tRet (tLst (tCons (tOp (rIx K) (tVar 0) (tC (.int 1))) tNil))) tNext) (tRet (tOp (rAdd K) (tF (sp_all_names K n) (tCons (tOp (rIx K) (tVar 0) (tC (.int 1))) tNil)) (tF (sp_all_names K n) (tCons (tOp (rIx K) (tVar 0) (tC (.int 2))) tNil))))))
abbrev N_names_in : List Str := ["formula"]
def t_names_in (K : PySem.W.Frag) : TS :=
  (tRet (tSortSet K (tF (sp_all_names K 18) (tCons (tVar 0) tNil))))
theorem pure_all_names (K : PySem.W.Frag) (n : Nat) (vs : List V) (H : Hp) (Q : VK) (E : XK) (h : sp_all_names K (n + 1) vs H Q E) :
    t_all_names K n { nx := fun _ H' => Q .non H', rt := Q } (start N_all_names vs) H := by
  obtain ⟨v, f, rfl, hf, hd, hn, q⟩ := h
  unfold t_all_names
  cases hf with
  | num h =>
    walk_at "go"
    exact w_new (by walk_at "sz") (fun p hp => q _ _ (same_new hp) hp upd_same)
  | nam h =>
    walk_at "go"
    exact w_new (by walk_at "sz") (fun p hp => q _ _ (same_new hp) hp upd_same)
  | @op a s u v f g h h1 h2 =>
    have e1 := sg_num s
    have e2 := sg_nam s
    have l1 : f.depth ≤ n := by simp only [Fm.depth] at hd; omega
    have l2 : g.depth ≤ n := by simp only [Fm.depth] at hd; omega
    have k1 : f.depth ≤ 18 := by simp only [Fm.depth] at hn; omega
    have k2 : g.depth ≤ 18 := by simp only [Fm.depth] at hn; omega
    walk_at "go"
    refine ⟨_, f, rfl, h1, l1, k1, fun p H1 e hp hp1 => ?_⟩
    walk_at "go"
    refine ⟨_, g, rfl, h2.mono e, l2, k2, fun p2 H2 e' hp2 hp3 => ?_⟩
    have y1 := Fm.names_small18 k1
    have y2 := Fm.names_small18 k2
    refine w_addL (e' p _ hp1) hp3 (sz (by rw [List.length_map, List.length_map]; omega)) fun p4 hp4 => ?_
    exact q _ _ ((e.trans e').trans (same_new hp4)) (none_of (e.trans e') hp4) (by rw [upd_same, ← List.map_append] <;> rfl)
theorem no_all_names {K : PySem.W.Frag} : ∀ vs H Q E, ¬ sp_all_names K 0 vs H Q E := by
  rintro vs H Q E ⟨v, f, _, _, h, _⟩
  have := f.depth_pos
  omega
theorem pure_names_in (K : PySem.W.Frag) (vs : List V) (H : Hp) (Q : VK) (E : XK) (h : sp_names_in K vs H Q E) :
    t_names_in K { nx := fun _ H' => Q .non H', rt := Q } (start N_names_in vs) H := by
  obtain ⟨v, f, ns, rfl, hf, ho, hl, hn, q⟩ := h
  unfold t_names_in
  walk_at "go"
  refine w_sortSet ?_
  walk_at "go"
  refine ⟨_, f, rfl, hf, hn, hn, fun p H1 e hp hp1 => ?_⟩
  refine ⟨p, f.names, ns, rfl, SqL.of hp1, Fm.ok_names ho, by omega, fun ys r H2 s1 s2 s3 e2 hr hr2 => ?_⟩
  exact q r H2 ys s1 s2 s3 (e.trans e2) (none_of e hr) hr2
def Sg.put : Sg → Int → Int → Option Int
  | .add, a, b => some ((a + b) % 1000000)
  | .sub, a, b => some ((a - b) % 1000000)
  | .mul, a, b => some (a * b % 1000000)
  | .lt, a, b => some (if decide (a < b) = true then 1 else 0)
  | .eq, a, b => some (if decide (a = b) = true then 1 else 0)
  | .div, a, b => if b = 0 then none else some (a / b)
def In6 (i : Int) : Prop := 0 ≤ i ∧ i < 1000000
theorem In6.mod (i : Int) : In6 (i % 1000000) := mod_in i (by decide)
theorem In6.bit {c : Bool} : In6 (if c = true then 1 else 0) := by cases c <;> exact ⟨by decide, by decide⟩
theorem put_in {s : Sg} {a b i : Int} (ha : In6 a) (hb : In6 b) (h : s.put a b = some i) : In6 i := by
  cases s with
  | add => rw [← Option.some.inj h]; exact In6.mod _
  | sub => rw [← Option.some.inj h]; exact In6.mod _
  | mul => rw [← Option.some.inj h]; exact In6.mod _
  | lt => rw [← Option.some.inj h]; exact In6.bit
  | eq => rw [← Option.some.inj h]; exact In6.bit
  | div =>
    by_cases e : b = 0
    · rw [Sg.put, if_pos e] at h
      exact nomatch h
    · rw [Sg.put, if_neg e] at h
      rw [← Option.some.inj h]
      exact ⟨Int.ediv_nonneg ha.1 hb.1, Int.lt_of_le_of_lt (Int.ediv_le_self b ha.1) ha.2⟩
def Fm.reck (g : Str → Int) : Fm → Option Int
  | .num n => some n
  | .nam x => some (g x)
  | .op s a b => match a.reck g, b.reck g with
    | some u, some v => s.put u v
    | _, _ => none
theorem Fm.reck_in {g : Str → Int} {ns : List Str} (hg : ∀ x ∈ ns, In6 (g x)) : ∀ {f : Fm} {i : Int}, f.ok ns → f.reck g = some i → In6 i
  | .num n, i, ho, h => by rw [← Option.some.inj h]; exact ho
  | .nam x, i, ho, h => by rw [← Option.some.inj h]; exact hg x ho
  | .op s a b, i, ho, h => by
    cases ea : a.reck g with
    | none => simp [Fm.reck, ea] at h
    | some u =>
      cases eb : b.reck g with
      | none => simp [Fm.reck, ea, eb] at h
      | some v =>
        simp only [Fm.reck, ea, eb] at h
        exact put_in (Fm.reck_in hg ho.1 ea) (Fm.reck_in hg ho.2 eb) h
abbrev OV : Option Int → V
  | some i => .int i
  | none => .non
def DAt (H : Hp) (a : Addr) (ns : List Str) (g : Str → Int) : Prop := ∃ kvs : List (Key × V), H a = some (.dK kvs) ∧ ∀ x ∈ ns, valV kvs (.inr x) = some (.int (g x))
theorem DAt.mono {H H' : Hp} {a : Addr} {ns : List Str} {g : Str → Int} (e : Same H H') (h : DAt H a ns g) : DAt H' a ns g := by
  obtain ⟨kvs, h1, h2⟩ := h
  exact ⟨kvs, e a _ h1, h2⟩
def sp_put_together (_ : PySem.W.Frag) : Sp := fun vs H Q _ => ∃ (s : Sg) (i j : Int), vs = [.str s.txt, .int i, .int j] ∧ In6 i ∧ In6 j ∧ Q (OV (s.put i j)) H
def sp_reckoned (K : PySem.W.Frag) (n : Nat) : Sp := fun vs H Q _ => ∃ (v : V) (f : Fm) (a : Addr) (ns : List Str) (g : Str → Int), vs = [v, .ref a] ∧ FmAt K H v f ∧ f.ok ns ∧ f.depth ≤ n ∧ DAt H a ns g ∧ (∀ x ∈ ns, In6 (g x)) ∧ Q (OV (f.reck g)) H
abbrev N_put_together : List Str := ["sign", "one", "other"]
def t_put_together (K : PySem.W.Frag) : TS :=
  (tSeq (tIfS (tTest (tOp (rEq2 K) (tVar 0) (tC (.str "+")))) (tRet (tOp rMod (tOp (rAdd K) (tVar 1) (tVar 2)) (tC (.int 1000000)))) tNext) (tSeq (tIfS (tTest (tOp (rEq2 K) (tVar 0) (tC (.str "-")))) (tRet (tOp rMod (tOp rSub (tVar 1) (tVar 2)) (tC (.int 1000000)))) tNext) (tSeq (tIfS (tTest (tOp (rEq2 K) (tVar 0) (tC (.str "*")))) (tRet (tOp rMod (tOp rMul (tVar 1) (tVar 2)) (tC (.int 1000000)))) tNext) (tSeq (tIfS (tTest (tOp (rEq2 K) (tVar 0) (tC (.str "<")))) (tRet (tCB rInt (tCons (tOp rLt (tVar 1) (tVar 2)) tNil))) tNext) (tSeq (tIfS (tTest (tOp (rEq2 K) (tVar 0) (tC (.str "=")))) (tRet (tCB rInt (tCons (tOp (rEq2 K) (tVar 1) (tVar 2)) tNil))) tNext) (tSeq (tIfS (tTest (tOp (rEq2 K) (tVar 2) (tC (.int 0)))) (tRet (tC .non)) tNext) (tRet (tOp rDiv (tVar 1) (tVar 2)))))))))
abbrev N_reckoned : List Str := ["formula", "values", "one", "other"]
def t_reckoned (K : PySem.W.Frag) (n : Nat) : TS :=
  (tSeq (tIfS (tTest (tOp (rEq2 K) (tOp (rIx K) (tVar 0) (tC (.int 0))) (tC (.str "number")))) (tRet (tOp (rIx K) (tVar 0) (tC (.int 1)))) tNext) (tSeq (tIfS (tTest (tOp (rEq2 K) (tOp (rIx K) (tVar 0) (tC (.int 0))) (tC (.str "name")))) (tRet (tDGet (tVar 1) (tOp (rIx K) (tVar 0) (tC (.int 1))))) tNext) (tSeq (tAsg (tF (sp_reckoned K n) (tCons (tOp (rIx K) (tVar 0) (tC (.int 1))) (tCons (tVar 1) tNil))) (gName 2)) (tSeq (tAsg (tF (sp_reckoned K n) (tCons (tOp (rIx K) (tVar 0) (tC (.int 2))) (tCons (tVar 1) tNil))) (gName 3)) (tSeq (tIfS (tOr (tTest (tOp (rIsN2 false) (tVar 2) (tC .non))) (tTest (tOp (rIsN2 false) (tVar 3) (tC .non)))) (tRet (tC .non)) tNext) (tRet (tF (sp_put_together K) (tCons (tOp (rIx K) (tVar 0) (tC (.int 0))) (tCons (tVar 2) (tCons (tVar 3) tNil))))))))))
theorem pure_put_together (K : PySem.W.Frag) (vs : List V) (H : Hp) (Q : VK) (E : XK) (h : sp_put_together K vs H Q E) :
    t_put_together K { nx := fun _ H' => Q .non H', rt := Q } (start N_put_together vs) H := by
  obtain ⟨s, i, j, rfl, hi, hj, q⟩ := h
  unfold t_put_together
  cases s with
  | add => walk_at "go"; exact q
  | sub => walk_at "go"; exact q
  | mul =>
    walk_at "go"
    refine w_mulI (.inl ⟨by have := hi.1; omega, by have := hi.2; omega⟩) ?_
    walk_at "go"
    exact q
  | lt => walk_at "go"; exact q
  | eq => walk_at "go"; exact q
  | div =>
    walk_at "go"
    refine w_two (fun e => ?_) (fun e => ?_)
    · have e := of_decide_eq_true e
      walk_at "go"
      rw [Sg.put, if_pos e] at q
      exact q
    · have e := of_decide_eq_false e
      have h1 := hj.1
      have h2 := hj.2
      walk_at "go"
      rw [Sg.put, if_neg e] at q
      exact q
theorem no_reckoned {K : PySem.W.Frag} : ∀ vs H Q E, ¬ sp_reckoned K 0 vs H Q E := by
  rintro vs H Q E ⟨v, f, _, _, _, _, _, _, h, _⟩
  have := f.depth_pos
  omega
theorem pure_reckoned (K : PySem.W.Frag) (n : Nat) (vs : List V) (H : Hp) (Q : VK) (E : XK) (h : sp_reckoned K (n + 1) vs H Q E) :
    t_reckoned K n { nx := fun _ H' => Q .non H', rt := Q } (start N_reckoned vs) H := by
  obtain ⟨v, f, a, ns, g, rfl, hf, ho, hd, hA, hg, q⟩ := h
  unfold t_reckoned
  cases hf with
  | num h =>
    walk_at "go"
    exact q
  | nam h =>
    obtain ⟨kvs, hk, hv⟩ := hA
    walk_at "go"
    exact w_dgetAt hk (hv _ ho) q
  | @op p s u v f f2 h h1 h2 =>
    have e1 := sg_num s
    have e2 := sg_nam s
    have l1 : f.depth ≤ n := by simp only [Fm.depth] at hd; omega
    have l2 : f2.depth ≤ n := by simp only [Fm.depth] at hd; omega
    walk_at "go"
    refine ⟨_, f, a, ns, g, rfl, h1, ho.1, l1, hA, hg, ?_⟩
    walk_at "go"
    refine ⟨_, f2, a, ns, g, rfl, h2, ho.2, l2, hA, hg, ?_⟩
    walk_at "go"
    cases c1 : f.reck g with
    | none =>
      walk_at "go"
      simp only [Fm.reck, c1] at q
      exact q
    | some i =>
      cases c2 : f2.reck g with
      | none =>
        walk_at "go"
        simp only [Fm.reck, c1, c2] at q
        exact q
      | some j =>
        walk_at "go"
        simp only [Fm.reck, c1, c2] at q
        exact ⟨s, i, j, rfl, Fm.reck_in hg ho.1 c1, Fm.reck_in hg ho.2 c2, q⟩
inductive Rw where
  | set (x : Str) (f : Fm)
  | tell (f : Fm)
  | skip
  | ite (f : Fm) (a b : List Rw)
  | whl (f : Fm) (a : List Rw)
mutual
def Rw.size : Rw → Nat
  | .set _ _ => 1
  | .tell _ => 1
  | .skip => 1
  | .ite _ a b => 1 + (szs a + szs b)
  | .whl _ a => 1 + szs a
def szs : List Rw → Nat
  | [] => 0
  | r :: l => r.size + szs l
end
mutual
def Rw.nest : Rw → Nat
  | .set _ _ => 1
  | .tell _ => 1
  | .skip => 1
  | .ite _ a b => 1 + max (nests a) (nests b)
  | .whl _ a => 1 + nests a
def nests : List Rw → Nat
  | [] => 0
  | r :: l => max r.nest (nests l)
end
def Fm.fine (ns : List Str) (f : Fm) : Prop := f.ok ns ∧ f.depth ≤ 12
mutual
def Rw.ok (ns : List Str) : Rw → Prop
  | .set x f => x ∈ ns ∧ f.fine ns
  | .tell f => f.fine ns
  | .skip => True
  | .ite f a b => f.fine ns ∧ oks ns a ∧ oks ns b
  | .whl f a => f.fine ns ∧ oks ns a
def oks (ns : List Str) : List Rw → Prop
  | [] => True
  | r :: l => r.ok ns ∧ oks ns l
end
theorem szs_app : ∀ a b : List Rw, szs (a ++ b) = szs a + szs b
  | [], b => by show szs b = 0 + szs b; omega
  | r :: l, b => by
    show r.size + szs (l ++ b) = r.size + szs l + szs b
    rw [szs_app l b]
    omega
theorem nests_app : ∀ a b : List Rw, nests (a ++ b) = max (nests a) (nests b)
  | [], b => by show nests b = max 0 (nests b); omega
  | r :: l, b => by
    show max r.nest (nests (l ++ b)) = max (max r.nest (nests l)) (nests b)
    rw [nests_app l b]
    omega
theorem oks_app {ns : List Str} : ∀ {a b : List Rw}, oks ns a → oks ns b → oks ns (a ++ b)
  | [], _, _, hb => hb
  | _ :: _, _, ha, hb => ⟨ha.1, oks_app ha.2 hb⟩
theorem oks_mem {ns : List Str} : ∀ {a : List Rw}, oks ns a → ∀ r ∈ a, r.ok ns
  | _ :: _, h, r, hr => (List.mem_cons.mp hr).elim (fun e => e ▸ h.1) fun hr => oks_mem h.2 r hr
theorem nest_mem : ∀ {a : List Rw} {r : Rw}, r ∈ a → r.nest ≤ nests a
  | s :: l, r, hr => by
    show r.nest ≤ max s.nest (nests l)
    rcases List.mem_cons.mp hr with e | hr
    · rw [e]; omega
    · have := nest_mem hr; omega
theorem size_pos (r : Rw) : 1 ≤ r.size := by
  cases r <;> simp only [Rw.size] <;> omega
theorem nest_pos (r : Rw) : 1 ≤ r.nest := by
  cases r <;> simp only [Rw.nest] <;> omega
theorem szs_len : ∀ a : List Rw, a.length ≤ szs a
  | [] => Nat.zero_le _
  | r :: l => by
    show l.length + 1 ≤ r.size + szs l
    have := size_pos r
    have := szs_len l
    omega
theorem sz_mem : ∀ {a : List Rw} {r : Rw}, r ∈ a → r.size ≤ szs a
  | s :: l, r, hr => by
    show r.size ≤ s.size + szs l
    rcases List.mem_cons.mp hr with e | hr
    · rw [e]; omega
    · have := sz_mem hr; omega
/-- rows as they stand in a heap; S tells how a row's blocks stand: as tuples, as lists, either -/
abbrev SQ := Hp → Addr → List V → Prop
mutual
inductive RwAt (K : PySem.W.Frag) (S : SQ) (H : Hp) : V → Rw → Prop where
  | set {a : Addr} {x : Str} {u : V} {f : Fm} (h : SqT K H a [.str "set", .str x, u]) (hf : FmAt K H u f) : RwAt K S H (.ref a) (.set x f)
  | tell {a : Addr} {u : V} {f : Fm} (h : SqT K H a [.str "tell", u]) (hf : FmAt K H u f) : RwAt K S H (.ref a) (.tell f)
  | skip {a : Addr} (h : SqT K H a [.str "skip"]) : RwAt K S H (.ref a) .skip
  | ite {a p q : Addr} {u : V} {f : Fm} {xs ys : List V} {b c : List Rw} (h : SqT K H a [.str "if", u, .ref p, .ref q]) (hf : FmAt K H u f) (hp : S H p xs) (hb : BkAt K S H xs b) (hq : S H q ys) (hc : BkAt K S H ys c) : RwAt K S H (.ref a) (.ite f b c)
  | whl {a p : Addr} {u : V} {f : Fm} {xs : List V} {b : List Rw} (h : SqT K H a [.str "while", u, .ref p]) (hf : FmAt K H u f) (hp : S H p xs) (hb : BkAt K S H xs b) : RwAt K S H (.ref a) (.whl f b)
inductive BkAt (K : PySem.W.Frag) (S : SQ) (H : Hp) : List V → List Rw → Prop where
  | nil : BkAt K S H [] []
  | cons {v : V} {vs : List V} {r : Rw} {l : List Rw} (h : RwAt K S H v r) (t : BkAt K S H vs l) : BkAt K S H (v :: vs) (r :: l)
end
/-- what never changes is as it was -/
def Fix : HO → Bool
  | .tup _ => true
  | .frz _ _ => true
  | _ => false
def SameT (H H' : Hp) : Prop := ∀ a o, H a = some o → Fix o = true → H' a = some o
theorem SameT.refl (H : Hp) : SameT H H := fun _ _ h _ => h
theorem SameT.of {H H' : Hp} (e : Same H H') : SameT H H' := fun a o h _ => e a o h
theorem SameT.trans {H H1 H2 : Hp} (a : SameT H H1) (b : SameT H1 H2) : SameT H H2 := fun x o h f => b x o (a x o h f) f
theorem SameT.upd {H : Hp} {p : Addr} {o o' : HO} (h : H p = some o) (f : Fix o = false) : SameT H (upd H p o') := fun a u ha hu => by
  rw [upd_ne (fun e => by rw [e, h] at ha; rw [← Option.some.inj ha, f] at hu; exact nomatch hu)]
  exact ha
theorem sameT_t {K : PySem.W.Frag} {H H' : Hp} {a : Addr} {xs : List V} (e : SameT H H') (h : SqT K H a xs) : SqT K H' a xs := by
  rcases h with (h | ⟨o, h⟩) | h
  · exact .inl (.inl (e a _ h rfl))
  · exact .inl (.inr ⟨o, e a _ h rfl⟩)
  · exact .inr h
theorem FmAt.monoT {K : PySem.W.Frag} {H H' : Hp} (e : SameT H H') {v : V} {f : Fm} (h : FmAt K H v f) : FmAt K H' v f := by
  induction h with
  | num h => exact .num (sameT_t e h)
  | nam h => exact .nam (sameT_t e h)
  | op h _ _ i1 i2 => exact .op (sameT_t e h) i1 i2
mutual
theorem RwAt.go {K : PySem.W.Frag} {S S' : SQ} {H H' : Hp} (e : SameT H H') (s : ∀ a xs, S H a xs → S' H' a xs) : ∀ {v : V} {r : Rw}, RwAt K S H v r → RwAt K S' H' v r
  | _, _, .set h hf => .set (sameT_t e h) (hf.monoT e)
  | _, _, .tell h hf => .tell (sameT_t e h) (hf.monoT e)
  | _, _, .skip h => .skip (sameT_t e h)
  | _, _, .ite h hf hp hb hq hc => .ite (sameT_t e h) (hf.monoT e) (s _ _ hp) (BkAt.go e s hb) (s _ _ hq) (BkAt.go e s hc)
  | _, _, .whl h hf hp hb => .whl (sameT_t e h) (hf.monoT e) (s _ _ hp) (BkAt.go e s hb)
theorem BkAt.go {K : PySem.W.Frag} {S S' : SQ} {H H' : Hp} (e : SameT H H') (s : ∀ a xs, S H a xs → S' H' a xs) : ∀ {vs : List V} {l : List Rw}, BkAt K S H vs l → BkAt K S' H' vs l
  | _, _, .nil => .nil
  | _, _, .cons h t => .cons (RwAt.go e s h) (BkAt.go e s t)
end
theorem BkAt.monoT {K : PySem.W.Frag} {H H' : Hp} (e : SameT H H') {vs : List V} {l : List Rw} (h : BkAt K (SqT K) H vs l) : BkAt K (SqT K) H' vs l := h.go e fun _ _ => sameT_t e
theorem RwAt.monoT {K : PySem.W.Frag} {H H' : Hp} (e : SameT H H') {v : V} {r : Rw} (h : RwAt K (SqT K) H v r) : RwAt K (SqT K) H' v r := h.go e fun _ _ => sameT_t e
theorem BkAt.len {K : PySem.W.Frag} {S : SQ} {H : Hp} : ∀ {vs : List V} {l : List Rw}, BkAt K S H vs l → vs.length = l.length
  | _, _, .nil => rfl
  | _, _, .cons _ t => congrArg (· + 1) t.len
theorem BkAt.app {K : PySem.W.Frag} {S : SQ} {H : Hp} : ∀ {vs : List V} {l : List Rw} {us : List V} {m : List Rw}, BkAt K S H vs l → BkAt K S H us m → BkAt K S H (vs ++ us) (l ++ m)
  | _, _, _, _, .nil, h => h
  | _, _, _, _, .cons a t, h => .cons a (t.app h)
theorem BkAt.one {K : PySem.W.Frag} {S : SQ} {H : Hp} {v : V} {r : Rw} (h : RwAt K S H v r) : BkAt K S H [v] [r] := .cons h .nil
theorem BkAt.get {K : PySem.W.Frag} {S : SQ} {H : Hp} : ∀ {vs : List V} {l : List Rw} {i : Nat} {v : V}, BkAt K S H vs l → vs[i]? = some v → ∃ r, l[i]? = some r ∧ RwAt K S H v r
  | _, _, 0, _, .cons h _, e => ⟨_, rfl, by rw [← Option.some.inj e]; exact h⟩
  | _, _, i + 1, _, .cons _ t, e => t.get (i := i) e
  | _, _, _, _, .nil, e => by simp at e
theorem BkAt.ref {K : PySem.W.Frag} {S : SQ} {H : Hp} {v : V} {r : Rw} (h : RwAt K S H v r) : ∃ a, v = .ref a := by
  cases h <;> exact ⟨_, rfl⟩
def Fm.pd : Fm → PyData
  | .num n => .tuple [.str "number", .int n]
  | .nam x => .tuple [.str "name", .str x]
  | .op s a b => .tuple [.str s.txt, a.pd, b.pd]
theorem FmAt.dp {K : PySem.W.Frag} {H : Hp} {v : V} {f : Fm} (h : FmAt K H v f) : Dp K H v f.pd := by
  induction h with
  | num h => exact .tup h (.cons (.str _) (.cons (.int _) .nil))
  | nam h => exact .tup h (.cons (.str _) (.cons (.str _) .nil))
  | op h _ _ i1 i2 => exact .tup h (.cons (.str _) (.cons i1 (.cons i2 .nil)))
theorem sg_ok (s : Sg) : PyData.strOk s.txt = true := by cases s <;> decide +kernel
theorem num_ok : PyData.strOk ("number" : Str) = true := by decide +kernel
theorem nam_ok : PyData.strOk ("name" : Str) = true := by decide +kernel
theorem Fm.dk {ns : List Str} (hn : ∀ x ∈ ns, Nm x) : ∀ {f : Fm}, f.ok ns → Dk f.pd f.depth
  | .num _, _ => Dk.tup (dk_cons (Dk.str num_ok) (dk_cons Dk.int dk_nil))
  | .nam x, h => Dk.tup (dk_cons (Dk.str nam_ok) (dk_cons (Dk.str (ok_txt (hn x h))) dk_nil))
  | .op s a b, h => Dk.tup (dk_cons (Dk.str (sg_ok s)) (dk_cons ((Fm.dk hn h.1).mono (Nat.le_max_left _ _)) (dk_cons ((Fm.dk hn h.2).mono (Nat.le_max_right _ _)) dk_nil)))
mutual
def Rw.pd (B : List PyData → PyData) : Rw → PyData
  | .set x f => .tuple [.str "set", .str x, f.pd]
  | .tell f => .tuple [.str "tell", f.pd]
  | .skip => .tuple [.str "skip"]
  | .ite f a b => .tuple [.str "if", f.pd, B (pds B a), B (pds B b)]
  | .whl f a => .tuple [.str "while", f.pd, B (pds B a)]
def pds (B : List PyData → PyData) : List Rw → List PyData
  | [] => []
  | r :: l => r.pd B :: pds B l
end
mutual
theorem RwAt.dp {K : PySem.W.Frag} {S : SQ} {H : Hp} {B : List PyData → PyData} (s : ∀ a xs ds, S H a xs → DpAll K H xs ds → Dp K H (.ref a) (B ds)) : ∀ {v : V} {r : Rw}, RwAt K S H v r → Dp K H v (r.pd B)
  | _, _, .set h hf => .tup h (.cons (.str _) (.cons (.str _) (.cons hf.dp .nil)))
  | _, _, .tell h hf => .tup h (.cons (.str _) (.cons hf.dp .nil))
  | _, _, .skip h => .tup h (.cons (.str _) .nil)
  | _, _, .ite h hf hp hb hq hc => .tup h (.cons (.str _) (.cons hf.dp (.cons (s _ _ _ hp (BkAt.dp s hb)) (.cons (s _ _ _ hq (BkAt.dp s hc)) .nil))))
  | _, _, .whl h hf hp hb => .tup h (.cons (.str _) (.cons hf.dp (.cons (s _ _ _ hp (BkAt.dp s hb)) .nil)))
theorem BkAt.dp {K : PySem.W.Frag} {S : SQ} {H : Hp} {B : List PyData → PyData} (s : ∀ a xs ds, S H a xs → DpAll K H xs ds → Dp K H (.ref a) (B ds)) : ∀ {vs : List V} {l : List Rw}, BkAt K S H vs l → DpAll K H vs (pds B l)
  | _, _, .nil => .nil
  | _, _, .cons h t => .cons (RwAt.dp s h) (BkAt.dp s t)
end
theorem set_ok : PyData.strOk ("set" : Str) = true := by decide +kernel
theorem tell_ok : PyData.strOk ("tell" : Str) = true := by decide +kernel
theorem skip_ok : PyData.strOk ("skip" : Str) = true := by decide +kernel
theorem if_ok : PyData.strOk ("if" : Str) = true := by decide +kernel
theorem while_ok : PyData.strOk ("while" : Str) = true := by decide +kernel
mutual
theorem Rw.dk {ns : List Str} (hn : ∀ x ∈ ns, Nm x) {B : List PyData → PyData} (s : ∀ ds k, (∀ d ∈ ds, Dk d k) → Dk (B ds) (k + 1)) : ∀ {r : Rw}, r.ok ns → Dk (r.pd B) (2 * r.nest + 11)
  | .set x f, h => (Dk.tup (k := 12) (dk_cons (Dk.str set_ok) (dk_cons (Dk.str (ok_txt (hn x h.1))) (dk_cons ((Fm.dk hn h.2.1).mono h.2.2) dk_nil)))).mono (Nat.le_refl 13)
  | .tell f, h => (Dk.tup (k := 12) (dk_cons (Dk.str tell_ok) (dk_cons ((Fm.dk hn h.1).mono h.2) dk_nil))).mono (Nat.le_refl 13)
  | .skip, _ => (Dk.tup (k := 12) (dk_cons (Dk.str skip_ok) dk_nil)).mono (Nat.le_refl 13)
  | .ite f a b, h => by
    have e : (Rw.ite f a b).nest = 1 + max (nests a) (nests b) := rfl
    have q1 := s _ _ (pds_dk hn s h.2.1)
    have q2 := s _ _ (pds_dk hn s h.2.2)
    exact (Dk.tup (k := 2 * max (nests a) (nests b) + 12) (dk_cons (Dk.str if_ok) (dk_cons ((Fm.dk hn h.1.1).mono (Nat.le_trans h.1.2 (by omega))) (dk_cons (q1.mono (by omega)) (dk_cons (q2.mono (by omega)) dk_nil))))).mono (by omega)
  | .whl f a, h => by
    have e : (Rw.whl f a).nest = 1 + nests a := rfl
    have q1 := s _ _ (pds_dk hn s h.2)
    exact (Dk.tup (k := 2 * nests a + 12) (dk_cons (Dk.str while_ok) (dk_cons ((Fm.dk hn h.1.1).mono (Nat.le_trans h.1.2 (by omega))) (dk_cons (q1.mono (by omega)) dk_nil)))).mono (by omega)
theorem pds_dk {ns : List Str} (hn : ∀ x ∈ ns, Nm x) {B : List PyData → PyData} (s : ∀ ds k, (∀ d ∈ ds, Dk d k) → Dk (B ds) (k + 1)) : ∀ {l : List Rw}, oks ns l → ∀ d ∈ pds B l, Dk d (2 * nests l + 11)
  | [], _ => dk_nil
  | r :: l, h => by
    have e : nests (r :: l) = max r.nest (nests l) := rfl
    exact dk_cons ((Rw.dk hn s h.1).mono (by omega)) fun d hd => (pds_dk hn s h.2 d hd).mono (by omega)
end
theorem tupB {K : PySem.W.Frag} {H : Hp} : ∀ a xs ds, SqT K H a xs → DpAll K H xs ds → Dp K H (.ref a) (PyData.tuple ds) := fun _ _ _ h t => .tup h t
theorem tupD : ∀ (ds : List PyData) k, (∀ d ∈ ds, Dk d k) → Dk (.tuple ds) (k + 1) := fun _ _ h => Dk.tup h
section
variable {K : PySem.W.Frag} {σ : L2.St} {H : Hp} {ta tb : TE} {t u : TT} {Q : VK}
theorem w_andP {c d : Bool} {Q : Bool → Hp → Prop} (h1 : ∀ Q : Bool → Hp → Prop, Q c H → t σ H Q) (h2 : ∀ Q : Bool → Hp → Prop, Q d H → u σ H Q) (q : Q (c && d) H) : tAnd t u σ H Q := by
  refine w_and (h1 _ ?_)
  cases c with
  | true => exact iteT (h2 _ q)
  | false => exact iteF q
end
structure Frm where
  a : Addr
  r : Addr
  kd : Nat
  f : Fm
  rows : List Rw
  sec : Bool
  els : Option (List Rw)
def kdT : Nat → Str
  | 0 => ""
  | 1 => "if"
  | _ => "while"
def elSz : Option (List Rw) → Nat
  | none => 0
  | some b => szs b
def Frm.w (x : Frm) : Nat := szs x.rows + elSz x.els + 2
def Frm.mu (x : Frm) : Nat := if x.kd = 1 ∧ x.els = none then 2 else 1
def ElAt (K : PySem.W.Frag) (H : Hp) (v : V) : Option (List Rw) → Prop
  | none => v = .non
  | some b => ∃ p ys, v = .ref p ∧ SqT K H p ys ∧ BkAt K (SqT K) H ys b
theorem ElAt.monoT {K : PySem.W.Frag} {H H' : Hp} (e : SameT H H') {v : V} : ∀ {o : Option (List Rw)}, ElAt K H v o → ElAt K H' v o
  | none, h => h
  | some _, ⟨p, ys, h1, h2, h3⟩ => ⟨p, ys, h1, sameT_t e h2, h3.monoT e⟩
structure FrIn (K : PySem.W.Frag) (H : Hp) (x : Frm) (vf ve : V) (xs : List V) : Prop where
  ha : H x.a = some (.lst [.str (kdT x.kd), vf, .ref x.r, .bl x.sec, ve])
  hr : H x.r = some (.lst xs)
  hb : BkAt K (SqT K) H xs x.rows
  f0 : x.kd = 0 → vf = .non
  f1 : x.kd ≠ 0 → FmAt K H vf x.f
  he : ElAt K H ve x.els
def FrAt (K : PySem.W.Frag) (H : Hp) (x : Frm) : Prop := ∃ vf ve xs, FrIn K H x vf ve xs
theorem FrIn.moves {K : PySem.W.Frag} {H H' : Hp} {x : Frm} {vf ve : V} {xs : List V} (e : SameT H H') (h : FrIn K H x vf ve xs) (ha : H' x.a = H x.a) (hr : H' x.r = H x.r) : FrIn K H' x vf ve xs :=
  ⟨ha.trans h.ha, hr.trans h.hr, h.hb.monoT e, h.f0, fun c => (h.f1 c).monoT e, h.he.monoT e⟩
theorem FrAt.mono {K : PySem.W.Frag} {H H' : Hp} {x : Frm} (e : Same H H') (h : FrAt K H x) : FrAt K H' x := by
  obtain ⟨vf, ve, xs, h⟩ := h
  exact ⟨vf, ve, xs, h.moves (SameT.of e) ((e _ _ h.ha).trans h.ha.symm) ((e _ _ h.hr).trans h.hr.symm)⟩
theorem FrAt.other {K : PySem.W.Frag} {H : Hp} {x : Frm} {q : Addr} {zs : List V} {o : HO} (h : FrAt K H x) (hq : H q = some (.lst zs)) (na : x.a ≠ q) (nr : x.r ≠ q) : FrAt K (upd H q o) x := by
  obtain ⟨vf, ve, xs, h⟩ := h
  exact ⟨vf, ve, xs, h.moves (SameT.upd hq rfl) (upd_ne na) (upd_ne nr)⟩
theorem bk_not5 {K : PySem.W.Frag} {H : Hp} {z : Str} {b c d e : V} {l : List Rw} (h : BkAt K (SqT K) H [.str z, b, c, d, e] l) : False := by
  cases h with
  | cons h _ =>
    obtain ⟨a, e⟩ := BkAt.ref h
    exact nomatch e
theorem FrAt.ne {K : PySem.W.Frag} {H : Hp} {x : Frm} {q : Addr} {zs : List V} {l : List Rw} (h : FrAt K H x) (hq : H q = some (.lst zs)) (hb : BkAt K (SqT K) H zs l) : x.a ≠ q := by
  intro e
  obtain ⟨vf, ve, xs, h⟩ := h
  have := h.ha
  rw [e, hq] at this
  have := HO.lst.inj (Option.some.inj this)
  rw [this] at hb
  exact bk_not5 hb
structure Stk (K : PySem.W.Frag) (H0 H : Hp) (st : Addr) (ns : List Str) (L : List Frm) (W : Nat) : Prop where
  same : Same H0 H
  s0 : H0 st = none
  hs : H st = some (.lst (L.map fun x => .ref x.a))
  fr : ∀ x ∈ L, FrAt K H x
  r0 : ∀ x ∈ L, H0 x.r = none
  ra : ∀ x ∈ L, x.r ≠ st
  nd : (L.map (·.r)).Nodup
  ok : ∀ x ∈ L, oks ns x.rows ∧ (x.kd ≠ 0 → x.f.fine ns) ∧ ∀ b, x.els = some b → oks ns b
  nest : ∀ (i : Nat) x, L[i]? = some x → nests x.rows + i ≤ 8 ∧ (∀ b, x.els = some b → nests b + i ≤ 8) ∧ (i = 0 → x.kd = 0 ∧ x.els = none) ∧ (0 < i → x.kd ≠ 0)
  len : 1 ≤ L.length ∧ L.length ≤ 8
  w : (L.map Frm.w).sum ≤ W
def mus (L : List Frm) : Nat := (L.map Frm.mu).sum
section
variable {K : PySem.W.Frag} {H0 H H' : Hp} {st : Addr} {ns : List Str} {L : List Frm} {W : Nat}
theorem Stk.mono (S : Stk K H0 H st ns L W) (e : Same H H') : Stk K H0 H' st ns L W :=
  ⟨S.same.trans e, S.s0, e _ _ S.hs, fun x hx => (S.fr x hx).mono e, S.r0, S.ra, S.nd, S.ok, S.nest, S.len, S.w⟩
theorem Stk.wle (S : Stk K H0 H st ns L W) {W' : Nat} (h : W ≤ W') : Stk K H0 H st ns L W' :=
  ⟨S.same, S.s0, S.hs, S.fr, S.r0, S.ra, S.nd, S.ok, S.nest, S.len, Nat.le_trans S.w h⟩
theorem ref_not5 {z : Str} {b c d e : V} {l : List Frm} (h : [.str z, b, c, d, e] = l.map fun x => V.ref x.a) : False := by
  cases l with
  | nil => exact nomatch h
  | cons x r => exact nomatch (List.cons.inj h).1
theorem Stk.ast (S : Stk K H0 H st ns L W) {x : Frm} (hx : FrAt K H x) : x.a ≠ st := by
  intro e
  obtain ⟨vf, ve, xs, h⟩ := hx
  have := h.ha
  rw [e, S.hs] at this
  exact ref_not5 (HO.lst.inj (Option.some.inj this)).symm
theorem Stk.other {q : Addr} {zs zs' : List V} (S : Stk K H0 H st ns L W) (q0 : H0 q = none) (hq : H q = some (.lst zs)) (qs : q ≠ st) (qa : ∀ x ∈ L, x.a ≠ q) (qr : ∀ x ∈ L, x.r ≠ q) : Stk K H0 (upd H q (.lst zs')) st ns L W :=
  ⟨same_mut S.same q0, S.s0, (upd_ne qs.symm).trans S.hs, fun x hx => (S.fr x hx).other hq (qa x hx) (qr x hx), S.r0, S.ra, S.nd, S.ok, S.nest, S.len, S.w⟩
theorem sum_snoc (l : List Nat) (n : Nat) : (l ++ [n]).sum = l.sum + n := by simp
/-- one more row in the topmost frame -/
theorem Stk.row {x : Frm} {vf ve v : V} {xs : List V} {r : Rw} (S : Stk K H0 H st ns (L ++ [x]) W) (h : FrIn K H x vf ve xs) (hv : RwAt K (SqT K) H v r) (ho : r.ok ns) (hn : r.nest + L.length ≤ 8) :
    Stk K H0 (upd H x.r (.lst (xs ++ [v]))) st ns (L ++ [{ x with rows := x.rows ++ [r] }]) (W + r.size) := by
  have hx : x ∈ L ++ [x] := List.mem_append_right _ (List.mem_singleton.mpr rfl)
  have eT : SameT H (upd H x.r (.lst (xs ++ [v]))) := SameT.upd h.hr rfl
  have nd := S.nd
  rw [List.map_append, List.nodup_append] at nd
  have rx : ∀ y ∈ L, y.r ≠ x.r := fun y hy => nd.2.2 y.r (List.mem_map.mpr ⟨y, hy, rfl⟩) x.r (List.mem_map.mpr ⟨x, List.mem_singleton.mpr rfl, rfl⟩)
  have hm : ∀ y ∈ L ++ [{ x with rows := x.rows ++ [r] }], y ∈ L ∨ y = { x with rows := x.rows ++ [r] } := fun y hy => (List.mem_append.mp hy).imp_right List.mem_singleton.mp
  refine ⟨same_mut S.same (S.r0 x hx), S.s0, ?_, ?_, ?_, ?_, ?_, ?_, ?_, ?_, ?_⟩
  · rw [upd_ne (S.ra x hx).symm, S.hs, List.map_append, List.map_append] <;> rfl
  · intro y hy
    rcases hm y hy with hy | rfl
    · exact (S.fr y (List.mem_append_left _ hy)).other h.hr ((S.fr y (List.mem_append_left _ hy)).ne h.hr h.hb) (rx y hy)
    · exact ⟨vf, ve, xs ++ [v], (upd_ne (FrAt.ne ⟨vf, ve, xs, h⟩ h.hr h.hb)).trans h.ha, upd_same, (h.hb.app (BkAt.one hv)).monoT eT, h.f0, fun c => (h.f1 c).monoT eT, h.he.monoT eT⟩
  · intro y hy
    rcases hm y hy with hy | rfl
    · exact S.r0 y (List.mem_append_left _ hy)
    · exact S.r0 x hx
  · intro y hy
    rcases hm y hy with hy | rfl
    · exact S.ra y (List.mem_append_left _ hy)
    · exact S.ra x hx
  · have := S.nd
    rw [List.map_append] at this ⊢
    exact this
  · intro y hy
    rcases hm y hy with hy | rfl
    · exact S.ok y (List.mem_append_left _ hy)
    · have := S.ok x hx
      exact ⟨oks_app this.1 ⟨ho, trivial⟩, this.2⟩
  · intro i y hy
    rcases Nat.lt_or_ge i L.length with lt | ge
    · rw [List.getElem?_append_left lt] at hy
      exact S.nest i y (by rw [List.getElem?_append_left lt]; exact hy)
    · rw [List.getElem?_append_right ge] at hy
      have hj : i - L.length = 0 := by
        have := (List.getElem?_eq_some_iff.mp hy).1
        simp only [List.length_singleton] at this
        omega
      have hi : i = L.length := by omega
      rw [hj] at hy
      have hy := Option.some.inj hy
      have q := S.nest i x (by rw [List.getElem?_append_right ge, hj]; rfl)
      rw [← hy]
      refine ⟨?_, q.2⟩
      show nests (x.rows ++ [r]) + i ≤ 8
      rw [nests_app]
      have : nests [r] = r.nest := by show max r.nest 0 = r.nest; omega
      rw [this]
      have := q.1
      omega
  · have := S.len
    rw [List.length_append] at this ⊢
    exact this
  · have := S.w
    rw [List.map_append, List.map_cons, List.map_nil, sum_snoc] at this ⊢
    have : Frm.w { x with rows := x.rows ++ [r] } = x.w + r.size := by
      show szs (x.rows ++ [r]) + elSz x.els + 2 = szs x.rows + elSz x.els + 2 + r.size
      rw [szs_app]
      have : szs [r] = r.size := by show r.size + 0 = r.size; omega
      rw [this]
      omega
    rw [this]
    omega
/-- a new frame -/
theorem Stk.push {x : Frm} (S : Stk K H0 H st ns L W) (h : FrAt K H x) (r0 : H0 x.r = none) (rs : x.r ≠ st) (rr : ∀ y ∈ L, y.r ≠ x.r) (kd : x.kd ≠ 0) (ok : oks ns x.rows ∧ (x.kd ≠ 0 → x.f.fine ns) ∧ ∀ b, x.els = some b → oks ns b)
    (hl : L.length < 8) (n1 : nests x.rows + L.length ≤ 8) (n2 : ∀ b, x.els = some b → nests b + L.length ≤ 8) :
    Stk K H0 (upd H st (.lst (L.map (fun x => V.ref x.a) ++ [.ref x.a]))) st ns (L ++ [x]) (W + x.w) := by
  have hm : ∀ y ∈ L ++ [x], y ∈ L ∨ y = x := fun y hy => (List.mem_append.mp hy).imp_right List.mem_singleton.mp
  refine ⟨same_mut S.same S.s0, S.s0, ?_, ?_, ?_, ?_, ?_, ?_, ?_, ?_, ?_⟩
  · rw [upd_same, List.map_append] <;> rfl
  · intro y hy
    rcases hm y hy with hy | rfl
    · exact (S.fr y hy).other S.hs (S.ast (S.fr y hy)) (S.ra y hy)
    · exact h.other S.hs (S.ast h) rs
  · intro y hy
    rcases hm y hy with hy | rfl
    · exact S.r0 y hy
    · exact r0
  · intro y hy
    rcases hm y hy with hy | rfl
    · exact S.ra y hy
    · exact rs
  · rw [List.map_append, List.nodup_append]
    refine ⟨S.nd, List.nodup_cons.mpr ⟨List.not_mem_nil, List.nodup_nil⟩, fun u hu w hw => ?_⟩
    obtain ⟨y, hy, rfl⟩ := List.mem_map.mp hu
    rw [List.mem_singleton.mp hw]
    exact rr y hy
  · intro y hy
    rcases hm y hy with hy | rfl
    · exact S.ok y hy
    · exact ok
  · intro i y hy
    rcases Nat.lt_or_ge i L.length with lt | ge
    · rw [List.getElem?_append_left lt] at hy
      exact S.nest i y hy
    · rw [List.getElem?_append_right ge] at hy
      have hj : i - L.length = 0 := by
        have := (List.getElem?_eq_some_iff.mp hy).1
        simp only [List.length_singleton] at this
        omega
      have hi : i = L.length := by omega
      rw [hj] at hy
      have hy := Option.some.inj hy
      have l1 := S.len.1
      rw [← hy, hi]
      exact ⟨n1, n2, fun c => by omega, fun _ => kd⟩
  · rw [List.length_append, List.length_singleton]
    have := S.len
    omega
  · have := S.w
    rw [List.map_append, List.map_cons, List.map_nil, sum_snoc]
    omega
/-- the topmost frame is taken off -/
theorem Stk.pop {x : Frm} (S : Stk K H0 H st ns (L ++ [x]) W) (hl : L ≠ []) : Stk K H0 (upd H st (.lst (L.map fun x => .ref x.a))) st ns L (W - x.w) ∧ FrAt K (upd H st (.lst (L.map fun x => .ref x.a))) x := by
  have hx : x ∈ L ++ [x] := List.mem_append_right _ (List.mem_singleton.mpr rfl)
  have hm : ∀ y ∈ L, y ∈ L ++ [x] := fun y hy => List.mem_append_left _ hy
  refine ⟨⟨same_mut S.same S.s0, S.s0, upd_same, fun y hy => (S.fr y (hm y hy)).other S.hs (S.ast (S.fr y (hm y hy))) (S.ra y (hm y hy)), fun y hy => S.r0 y (hm y hy), fun y hy => S.ra y (hm y hy), ?_, fun y hy => S.ok y (hm y hy), ?_, ?_, ?_⟩,
    (S.fr x hx).other S.hs (S.ast (S.fr x hx)) (S.ra x hx)⟩
  · have := S.nd
    rw [List.map_append, List.nodup_append] at this
    exact this.1
  · intro i y hy
    exact S.nest i y (by rw [List.getElem?_append_left (List.getElem?_eq_some_iff.mp hy).1]; exact hy)
  · have := S.len
    rw [List.length_append] at this
    have := List.length_pos_iff.mpr hl
    omega
  · have := S.w
    rw [List.map_append, List.map_cons, List.map_nil, sum_snoc] at this
    omega
theorem snoc_of {α : Type} {l : List α} (h : l ≠ []) : ∃ m x, l = m ++ [x] := ⟨l.dropLast, l.getLast h, (List.dropLast_concat_getLast h).symm⟩
end
def sp_law_all_names (K : PySem.W.Frag) (n : Nat) : Sp := fun vs H Q _ => ∃ (v : V) (f : Fm), vs = [v] ∧ FmAt K H v f ∧ f.depth ≤ n ∧ f.depth ≤ 18 ∧ ∀ p H', Same H H' → H p = none → H' p = some (.lst (f.names.map V.str)) → Q (.ref p) H'
def sp_law_row_by (K : PySem.W.Frag) : Sp := fun vs H Q _ => ∃ (a : Addr) (ns : List Str) (m : Int) (d : Bool) (o : Int), vs = [.ref a, .int m, .bl d, .int o] ∧ SqL K H a (ns.map V.str) ∧ Ten ns ∧
  ∀ (p : Addr) (H' : Hp) (u : V) (f : Fm) (b : Bool), Same H H' → SqT K H' p [u, .bl b] → FmAt K H' u f → f.ok ns → f.depth ≤ 4 → Q (.ref p) H'
def sp_law_closed (K : PySem.W.Frag) : Sp := fun vs H Q _ => ∃ (H0 : Hp) (st : Addr) (ns : List Str) (L : List Frm) (W : Nat), vs = [.ref st] ∧ Stk K H0 H st ns L W ∧ 2 ≤ L.length ∧ W ≤ 1000 ∧
  ∀ (v : V) (H' : Hp) (L' : List Frm), Stk K H0 H' st ns L' W → mus L' < mus L → Q v H'
def sp_law_put (K : PySem.W.Frag) : Sp := fun vs H Q _ => ∃ (H0 : Hp) (st a : Addr) (ns : List Str) (L : List Frm) (W : Nat) (m o : Int), vs = [.ref st, .ref a, .int m, .int o] ∧ Stk K H0 H st ns L W ∧ SqL K H0 a (ns.map V.str) ∧ Ten ns ∧ 0 ≤ o ∧ o ≤ 2 ∧ W ≤ 1000 ∧
  ∀ (v : V) (H' : Hp) (L' : List Frm), Stk K H0 H' st ns L' (W + 2) → Q v H'
structure GoodB (K : PySem.W.Frag) (H : Hp) (ns : List Str) (xs : List V) (b : List Rw) : Prop where
  at_ : BkAt K (SqT K) H xs b
  ok : oks ns b
  nest : nests b ≤ 8
def sp_law_block_by (K : PySem.W.Frag) : Sp := fun vs H Q _ => ∃ (c a : Addr) (cells : List Int) (ns : List Str) (o : Int), vs = [.ref c, .ref a, .int o] ∧ SqL K H c (cells.map V.int) ∧ cells.length ≤ 63 ∧ SqL K H a (ns.map V.str) ∧ Ten ns ∧
  ∀ (p : Addr) (H' : Hp) (xs : List V) (b : List Rw), Same H H' → H p = none → H' p = some (.lst xs) → GoodB K H' ns xs b → szs b ≤ 130 → Q (.ref p) H'
abbrev N_law_all_names : List Str := ["_law_formula_here"]
def t_law_all_names (K : PySem.W.Frag) (n : Nat) : TS :=
  (tSeq (tIfS (tTest (tOp (rEq2 K) (tOp (rIx K) (tVar 0) (tC (.int 0))) (tC (.str "number")))) (tRet (tLst tNil)) tNext) (tSeq (tIfS (tTest (tOp (rEq2 K) (tOp (rIx K) (tVar 0) (tC (.int 0))) (tC (.str "name")))) (tRet (tLst (tCons (tOp (rIx K) (tVar 0) (tC (.int 1))) tNil))) tNext) (tRet (tOp (rAdd K) (tF (sp_law_all_names K n) (tCons (tOp (rIx K) (tVar 0) (tC (.int 1))) tNil)) (tF (sp_law_all_names K n) (tCons (tOp (rIx K) (tVar 0) (tC (.int 2))) tNil))))))
abbrev N_law_row_by : List Str := ["_law_names_here", "_law_more_here", "_law_dark", "_law_mode", "_law_low", "_law_some", "_law_formula_here", "_law_name"]
def t_law_row_by_j1 (K : PySem.W.Frag) : TS :=
  (tSeq (tAsg (tF (sp_law_formula_by K 6) (tCons (tVar 1) (tCons (tVar 5) (tCons (tVar 4) (tCons (tOrV (tOp rGt (tVar 3) (tC (.int 0))) (tNotV (tVar 2))) (tCons (tOp (rAdd K) (tC (.int 1)) (tOp rMod (tOp rDiv (tVar 1) (tC (.int 24))) (tC (.int 4)))) tNil)))))) (gName 6)) (tRet (tTup (tCons (tVar 6) (tCons (tOp (rNe2 K) (tLc (iSeq K (tF (sp_law_all_names K 18) (tCons (tVar 6) tNil))) (gName 7) (tTest (tOp (rIn2 K false) (tVar 7) (tSl (rSl K) (tVar 0) (tPart (tC (.int 5))) tNoPart))) (tVar 7) [7]) (tLst tNil)) tNil)))))
def t_law_row_by_j2 (K : PySem.W.Frag) : TS :=
  (tSeq (tIfS (tTest (tOp rGt (tVar 3) (tC (.int 0)))) (tAsg (tVar 5) (gName 4)) tNext) (t_law_row_by_j1 K))
def t_law_row_by (K : PySem.W.Frag) : TS :=
  (tSeq (tAsg (tSl (rSl K) (tVar 0) tNoPart (tPart (tC (.int 5)))) (gName 4)) (tSeq (tAsg (tVar 0) (gName 5)) (tSeq (tIfS (tOr (tAnd (tTest (tOp (rEq2 K) (tVar 3) (tC (.int 0)))) (tTest (tOp (rEq2 K) (tOp rMod (tOp rDiv (tVar 1) (tC (.int 12))) (tC (.int 2))) (tC (.int 0))))) (tAnd (tTest (tOp (rEq2 K) (tVar 3) (tC (.int 2)))) (tAnd (tB (tVar 2)) (tTest (tOp rGt (tOp rMod (tOp rDiv (tVar 1) (tC (.int 12))) (tC (.int 3))) (tC (.int 0))))))) (tAsg (tVar 4) (gName 5)) (tIfS (tTest (tOp (rEq2 K) (tVar 3) (tC (.int 2)))) (tAsg (tSl (rSl K) (tVar 0) (tPart (tC (.int 5))) tNoPart) (gName 5)) tNext)) (t_law_row_by_j2 K))))
abbrev N_law_closed : List Str := ["_law_stack", "_law_frame"]
def t_law_closed_j1 (K : PySem.W.Frag) : TS :=
  (tDrop (tBM K "list" rAppend (tOp (rIx K) (tOp (rIx K) (tVar 0) (tUn rNeg (tC (.int 1)))) (tC (.int 2))) (tCons (tTup (tCons (tC (.str "while")) (tCons (tOp (rIx K) (tVar 1) (tC (.int 1))) (tCons (tCB (rTupO K) (tCons (tOp (rIx K) (tVar 1) (tC (.int 2))) tNil)) tNil)))) tNil)))
def t_law_closed (K : PySem.W.Frag) : TS :=
  (tSeq (tAsg (tBM0 K "list" rPop (tVar 0)) (gName 1)) (tIfS (tTest (tOp (rEq2 K) (tOp (rIx K) (tVar 1) (tC (.int 0))) (tC (.str "while")))) (tSeq (tIfS (tAnd (tTest (tOp (rEq2 K) (tOp (rIx K) (tOp (rIx K) (tVar 1) (tC (.int 1))) (tC (.int 0))) (tC (.str "<")))) (tTest (tOp (rEq2 K) (tOp (rIx K) (tOp (rIx K) (tOp (rIx K) (tVar 1) (tC (.int 1))) (tC (.int 1))) (tC (.int 0))) (tC (.str "name"))))) (tDrop (tBM K "list" rAppend (tOp (rIx K) (tVar 1) (tC (.int 2))) (tCons (tTup (tCons (tC (.str "set")) (tCons (tOp (rIx K) (tOp (rIx K) (tOp (rIx K) (tVar 1) (tC (.int 1))) (tC (.int 1))) (tC (.int 1))) (tCons (tTup (tCons (tC (.str "+")) (tCons (tOp (rIx K) (tOp (rIx K) (tVar 1) (tC (.int 1))) (tC (.int 1))) (tCons (tTup (tCons (tC (.str "number")) (tCons (tC (.int 1)) tNil))) tNil)))) tNil)))) tNil))) tNext) (t_law_closed_j1 K)) (tIfS (tTest (tOp (rIsN2 false) (tOp (rIx K) (tVar 1) (tC (.int 4))) (tC .non))) (tDrop (tBM K "list" rAppend (tVar 0) (tCons (tLst (tCons (tOp (rIx K) (tVar 1) (tC (.int 0))) (tCons (tOp (rIx K) (tVar 1) (tC (.int 1))) (tCons (tLst tNil) (tCons (tOp (rIx K) (tVar 1) (tC (.int 3))) (tCons (tCB (rTupO K) (tCons (tOp (rIx K) (tVar 1) (tC (.int 2))) tNil)) tNil)))))) tNil))) (tDrop (tBM K "list" rAppend (tOp (rIx K) (tOp (rIx K) (tVar 0) (tUn rNeg (tC (.int 1)))) (tC (.int 2))) (tCons (tTup (tCons (tC (.str "if")) (tCons (tOp (rIx K) (tVar 1) (tC (.int 1))) (tCons (tOp (rIx K) (tVar 1) (tC (.int 4))) (tCons (tCB (rTupO K) (tCons (tOp (rIx K) (tVar 1) (tC (.int 2))) tNil)) tNil))))) tNil))))))
abbrev N_law_put : List Str := ["_law_stack", "_law_names_here", "_law_more_here", "_law_mode", "_law_way", "_law_dark", "_law_frame", "_law_formula_here", "_law_secret", "_law_shut", "_law_some"]
def t_law_put_j1 (K : PySem.W.Frag) : TS :=
  (tDrop (tBM K "list" rAppend (tOp (rIx K) (tOp (rIx K) (tVar 0) (tUn rNeg (tC (.int 1)))) (tC (.int 2))) (tCons (tTup (tCons (tC (.str "set")) (tCons (tOp (rIx K) (tVar 10) (tOp rMod (tOp rDiv (tVar 2) (tC (.int 96))) (tCB (rLenA K) (tCons (tVar 10) tNil)))) (tCons (tVar 7) tNil)))) tNil)))
def t_law_put_j2 (K : PySem.W.Frag) : TS :=
  (tDrop (tBM K "list" rAppend (tVar 0) (tCons (tLst (tCons (tC (.str "while")) (tCons (tVar 7) (tCons (tLst tNil) (tCons (tVar 8) (tCons (tC .non) tNil)))))) tNil)))
def t_law_put_j3 (K : PySem.W.Frag) : TS :=
  (tIfS (tTest (tOp rLt (tVar 4) (tC (.int 4)))) (tSeq (tAsg (tOp (rIx K) (tLst (tCons (tVar 1) (tCons (tVar 1) (tCons (tOp (rIx K) (tLst (tCons (tSl (rSl K) (tVar 1) tNoPart (tPart (tC (.int 5)))) (tCons (tSl (rSl K) (tVar 1) (tPart (tC (.int 5))) tNoPart) tNil))) (tCB rInt (tCons (tOp (rEq2 K) (tOp rMod (tOp rDiv (tVar 2) (tC (.int 7))) (tC (.int 4))) (tC (.int 3))) tNil))) tNil)))) (tVar 3)) (gName 10)) (tSeq (tIfS (tB (tVar 9)) (tAsg (tSl (rSl K) (tVar 1) (tPart (tC (.int 5))) tNoPart) (gName 10)) tNext) (t_law_put_j1 K))) (tIfS (tAnd (tTest (tOp (rEq2 K) (tVar 4) (tC (.int 4)))) (tNot (tB (tVar 9)))) (tDrop (tBM K "list" rAppend (tOp (rIx K) (tOp (rIx K) (tVar 0) (tUn rNeg (tC (.int 1)))) (tC (.int 2))) (tCons (tTup (tCons (tC (.str "tell")) (tCons (tVar 7) tNil))) tNil))) (tIfS (tTest (tOp (rEq2 K) (tVar 4) (tC (.int 5)))) (tDrop (tBM K "list" rAppend (tOp (rIx K) (tOp (rIx K) (tVar 0) (tUn rNeg (tC (.int 1)))) (tC (.int 2))) (tCons (tTup (tCons (tC (.str "skip")) tNil)) tNil))) (tIfS (tAnd (tTest (tOp rLt (tVar 4) (tC (.int 8)))) (tTest (tOp rLt (tCB (rLenA K) (tCons (tVar 0) tNil)) (tC (.int 8))))) (tDrop (tBM K "list" rAppend (tVar 0) (tCons (tLst (tCons (tC (.str "if")) (tCons (tVar 7) (tCons (tLst tNil) (tCons (tVar 8) (tCons (tC .non) tNil)))))) tNil))) (tIfS (tAnd (tTest (tOp rLt (tVar 4) (tC (.int 10)))) (tAnd (tTest (tOp rLt (tCB (rLenA K) (tCons (tVar 0) tNil)) (tC (.int 8)))) (tNot (tB (tVar 9))))) (tSeq (tIfS (tAnd (tTest (tOp (rEq2 K) (tVar 3) (tC (.int 0)))) (tTest (tOp rGt (tOp rMod (tOp rDiv (tVar 2) (tC (.int 96))) (tC (.int 4))) (tC (.int 0))))) (tAsg (tTup (tCons (tC (.str "<")) (tCons (tTup (tCons (tC (.str "name")) (tCons (tOp (rIx K) (tVar 1) (tOp rMod (tOp rDiv (tVar 2) (tC (.int 384))) (tC (.int 5)))) tNil))) (tCons (tTup (tCons (tC (.str "number")) (tCons (tOp (rAdd K) (tC (.int 1)) (tOp rMod (tOp rDiv (tVar 2) (tC (.int 1920))) (tC (.int 4)))) tNil))) tNil)))) (gName 7)) tNext) (t_law_put_j2 K)) (tIfS (tTest (tOp rGt (tCB (rLenA K) (tCons (tVar 0) tNil)) (tC (.int 1)))) (tDrop (tF (sp_law_closed K) (tCons (tVar 0) tNil))) tNext))))))
def t_law_put (K : PySem.W.Frag) : TS :=
  (tSeq (tAsg (tOp rMod (tVar 2) (tC (.int 12))) (gName 4)) (tSeq (tAsg (tOp (rNe2 K) (tLc (iSeq K (tVar 0)) (gName 6) (tB (tOp (rIx K) (tVar 6) (tC (.int 3)))) (tVar 6) [6]) (tLst tNil)) (gName 5)) (tSeq (tAsg (tF (sp_law_row_by K) (tCons (tVar 1) (tCons (tVar 2) (tCons (tVar 5) (tCons (tVar 3) tNil))))) (gTup K 2 (gCons (gName 7) (gCons (gName 8) gNil)))) (tSeq (tAsg (tAndV (tOp (rEq2 K) (tVar 3) (tC (.int 0))) (tOrV (tVar 5) (tVar 8))) (gName 9)) (tSeq (tIfS (tTest (tOp (rEq2 K) (tVar 3) (tC (.int 2)))) (tAsg (tOp (rIx K) (tLst (tCons (tC (.int 0)) (tCons (tC (.int 4)) (tCons (tC (.int 8)) (tCons (tC (.int 0)) tNil))))) (tOp rMod (tOp rDiv (tVar 2) (tC (.int 7))) (tC (.int 4)))) (gName 4)) tNext) (t_law_put_j3 K))))))
abbrev N_law_block_by : List Str := ["_law_cells", "_law_names_here", "_law_loose", "_law_stack", "_law_turn", "_law_cell", "_law_more_here", "_law_mode"]
def t_law_block_by_j1 (K : PySem.W.Frag) : TS :=
  (tDrop (tF (sp_law_put K) (tCons (tVar 3) (tCons (tVar 1) (tCons (tVar 6) (tCons (tVar 7) tNil))))))
def t_law_block_by_j2 (K : PySem.W.Frag) : TS :=
  (tSeq (tIfS (tAnd (tTest (tOp rGt (tVar 2) (tC (.int 1)))) (tTest (tOp (rEq2 K) (tVar 4) (tOp rMod (tVar 2) (tCB (rLenA K) (tCons (tVar 0) tNil)))))) (tAsg (tC (.int 2)) (gName 7)) tNext) (t_law_block_by_j1 K))
def t_law_block_by (K : PySem.W.Frag) : TS :=
  (tSeq (tAsg (tLst (tCons (tLst (tCons (tC (.str "")) (tCons (tC .non) (tCons (tLst tNil) (tCons (tC (.bl false)) (tCons (tC .non) tNil)))))) tNil)) (gName 3)) (tSeq (tFor (iEnum K (tCons (tVar 0) tNil)) (gTup K 2 (gCons (gName 4) (gCons (gName 5) gNil))) (tSeq (tAsg (tF (sp_law_mixed K) (tCons (tOp rMul (tF (sp_law_mixed K) (tCons (tOp (rAdd K) (tVar 5) (tOp rMul (tC (.int 131)) (tVar 4))) tNil)) (tOp (rAdd K) (tVar 4) (tC (.int 2)))) tNil)) (gName 6)) (tSeq (tAsg (tC (.int 0)) (gName 7)) (tSeq (tIfS (tAnd (tTest (tOp (rEq2 K) (tVar 2) (tC (.int 1)))) (tTest (tOp (rEq2 K) (tOp rMod (tOp rDiv (tVar 6) (tC (.int 4096))) (tC (.int 4))) (tC (.int 0))))) (tAsg (tC (.int 1)) (gName 7)) tNext) (t_law_block_by_j2 K))))) (tSeq (tWhile (tTest (tOp rGt (tCB (rLenA K) (tCons (tVar 3) tNil)) (tC (.int 1)))) (tDrop (tF (sp_law_closed K) (tCons (tVar 3) tNil)))) (tRet (tOp (rIx K) (tOp (rIx K) (tVar 3) (tC (.int 0))) (tC (.int 2)))))))
theorem pure_law_all_names (K : PySem.W.Frag) (n : Nat) (vs : List V) (H : Hp) (Q : VK) (E : XK) (h : sp_law_all_names K (n + 1) vs H Q E) :
    t_law_all_names K n { nx := fun _ H' => Q .non H', rt := Q } (start N_law_all_names vs) H := by
  obtain ⟨v, f, rfl, hf, hd, hn, q⟩ := h
  unfold t_law_all_names
  cases hf with
  | num h =>
    walk_at "go"
    exact w_new (by walk_at "sz") (fun p hp => q _ _ (same_new hp) hp upd_same)
  | nam h =>
    walk_at "go"
    exact w_new (by walk_at "sz") (fun p hp => q _ _ (same_new hp) hp upd_same)
  | @op a s u v f g h h1 h2 =>
    have e1 := sg_num s
    have e2 := sg_nam s
    have l1 : f.depth ≤ n := by simp only [Fm.depth] at hd; omega
    have l2 : g.depth ≤ n := by simp only [Fm.depth] at hd; omega
    have k1 : f.depth ≤ 18 := by simp only [Fm.depth] at hn; omega
    have k2 : g.depth ≤ 18 := by simp only [Fm.depth] at hn; omega
    walk_at "go"
    refine ⟨_, f, rfl, h1, l1, k1, fun p H1 e hp hp1 => ?_⟩
    walk_at "go"
    refine ⟨_, g, rfl, h2.mono e, l2, k2, fun p2 H2 e' hp2 hp3 => ?_⟩
    have y1 := Fm.names_small18 k1
    have y2 := Fm.names_small18 k2
    refine w_addL (e' p _ hp1) hp3 (sz (by rw [List.length_map, List.length_map]; omega)) fun p4 hp4 => ?_
    exact q _ _ ((e.trans e').trans (same_new hp4)) (none_of (e.trans e') hp4) (by rw [upd_same, ← List.map_append] <;> rfl)
theorem no_law_all_names {K : PySem.W.Frag} : ∀ vs H Q E, ¬ sp_law_all_names K 0 vs H Q E := by
  rintro vs H Q E ⟨v, f, _, _, h, _⟩
  have := f.depth_pos
  omega
theorem cut_map {α : Type} {f : α → V} {xs : List α} (lo hi : Option Int) : ∃ ys, cutV (xs.map f) lo hi = ys.map f ∧ List.Sublist ys xs := by
  unfold cutV
  exact ⟨_, by rw [← List.map_drop, ← List.map_take], (List.take_sublist _ _).trans (List.drop_sublist _ _)⟩
theorem cut_lo {α : Type} {f : α → V} {xs : List α} {k : Nat} : cutV (xs.map f) none (some (k : Int)) = (xs.take k).map f := by
  unfold cutV
  rw [HT.sIx_none, show HT.sIx (xs.map f).length (xs.map f).length (some (k : Int)) = min k (xs.map f).length from HT.sIx_nat _ _ k, List.drop_zero, Nat.sub_zero, ← List.map_take, List.length_map]
  congr 1
  rcases Nat.le_total k xs.length with h | h
  · rw [Nat.min_eq_left h]
  · rw [Nat.min_eq_right h, List.take_of_length_le (Nat.le_refl _), List.take_of_length_le h]
theorem cut_hi {α : Type} {f : α → V} {xs : List α} {k : Nat} : cutV (xs.map f) (some (k : Int)) none = (xs.drop k).map f := by
  unfold cutV
  rw [HT.sIx_none, show HT.sIx (xs.map f).length 0 (some (k : Int)) = min k (xs.map f).length from HT.sIx_nat _ _ k, List.length_map]
  rw [← List.map_drop]
  rcases Nat.le_total k xs.length with h | h
  · rw [Nat.min_eq_left h, List.take_of_length_le (by rw [List.length_map, List.length_drop] <;> exact Nat.le_refl _)]
  · rw [Nat.min_eq_right h, List.drop_of_length_le (Nat.le_refl _), List.drop_of_length_le h]
    simp
/-- some of a list, by a test of each -/
theorem lc_filter {K : PySem.W.Frag} {α : Type} {f : α → V} {ys : List α} {a : Addr} {g : TG} {tt : TT} {te : TE} {vs : List Nat} {σ : L2.St} {H0 : Hp} {D : Addr} {Qd : Hp → Prop} (p : α → Bool) (hv : α → V) (hq : SqL K H0 a (ys.map f)) (hl : ys.length ≤ 16000000) (hD : H0 D = none)
    (hs : ∀ x H (Nx : Hp → Prop), x ∈ ys → Same H0 H → (∃ zs, H D = some (.lst zs)) → (p x = true → ∀ H4, Same H H4 → ∃ acc, H4 D = some (.lst acc) ∧ acc.length < sizeLine ∧ Nx (upd H4 D (.lst (acc ++ [hv x])))) → (p x = false → ∀ H4, Same H H4 → Nx H4) →
      g (f x) (wipe σ vs) H fun σ2 H2 => wipe σ2 vs = wipe σ vs ∧ tt σ2 H2 fun b H3 => if b = true then te σ2 H3 fun y H4 => ∃ acc, H4 D = some (.lst acc) ∧ acc.length < sizeLine ∧ Nx (upd H4 D (.lst (acc ++ [y]))) else Nx H3)
    (hd : ∀ H, Same H0 H → H D = some (.lst ((ys.filter p).map hv)) → Qd H) :
    ∃ W : Nat → Nat → Hp → Prop, (∃ m, W 0 m (upd H0 D (.lst []))) ∧ ∀ i m H, W i m H →
      ((Itl K a).stop i H ∧ Qd H) ∨ ((Itl K a).go i H ∧ ∃ Nx : Hp → Prop, (∀ H', Nx H' → ∃ m', m' < m ∧ W (i + 1) m' H') ∧ ∀ x H', (Itl K a).yld i H x H' → g x (wipe σ vs) H' fun σ2 H2 => wipe σ2 vs = wipe σ vs ∧ tt σ2 H2 fun b H3 =>
        if b = true then te σ2 H3 fun y H4 => ∃ acc, H4 D = some (.lst acc) ∧ acc.length < sizeLine ∧ Nx (upd H4 D (.lst (acc ++ [y]))) else Nx H3) := by
  refine lc_list (xs := ys.map f) (fun i H => Same H0 H ∧ H D = some (.lst (((ys.take i).filter p).map hv))) ⟨same_new hD, upd_same⟩ (fun i H _ h => same_l h.1 hq) ?_ ?_
  · rintro i x H hx ⟨e, hD2⟩
    rw [List.getElem?_map] at hx
    cases c : ys[i]? with
    | none => rw [c] at hx; exact nomatch hx
    | some y =>
      rw [c] at hx
      obtain rfl : f y = x := Option.some.inj hx
      have tk : ys.take (i + 1) = ys.take i ++ [y] := by rw [List.take_succ, c] <;> rfl
      refine hs y H _ (List.mem_of_getElem? c) e ⟨_, hD2⟩ (fun hp H4 e4 => ?_) (fun hp H4 e4 => ?_)
      · refine ⟨_, e4 D _ hD2, Nat.lt_of_le_of_lt (Nat.le_trans (by rw [List.length_map]; exact Nat.le_trans (List.length_filter_le _ _) (List.length_take_le' _ _)) hl) (by decide), same_mut (e.trans e4) hD, ?_⟩
        rw [upd_same, tk, List.filter_append, List.map_append, List.filter_cons_of_pos hp] <;> rfl
      · refine ⟨e.trans e4, ?_⟩
        rw [e4 D _ hD2, tk, List.filter_append, List.filter_cons_of_neg (by rw [hp]; decide), List.filter_nil, List.append_nil]
  · rintro H ⟨e, hD2⟩
    rw [List.length_map, List.take_length] at hD2
    exact hd H e hD2
theorem pure_law_row_by (K : PySem.W.Frag) (vs : List V) (H : Hp) (Q : VK) (E : XK) (h : sp_law_row_by K vs H Q E) :
    t_law_row_by K { nx := fun _ H' => Q .non H', rt := Q } (start N_law_row_by vs) H := by
  obtain ⟨a, ns, m, d, o, rfl, hS, hT, q⟩ := h
  unfold t_law_row_by
  have m4 := mod_in (m / 24) (show (0 : Int) < 4 by decide)
  have j2 : ∀ (H1 : Hp) (c e : Addr) (ls ms : List Str), Same H H1 → SqL K H1 c (ls.map V.str) → SqL K H1 e (ms.map V.str) → List.Sublist ls ns → List.Sublist ms ns →
      t_law_row_by_j2 K { nx := fun _ H' => Q .non H', rt := Q } [some (.ref a), some (.int m), some (.bl d), some (.int o), some (.ref c), some (.ref e), none, none] H1 := by
    intro H1 c e ls ms e1 hc he sl sm
    unfold t_law_row_by_j2
    have j1 : ∀ (H2 : Hp) (c : Addr) (ls : List Str), Same H H2 → SqL K H2 c (ls.map V.str) → SqL K H2 e (ms.map V.str) → List.Sublist ls ns →
        t_law_row_by_j1 K { nx := fun _ H' => Q .non H', rt := Q } [some (.ref a), some (.int m), some (.bl d), some (.int o), some (.ref c), some (.ref e), none, none] H2 := by
      intro H2 c ls e2 hc he sl
      unfold t_law_row_by_j1
      have fml : ∀ b : Bool, sp_law_formula_by K 6 [.int m, .ref e, .ref c, .bl b, .int (1 + m / 24 % 4)] H2 (fun x H1 => (tRet (tTup (tCons (tVar 6) (tCons (tOp (rNe2 K) (tLc (iSeq K (tF (sp_law_all_names K 18) (tCons (tVar 6) tNil))) (gName 7) (tTest (tOp (rIn2 K false) (tVar 7) (tSl (rSl K) (tVar 0) (tPart (tC (.int 5))) tNoPart))) (tVar 7) [7]) (tLst tNil)) tNil)))) { nx := fun _ H' => Q .non H', rt := Q }
            [some (.ref a), some (.int m), some (.bl d), some (.int o), some (.ref c), some (.ref e), some x, none] H1) E0 := by
        intro b
        have nl : ns.length ≤ 1000 := by rw [hT.len]; decide
        refine ⟨m, e, c, ms, ls, b, _, rfl, he, hc, fun x hx => hT.nm x (sm.subset hx), fun x hx => hT.nm x (sl.subset hx), Nat.le_trans sm.length_le nl, Nat.le_trans sl.length_le nl, by omega, by omega, fun u H3 f hf e3 ho hd => ?_⟩
        have ho' : f.ok ns := Fm.ok_mono (fun x hx => (List.mem_append.mp hx).elim (fun h => sm.subset h) fun h => sl.subset h) ho
        have hd4 : f.depth ≤ 4 := by omega
        walk_at "go"
        refine w_lc ?_
        walk_at "go"
        refine ⟨_, f, rfl, hf, by omega, by omega, fun p1 H4 e4 hp1 hp2 => ?_⟩
        refine w_isL (SqL.of hp2) (fun D hD => ?_)
        refine lc_filter (ys := f.names) (fun x => decide (x ∈ ns.drop 5)) V.str (SqL.of hp2) (Nat.le_trans (Fm.names_small18 (by omega)) (by decide)) hD ?_ ?_
        · rintro x H5 Nx hx e5 ⟨zs, hzs⟩ yes no
          refine ⟨rfl, ?_⟩
          have hS5 := same_l (e2.trans (e3.trans (e4.trans e5))) hS
          walk_at "go"
          refine w_slL hS5 (fun p6 hp6 => ?_)
          have := cut_hi (f := V.str) (xs := ns) (k := 5)
          refine w_inTxt (xs := ns.drop 5) (by rw [← this]; exact SqL.of upd_same) ?_
          walk_at "go"
          refine w_two (fun c => ?_) (fun c => ?_)
          · walk_at "go"
            exact yes c _ (same_new hp6)
          · exact no c _ (same_new hp6)
        · intro H5 e5 hD5
          walk_at "go"
          refine w_new (by walk_at "sz") (fun p6 hp6 => ?_)
          have nmz : ∀ x ∈ f.names.filter (fun x => decide (x ∈ ns.drop 5)), PyData.strOk x = true := fun x hx => ok_txt (hT.nm x (Fm.ok_names ho' x (List.mem_filter.mp hx).1))
          refine w_neTxt (xs := f.names.filter fun x => decide (x ∈ ns.drop 5)) (ys := []) (SqL.of ((same_new hp6) D _ hD5)) (SqL.of upd_same) nmz (fun x hx => nomatch hx) ?_
          walk_at "go"
          refine w_new (by walk_at "sz") (fun p7 hp7 => ?_)
          have e67 := e4.trans (e5.trans (same_new (o := .lst []) hp6))
          exact q p7 _ u f _ (e2.trans (e3.trans (e67.trans (same_new hp7)))) (SqT.of upd_same) (hf.mono (e67.trans (same_new hp7))) ho' hd4
      walk_at "go"
      refine w_two (fun c1 => ?_) (fun c1 => ?_)
      · walk_at "go"
        exact fml _
      · walk_at "go"
        exact fml _
    walk_at "go"
    refine w_two (fun c1 => ?_) (fun c1 => ?_)
    · walk_at "go"
      exact j1 H1 e ms e1 he he sm
    · walk_at "go"
      exact j1 H1 c ls e1 hc he sl
  walk_at "go"
  have c5 : cutV (ns.map V.str) none (some 5) = (ns.take 5).map V.str := cut_lo (k := 5)
  have c6 : cutV (ns.map V.str) (some 5) none = (ns.drop 5).map V.str := cut_hi (k := 5)
  refine w_slL hS (fun p1 hp1 => ?_)
  rw [c5]
  have e1 := same_new (o := .lst ((ns.take 5).map V.str)) hp1
  have hp1' : upd H p1 (.lst ((ns.take 5).map V.str)) p1 = _ := upd_same
  generalize upd H p1 (.lst ((ns.take 5).map V.str)) = H1 at e1 hp1'
  have hS1 := same_l e1 hS
  have low := j2 H1 p1 p1 _ _ e1 (SqL.of hp1') (SqL.of hp1') (List.take_sublist 5 ns) (List.take_sublist 5 ns)
  have all := j2 H1 p1 a _ _ e1 (SqL.of hp1') hS1 (List.take_sublist 5 ns) (List.Sublist.refl _)
  have high : ∀ p2, H1 p2 = none → t_law_row_by_j2 K { nx := fun _ H' => Q .non H', rt := Q } [some (.ref a), some (.int m), some (.bl d), some (.int o), some (.ref p1), some (.ref p2), none, none] (upd H1 p2 (.lst ((ns.drop 5).map V.str))) := fun p2 hp2 =>
    j2 _ p1 p2 _ _ (e1.trans (same_new hp2)) (SqL.of ((same_new hp2) p1 _ hp1')) (SqL.of upd_same) (List.take_sublist 5 ns) (List.drop_sublist 5 ns)
  repeat' (first | walk_at "go1" | (refine w_two (fun _ => ?_) (fun _ => ?_)) | (refine w_slL hS1 (fun p2 hp2 => ?_); rw [c6]; exact high p2 hp2) | exact low | exact all)
theorem at_last {α : Type} {f : α → V} {L : List α} {x : α} : atI ((L ++ [x]).map f) (-1) = some (f x) := by
  have e : (L ++ [x]).map f = L.map f ++ [f x] := by rw [List.map_append] <;> rfl
  rw [e]
  exact atI_last _ _
theorem sum_le {l : List Nat} {n : Nat} (h : n ∈ l) : n ≤ l.sum := by
  induction l with
  | nil => exact nomatch h
  | cons m r ih =>
    rw [List.sum_cons]
    rcases List.mem_cons.mp h with e | h
    · omega
    · have := ih h; omega
theorem pure_law_closed (K : PySem.W.Frag) (vs : List V) (H : Hp) (Q : VK) (E : XK) (h : sp_law_closed K vs H Q E) :
    t_law_closed K { nx := fun _ H' => Q .non H', rt := Q } (start N_law_closed vs) H := by
  obtain ⟨H0, st, ns, L, W, rfl, S, hl, hW0, q⟩ := h
  obtain ⟨M, x, rfl⟩ := snoc_of (show L ≠ [] from fun e => by rw [e] at hl; simp at hl)
  have hM : M ≠ [] := fun e => by rw [e] at hl; simp at hl
  obtain ⟨L1, y, rfl⟩ := snoc_of hM
  unfold t_law_closed
  have hx : x ∈ (L1 ++ [y]) ++ [x] := List.mem_append_right _ (List.mem_singleton.mpr rfl)
  have hy0 : y ∈ L1 ++ [y] := List.mem_append_right _ (List.mem_singleton.mpr rfl)
  have hxk : x.kd ≠ 0 := by
    have := S.nest (L1 ++ [y]).length x (by rw [List.getElem?_append_right (Nat.le_refl _), Nat.sub_self]; rfl)
    exact this.2.2.2 (by rw [List.length_append, List.length_singleton]; omega)
  have xok := S.ok x hx
  have xn := S.nest (L1 ++ [y]).length x (by rw [List.getElem?_append_right (Nat.le_refl _), Nat.sub_self]; rfl)
  have xrs := S.ra x hx
  have x0 := S.r0 x hx
  have nd := S.nd
  rw [List.map_append, List.nodup_append] at nd
  have rne : ∀ z ∈ L1 ++ [y], z.r ≠ x.r := fun z hz => nd.2.2 z.r (List.mem_map.mpr ⟨z, hz, rfl⟩) x.r (List.mem_map.mpr ⟨x, List.mem_singleton.mpr rfl, rfl⟩)
  obtain ⟨S1, F1⟩ := S.pop hM
  have hW : x.w ≤ W := Nat.le_trans (sum_le (List.mem_map.mpr ⟨x, hx, rfl⟩)) S.w
  have dl : (((L1 ++ [y]) ++ [x]).map fun x => V.ref x.a).dropLast = (L1 ++ [y]).map fun x => V.ref x.a := by
    rw [List.map_append, List.map_cons, List.map_nil, List.dropLast_concat]
  have lst : (((L1 ++ [y]) ++ [x]).map fun x => V.ref x.a)[(((L1 ++ [y]) ++ [x]).map fun x => V.ref x.a).length - 1]? = some (.ref x.a) := by
    rw [List.map_append (l₁ := L1 ++ [y]), List.length_append, List.getElem?_append_right (by simp only [List.length_map, List.length_singleton]; omega)]
    simp
  walk_at "go"
  refine ⟨.inl ⟨rfl, _, SqL.of S.hs⟩, ?_⟩
  refine w_pop S.hs lst ?_
  rw [dl]
  walk_at "go"
  generalize hH1 : upd H st (.lst ((L1 ++ [y]).map fun x => V.ref x.a)) = H1 at S1 F1
  obtain ⟨vf, ve, xs, G⟩ := F1
  have hf := G.f1 hxk
  have hst := S1.hs
  have hst1 : H1 x.a = some (.lst [.str (kdT x.kd), vf, .ref x.r, .bl x.sec, ve]) := G.ha
  -- the row that comes of the frame is put into the next one
  have close : ∀ (H3 : Hp) (T : Addr) (r : Rw) (vf3 ve3 : V) (zs : List V), Stk K H0 H3 st ns (L1 ++ [y]) (W - x.w) → FrIn K H3 y vf3 ve3 zs → RwAt K (SqT K) H3 (.ref T) r → r.ok ns → r.size ≤ x.w → r.nest + L1.length ≤ 8 →
      rAppend (.ref y.r) [.ref T] H3 (fun v H4 => Q .non H4) := by
    intro H3 T r vf3 ve3 zs S3 G3 hr ro rs rn
    have b1 : szs y.rows ≤ y.w := by unfold Frm.w; omega
    have b2 : y.w ≤ W - x.w := Nat.le_trans (sum_le (List.mem_map.mpr ⟨y, hy0, rfl⟩)) S3.w
    have b3 := szs_len y.rows
    have b4 := G3.hb.len
    refine w_app G3.hr (Nat.lt_of_le_of_lt (by omega : zs.length ≤ 1000) (by decide)) (q _ _ _ ((S3.row G3 hr ro rn).wle (by omega)) ?_)
    unfold mus
    rw [List.map_append, List.map_append (l₁ := L1 ++ [y]), List.map_append, List.map_cons, List.map_nil, List.map_cons, List.map_nil, List.map_cons, List.map_nil, sum_snoc, sum_snoc, sum_snoc]
    have : 1 ≤ x.mu := by unfold Frm.mu; split <;> omega
    have e : Frm.mu { y with rows := y.rows ++ [r] } = y.mu := rfl
    rw [e]
    omega
  have xl : L1.length + 1 + nests x.rows ≤ 8 := by have := xn.1; rw [List.length_append, List.length_singleton] at this; omega
  have yl : L1.length + 2 ≤ 8 := by have := S.len.2; simp only [List.length_append, List.length_singleton] at this; omega
  have j1 : ∀ (H3 : Hp) (xs3 : List V) (rows3 : List Rw), Stk K H0 H3 st ns (L1 ++ [y]) (W - x.w) → H3 x.a = some (.lst [.str "while", vf, .ref x.r, .bl x.sec, ve]) → H3 x.r = some (.lst xs3) → BkAt K (SqT K) H3 xs3 rows3 → FmAt K H3 vf x.f → oks ns rows3 →
      szs rows3 ≤ szs x.rows + 1 → nests rows3 ≤ max (nests x.rows) 1 → t_law_closed_j1 K { nx := fun _ H' => Q .non H', rt := Q } [some (.ref st), some (.ref x.a)] H3 := by
    intro H3 xs3 rows3 S3 h1 h2 h3 h4 h5 h6 h7
    unfold t_law_closed_j1
    obtain ⟨vf3, ve3, zs, G3⟩ := S3.fr y hy0
    have hst3 := S3.hs
    have gy := G3.ha
    have gr := G3.hr
    walk_at "go"
    refine w_ixL (SqL.of hst3) at_last ?_
    walk_at "go"
    refine w_tupL (SqL.of h2) (fun t1 ht1 => ?_)
    walk_at "go"
    refine w_new (by walk_at "sz") (fun T hT => ?_)
    have e1 := same_new (o := .tup xs3) ht1
    have e12 := e1.trans (same_new (o := .tup [.str "while", vf, .ref t1]) hT)
    refine close _ T (.whl x.f rows3) vf3 ve3 zs (S3.mono e12) (G3.moves (SameT.of e12) ((e12 _ _ gy).trans gy.symm) ((e12 _ _ gr).trans gr.symm))
      (.whl (SqT.of upd_same) (h4.mono e12) (sameT_t (SameT.of (same_new hT)) (SqT.of upd_same)) (h3.monoT (SameT.of e12))) ⟨xok.2.1 hxk, h5⟩ ?_ ?_
    · show 1 + szs rows3 ≤ szs x.rows + elSz x.els + 2
      omega
    · show 1 + nests rows3 + L1.length ≤ 8
      omega
  have other : ∀ (H2 : Hp) (xs2 xs3 : List V) (l : List Rw), Stk K H0 H2 st ns (L1 ++ [y]) (W - x.w) → H2 x.r = some (.lst xs2) → BkAt K (SqT K) H2 xs2 l → Stk K H0 (upd H2 x.r (.lst xs3)) st ns (L1 ++ [y]) (W - x.w) := fun H2 xs2 xs3 l S2 h hb =>
    S2.other x0 h xrs (fun z hz => (S2.fr z hz).ne h hb) rne
  rcases Nat.lt_or_ge x.kd 2 with k2 | k2
  · -- an if
    have k1 : x.kd = 1 := by omega
    have hk1 : kdT x.kd = "if" := by rw [k1] <;> rfl
    rw [hk1] at hst1
    have gxr := G.hr
    cases hel : x.els with
    | none =>
      have hve : ve = .non := by have := G.he; rw [hel] at this; exact this
      subst hve
      walk_at "go"
      refine w_new (by walk_at "sz") (fun r' hr' => ?_)
      have e1 := same_new (o := .lst []) hr'
      have a1 := e1 _ _ hst1
      have g1 := e1 _ _ gxr
      have r1 : upd H1 r' (.lst []) r' = _ := upd_same
      generalize upd H1 r' (.lst []) = H2 at e1 a1 g1 r1
      walk_at "go"
      refine w_tupL (SqL.of g1) (fun t1 ht1 => ?_)
      have e2 := same_new (o := .tup xs) ht1
      have t2 : upd H2 t1 (.tup xs) t1 = _ := upd_same
      have r2 := e2 _ _ r1
      generalize upd H2 t1 (.tup xs) = H3 at e2 t2 r2
      walk_at "go"
      refine w_new (by walk_at "sz") (fun F hF => ?_)
      have e3 := same_new (o := .lst [.str "if", vf, .ref r', .bl x.sec, .ref t1]) hF
      have f3 : upd H3 F (.lst [.str "if", vf, .ref r', .bl x.sec, .ref t1]) F = _ := upd_same
      have r3 := e3 _ _ r2
      have t3 := sameT_t (K := K) (SameT.of e3) (SqT.of t2)
      generalize upd H3 F (.lst [.str "if", vf, .ref r', .bl x.sec, .ref t1]) = H4 at e3 f3 r3 t3
      have e14 := e1.trans (e2.trans e3)
      have S4 := S1.mono e14
      have P := S4.push (x := { x with a := F, r := r', rows := [], els := some x.rows }) ⟨vf, .ref t1, [], by show H4 F = some (.lst [.str (kdT x.kd), vf, .ref r', .bl x.sec, .ref t1]); rw [hk1]; exact f3, r3, .nil, fun c => absurd (show x.kd = 0 from c) hxk, fun _ => hf.mono e14, t1, xs, rfl, t3, G.hb.monoT (SameT.of e14)⟩
        (none_of S1.same hr') (ne_of_none hst hr').symm (fun z hz => by obtain ⟨_, _, _, Gz⟩ := S1.fr z hz; exact ne_of_none Gz.hr hr') hxk ⟨trivial, xok.2.1, fun b hb => by rw [← Option.some.inj hb]; exact xok.1⟩
        (by rw [List.length_append, List.length_singleton]; omega) (by rw [List.length_append, List.length_singleton]; show 0 + _ ≤ 8; omega) (fun b hb => by rw [← Option.some.inj hb, List.length_append, List.length_singleton]; omega)
      have xw : x.w = szs x.rows + 2 := by unfold Frm.w; rw [hel]; show szs x.rows + 0 + 2 = _; omega
      have xw' : Frm.w { x with a := F, r := r', rows := [], els := some x.rows } = szs x.rows + 2 := by show 0 + szs x.rows + 2 = _; omega
      refine w_app S4.hs (Nat.lt_of_le_of_lt (by rw [List.length_map, List.length_append, List.length_singleton]; omega : _ ≤ 8) (by decide)) (q _ _ _ (P.wle (by omega)) ?_)
      unfold mus
      rw [List.map_append, List.map_append (l₂ := [x]), List.map_cons, List.map_nil, List.map_cons (a := x), List.map_nil, sum_snoc, sum_snoc]
      have m1 : x.mu = 2 := by unfold Frm.mu; rw [if_pos ⟨k1, hel⟩]
      have m2 : Frm.mu { x with a := F, r := r', rows := [], els := some x.rows } = 1 := by unfold Frm.mu; rw [if_neg (fun c => nomatch c.2)]
      omega
    | some b =>
      obtain ⟨p, ys, rfl, hp, hpb⟩ : ElAt K H1 ve (some b) := by have := G.he; rw [hel] at this; exact this
      obtain ⟨vf3, ve3, zs, G3⟩ := S1.fr y hy0
      have gy := G3.ha
      have gr := G3.hr
      walk_at "go"
      refine w_ixL (SqL.of hst) at_last ?_
      walk_at "go"
      refine w_tupL (SqL.of gxr) (fun t1 ht1 => ?_)
      walk_at "go"
      refine w_new (by walk_at "sz") (fun T hT => ?_)
      have e1 := same_new (o := .tup xs) ht1
      have e12 := e1.trans (same_new (o := .tup [.str "if", vf, .ref p, .ref t1]) hT)
      have bn := xn.2.1 b hel
      rw [List.length_append, List.length_singleton] at bn
      have xw : x.w = szs x.rows + szs b + 2 := by unfold Frm.w; rw [hel] <;> rfl
      refine close _ T (.ite x.f b x.rows) vf3 ve3 zs (S1.mono e12) (G3.moves (SameT.of e12) ((e12 _ _ gy).trans gy.symm) ((e12 _ _ gr).trans gr.symm))
        (.ite (SqT.of upd_same) (hf.mono e12) (sameT_t (SameT.of e12) hp) (hpb.monoT (SameT.of e12)) (sameT_t (SameT.of (same_new hT)) (SqT.of upd_same)) (G.hb.monoT (SameT.of e12))) ⟨xok.2.1 hxk, xok.2.2 b hel, xok.1⟩ ?_ ?_
      · show 1 + (szs b + szs x.rows) ≤ x.w
        omega
      · show 1 + max (nests b) (nests x.rows) + L1.length ≤ 8
        omega
  · -- a while
    have hk : kdT x.kd = "while" := by
      match h : x.kd with
      | 0 => rw [h] at k2; omega
      | 1 => rw [h] at k2; omega
      | _ + 2 => rfl
    rw [hk] at hst1
    have gxr := G.hr
    have base := j1 H1 xs x.rows S1 hst1 gxr G.hb hf xok.1 (by omega) (by omega)
    -- name < ..: one more row
    cases hx1 : x.f with
    | num i =>
      rw [hx1] at hf
      cases hf with
      | num hq => walk_at "go"; exact base
    | nam i =>
      rw [hx1] at hf
      cases hf with
      | nam hq => walk_at "go"; exact base
    | op s f1 f2 =>
      have hff := hf
      rw [hx1] at hf
      cases hf with
      | op hq hu hv =>
        walk_at "go"
        refine w_two (fun c1 => ?_) (fun c1 => ?_)
        · cases hu with
          | num hq1 => walk_at "go"; exact base
          | @op pu s2 u1 v1 g1 g2 hq1 hu1 hv1 =>
            have sn := sg_nam s2
            walk_at "go"
            exact base
          | @nam pu z hq1 =>
            walk_at "go"
            refine w_new (by walk_at "sz") (fun n1 hn1 => ?_)
            walk_at "go"
            refine w_new (by walk_at "sz") (fun n2 hn2 => ?_)
            walk_at "go"
            refine w_new (by walk_at "sz") (fun n3 hn3 => ?_)
            have d1 := same_new (o := .tup [.str "number", .int 1]) hn1
            have d2 := same_new (o := .tup [.str "+", .ref pu, .ref n1]) hn2
            have d3 := same_new (o := .tup [.str "set", .str z, .ref n2]) hn3
            have d13 := d1.trans (d2.trans d3)
            have y3 := SqT.of (K := K) (upd_same (H := upd (upd H1 n1 (.tup [.str "number", .int 1])) n2 (.tup [.str "+", .ref pu, .ref n1])) (a := n3) (o := .tup [.str "set", .str z, .ref n2]))
            have y2 := same_t d3 (SqT.of (K := K) (upd_same (H := upd H1 n1 (.tup [.str "number", .int 1])) (a := n2) (o := .tup [.str "+", .ref pu, .ref n1])))
            have y1 := same_t (d2.trans d3) (SqT.of (K := K) (upd_same (H := H1) (a := n1) (o := .tup [.str "number", .int 1])))
            generalize upd (upd (upd H1 n1 (.tup [.str "number", .int 1])) n2 (.tup [.str "+", .ref pu, .ref n1])) n3 (.tup [.str "set", .str z, .ref n2]) = H4 at d13 y1 y2 y3
            have g4 := d13 _ _ gxr
            have hz : z ∈ ns := by have := (xok.2.1 hxk).1; rw [hx1] at this; exact this.1
            have b1 : szs x.rows ≤ x.w := by unfold Frm.w; omega
            have b3 := szs_len x.rows
            have b4 := G.hb.len
            have xne := FrAt.ne ⟨_, ve, xs, G⟩ G.hr G.hb
            have hr4 : RwAt K (SqT K) H4 (.ref n3) (.set z (.op .add (.nam z) (.num 1))) := .set y3 (.op (s := .add) y2 (.nam (same_t d13 hq1)) (.num y1))
            have eT : SameT H4 (upd H4 x.r (.lst (xs ++ [.ref n3]))) := SameT.upd g4 rfl
            have eT1 := (SameT.of d13).trans eT
            walk_at "go"
            refine w_app g4 (Nat.lt_of_le_of_lt (by omega : xs.length ≤ 1000) (by decide)) ?_
            refine j1 _ (xs ++ [.ref n3]) (x.rows ++ [.set z (.op .add (.nam z) (.num 1))]) (other H4 xs _ x.rows (S1.mono d13) g4 (G.hb.monoT (SameT.of d13))) ((upd_ne xne).trans (d13 _ _ hst1)) upd_same ((G.hb.monoT eT1).app (BkAt.one (hr4.monoT eT)))
              (by rw [hx1]; rw [hx1] at hff; exact hff.monoT eT1) (oks_app (b := [.set z (.op .add (.nam z) (.num 1))]) xok.1 ⟨⟨hz, ⟨⟨hz, by decide, by decide⟩, show 2 ≤ 12 from by decide⟩⟩, trivial⟩) ?_ ?_
            · rw [szs_app]; exact Nat.le_refl _
            · rw [nests_app]; exact Nat.le_refl _
        · walk_at "go"
          exact base
local macro_rules | `(tactic| walk_at "pv") => `(tactic| (intro Qp qp; walk_at "go"; exact qp))
theorem root_ok : PyData.strOk ("" : Str) = true := by decide +kernel
theorem kdT_ok (k : Nat) : PyData.strOk (kdT k) = true := by
  match k with
  | 0 => exact root_ok
  | 1 => exact if_ok
  | _ + 2 => exact while_ok
theorem frs_dp {K : PySem.W.Frag} {H : Hp} {ns : List Str} (hn : ∀ x ∈ ns, Nm x) : ∀ {L : List Frm}, (∀ x ∈ L, FrAt K H x) → (∀ x ∈ L, oks ns x.rows ∧ (x.kd ≠ 0 → x.f.fine ns) ∧ ∀ b, x.els = some b → oks ns b) → (∀ x ∈ L, nests x.rows ≤ 8 ∧ ∀ b, x.els = some b → nests b ≤ 8) →
    ∃ ds, DpAll K H (L.map fun x => .ref x.a) ds ∧ ∀ d ∈ ds, Dk d 40
  | [], _, _, _ => ⟨[], .nil, dk_nil⟩
  | x :: L, h1, h2, h3 => by
    obtain ⟨ds, i1, i2⟩ := frs_dp hn (L := L) (fun y hy => h1 y (List.mem_cons_of_mem _ hy)) (fun y hy => h2 y (List.mem_cons_of_mem _ hy)) fun y hy => h3 y (List.mem_cons_of_mem _ hy)
    obtain ⟨vf, ve, xs, G⟩ := h1 x List.mem_cons_self
    have o := h2 x List.mem_cons_self
    have n := h3 x List.mem_cons_self
    have df : ∃ d, Dp K H vf d ∧ Dk d 30 := by
      rcases Nat.eq_zero_or_pos x.kd with k | k
      · rw [G.f0 k]; exact ⟨_, .non, Dk.non⟩
      · have c : x.kd ≠ 0 := by omega
        have q := o.2.1 c
        exact ⟨_, (G.f1 c).dp, (Fm.dk hn q.1).mono (Nat.le_trans q.2 (by decide))⟩
    have de : ∃ d, Dp K H ve d ∧ Dk d 30 := by
      have he := G.he
      cases e : x.els with
      | none => rw [e] at he; rw [show ve = .non from he]; exact ⟨_, .non, Dk.non⟩
      | some b =>
        rw [e] at he
        obtain ⟨p, ys, rfl, hp, hb⟩ := he
        exact ⟨_, .tup hp (hb.dp tupB), Dk.tup fun d hd => (pds_dk hn tupD (o.2.2 b e) d hd).mono (by have := n.2 b e; omega)⟩
    obtain ⟨d1, f1, f2⟩ := df
    obtain ⟨d2, g1, g2⟩ := de
    exact ⟨_, .cons (.lst (SqL.of G.ha) (.cons (.str _) (.cons f1 (.cons (.lst (SqL.of G.hr) (G.hb.dp tupB)) (.cons (.bl _) (.cons g1 .nil)))))) i1,
      dk_cons (Dk.list (k := 39) (dk_cons (Dk.str (kdT_ok _)) (dk_cons (f2.mono (by decide)) (dk_cons ((Dk.list fun d hd => (pds_dk hn tupD o.1 d hd)).mono (by have := n.1; omega)) (dk_cons Dk.bl (dk_cons (g2.mono (by decide)) dk_nil)))))) i2⟩
theorem sl5 {ns : List Str} : cutV (ns.map V.str) none (some 5) = (ns.take 5).map V.str ∧ cutV (ns.map V.str) (some 5) none = (ns.drop 5).map V.str := ⟨cut_lo (k := 5), cut_hi (k := 5)⟩
theorem pure_law_put (K : PySem.W.Frag) (vs : List V) (H : Hp) (Q : VK) (E : XK) (h : sp_law_put K vs H Q E) :
    t_law_put K { nx := fun _ H' => Q .non H', rt := Q } (start N_law_put vs) H := by
  obtain ⟨H0, st, a, ns, L, W, m, o, rfl, S, hA, hT, o0, o2, hW, q⟩ := h
  have hne : L ≠ [] := fun e => by have := S.len.1; rw [e] at this; simp at this
  have lst_put : ∀ (M : List Frm) (x : Frm), L = M ++ [x] → ∀ (H7 : Hp) (T : Addr) (r : Rw), Stk K H0 H7 st ns L W → RwAt K (SqT K) H7 (.ref T) r → r.ok ns → r.nest = 1 → r.size = 1 → ∀ vf ve xs, FrIn K H7 x vf ve xs → rAppend (.ref x.r) [.ref T] H7 (fun _ H8 => Q .non H8) := by
    rintro M x rfl H7 T r S7 hr ro rn rs vf ve xs G
    have b1 : szs x.rows ≤ x.w := by unfold Frm.w; omega
    have b2 : x.w ≤ W := Nat.le_trans (sum_le (List.mem_map.mpr ⟨x, List.mem_append_right _ (List.mem_singleton.mpr rfl), rfl⟩)) S7.w
    have b3 := szs_len x.rows
    have b4 := G.hb.len
    have ml := S7.len.2
    rw [List.length_append, List.length_singleton] at ml
    exact w_app G.hr (Nat.lt_of_le_of_lt (by omega : xs.length ≤ 1000) (by decide)) (q _ _ _ ((S7.row G hr ro (by omega)).wle (by omega)))
  have push : ∀ (H7 : Hp) (kd : Nat) (u : V) (f : Fm) (b : Bool) (r F : Addr), Stk K H0 H7 st ns L W → FmAt K H7 u f → f.fine ns → kd ≠ 0 → L.length < 8 → H7 r = none → upd H7 r (.lst []) F = none →
      rAppend (.ref st) [.ref F] (upd (upd H7 r (.lst [])) F (.lst [.str (kdT kd), u, .ref r, .bl b, .non])) (fun _ H8 => Q .non H8) := by
    intro H7 kd u f b r F S7 hf ff hk hl hr hF
    have e1 := same_new (o := .lst []) hr
    have e2 := same_new (o := .lst [.str (kdT kd), u, .ref r, .bl b, .non]) hF
    have S9 := S7.mono (e1.trans e2)
    have P := S9.push (x := ⟨F, r, kd, f, [], b, none⟩) ⟨u, .non, [], upd_same, e2 _ _ upd_same, .nil, fun c => absurd c hk, fun _ => hf.mono (e1.trans e2), rfl⟩
      (none_of S7.same hr) (ne_of_none S7.hs hr).symm (fun z hz => by obtain ⟨_, _, _, Gz⟩ := S7.fr z hz; exact ne_of_none Gz.hr hr) hk ⟨trivial, fun _ => ff, fun b hb => nomatch hb⟩ hl (by show 0 + L.length ≤ 8; omega) (fun b hb => nomatch hb)
    exact w_app S9.hs (Nat.lt_of_le_of_lt (by rw [List.length_map]; omega : _ ≤ 8) (by decide)) (q _ _ _ (P.wle (Nat.le_refl _)))
  unfold t_law_put
  walk_at "go"
  refine w_lc ?_
  walk_at "go"
  refine w_isL (SqL.of S.hs) (fun D hD => ?_)
  refine lc_filter (ys := L) (fun x => x.sec) (fun x => .ref x.a) (SqL.of S.hs) (Nat.le_trans S.len.2 (by decide)) hD ?_ ?_
  · rintro x H5 Nx hx e5 ⟨zs, hzs⟩ yes no
    refine ⟨rfl, ?_⟩
    obtain ⟨vf, ve, xs, G⟩ := (S.mono e5).fr x hx
    have ga := G.ha
    walk_at "go"
    refine w_two (fun c => ?_) (fun c => ?_)
    · walk_at "go"
      exact yes c _ (Same.refl _)
    · exact no c _ (Same.refl _)
  · intro H5 e5 hD5
    walk_at "go"
    refine w_new (by walk_at "sz") (fun p hp => ?_)
    have e6 := e5.trans (same_new (o := .lst []) hp)
    have S6 := S.mono e6
    obtain ⟨ds, dd, dk⟩ := frs_dp hT.nm (L := L.filter fun x => x.sec) (fun x hx => S6.fr x (List.mem_filter.mp hx).1) (fun x hx => S6.ok x (List.mem_filter.mp hx).1) (fun x hx => by
      obtain ⟨i, hi⟩ := List.getElem?_of_mem (List.mem_filter.mp hx).1
      have := S6.nest i x hi
      exact ⟨by omega, fun b hb => by have := this.2.1 b hb; omega⟩)
    refine w_neD (.lst (SqL.of ((same_new hp) _ _ hD5)) dd) (.lst (SqL.of upd_same) .nil) ((Dk.list dk).shaped (by decide)) ((Dk.list (k := 0) dk_nil).shaped (by decide)) ?_
    generalize (!PyData.eqv (.list ds) (.list [])) = d
    generalize upd H5 p (.lst []) = H6 at e6 S6
    walk_at "go"
    refine ⟨a, ns, m, d, o, rfl, same_l S6.same hA, hT, fun p1 H7 u f b e7 hp1 hf ho hd => ?_⟩
    have S7 := S6.mono e7
    have hA7 := same_l S7.same hA
    have ff : f.fine ns := ⟨ho, by omega⟩
    obtain ⟨M, x, hLx⟩ := snoc_of hne
    have hst : H7 st = some (.lst ((M ++ [x]).map fun x => V.ref x.a)) := by rw [← hLx]; exact S7.hs
    have hxL : x ∈ L := by rw [hLx]; exact List.mem_append_right _ (List.mem_singleton.mpr rfl)
    obtain ⟨vf, ve, xs, G⟩ := S7.fr x hxL
    have ga := G.ha
    have gr := G.hr
    have j1 : ∀ (way : Int) (sh : Bool) (H8 : Hp) (z : Addr) (zs : List Str), Same H7 H8 → SqL K H8 z (zs.map V.str) → List.Sublist zs ns → 0 < zs.length →
        t_law_put_j1 K { nx := fun _ H' => Q .non H', rt := Q } [some (.ref st), some (.ref a), some (.int m), some (.int o), some (.int way), some (.bl d), none, some u, some (.bl b), some (.bl sh), some (.ref z)] H8 := by
      intro way sh H8 z zs e8 hz sl pos
      unfold t_law_put_j1
      have ga8 := e8 _ _ ga
      have gr8 := e8 _ _ gr
      walk_at "go"
      refine w_ixL (SqL.of (e8 _ _ hst)) at_last ?_
      walk_at "go"
      have pm : (0 : Int) < ((zs.map V.str).length : Nat) := by rw [List.length_map]; omega
      refine w_mod pm ?_
      have mm := mod_in (m / 96) pm
      rw [List.length_map] at mm
      obtain ⟨y, ym, _, hy⟩ := at_map (f := V.str) (xs := zs) mm.1 mm.2
      refine w_ixL hz (by rw [List.length_map]; exact hy) ?_
      walk_at "go"
      refine w_new (by walk_at "sz") (fun T hT1 => ?_)
      have e9 := e8.trans (same_new (o := .tup [.str "set", .str y, u]) hT1)
      exact lst_put M x hLx _ T (.set y f) (S7.mono e9) (.set (SqT.of upd_same) (hf.mono e9)) ⟨sl.subset ym, ff⟩ rfl rfl vf ve xs (G.moves (SameT.of e9) ((e9 _ _ ga).trans ga.symm) ((e9 _ _ gr).trans gr.symm))
    have j3 : ∀ (way : Int) (sh : Bool) (w10 : Unit) (H8 : Hp), Same H7 H8 → t_law_put_j3 K { nx := fun _ H' => Q .non H', rt := Q } [some (.ref st), some (.ref a), some (.int m), some (.int o), some (.int way), some (.bl d), none, some u, some (.bl b), some (.bl sh), none] H8 := by
      intro way sh _ H8 e8
      unfold t_law_put_j3
      have S8 := S7.mono e8
      have hA8 := same_l S8.same hA
      have ga8 := e8 _ _ ga
      have gr8 := e8 _ _ gr
      have hst8 := e8 _ _ hst
      have hf8 := hf.mono e8
      have hlen : ((M ++ [x]).map fun x => V.ref x.a).length = L.length := by rw [hLx, List.length_map]
      walk_at "go"
      refine w_two (fun _ => ?_) (fun _ => ?_)
      · walk_at "go"
        refine w_slL hA8 (fun p2 hp2 => ?_)
        rw [sl5.1]
        have f1 := same_new (o := .lst ((ns.take 5).map V.str)) hp2
        have q2 : upd H8 p2 (.lst ((ns.take 5).map V.str)) p2 = _ := upd_same
        generalize upd H8 p2 (.lst ((ns.take 5).map V.str)) = H9 at f1 q2
        have hA9 := same_l f1 hA8
        walk_at "go"
        refine w_slL hA9 (fun p3 hp3 => ?_)
        rw [sl5.2]
        have f2 := same_new (o := .lst ((ns.drop 5).map V.str)) hp3
        have q3 : upd H9 p3 (.lst ((ns.drop 5).map V.str)) p3 = _ := upd_same
        have q23 := f2 _ _ q2
        generalize upd H9 p3 (.lst ((ns.drop 5).map V.str)) = H10 at f2 q3 q23
        walk_at "go"
        refine w_new (by walk_at "sz") (fun p4 hp4 => ?_)
        have f3 := same_new (o := .lst [.ref p2, .ref p3]) hp4
        have q4 : upd H10 p4 (.lst [.ref p2, .ref p3]) p4 = _ := upd_same
        have q33 := f3 _ _ q3
        have q24 := f3 _ _ q23
        generalize upd H10 p4 (.lst [.ref p2, .ref p3]) = H11 at f3 q4 q33 q24
        walk_at "go"
        have pick : ∃ (w : Addr) (ws : List Str), atI [V.ref p2, V.ref p3] (if decide (m / 7 % 4 = 3) = true then 1 else 0) = some (.ref w) ∧ H11 w = some (.lst (ws.map V.str)) ∧ List.Sublist ws ns ∧ 0 < ws.length := by
          cases decide (m / 7 % 4 = 3) with
          | true => exact ⟨p3, _, rfl, q33, List.drop_sublist _ _, by rw [List.length_drop, hT.len]; decide⟩
          | false => exact ⟨p2, _, rfl, q24, List.take_sublist _ _, by rw [List.length_take, hT.len]; decide⟩
        obtain ⟨w, ws, hw1, hw2, hw3, hw4⟩ := pick
        refine w_ixL (SqL.of q4) hw1 ?_
        walk_at "go"
        refine w_new (by walk_at "sz") (fun p5 hp5 => ?_)
        have f4 := same_new (o := .lst [.ref a, .ref a, .ref w]) hp5
        have q5 : upd H11 p5 (.lst [.ref a, .ref a, .ref w]) p5 = _ := upd_same
        have hw5 := f4 _ _ hw2
        generalize upd H11 p5 (.lst [.ref a, .ref a, .ref w]) = H12 at f4 q5 hw5
        have f14 : Same H8 H12 := f1.trans (f2.trans (f3.trans f4))
        have hA12 := same_l f14 hA8
        have pick2 : ∃ (z : Addr) (zs : List Str), atI [V.ref a, V.ref a, V.ref w] o = some (.ref z) ∧ SqL K H12 z (zs.map V.str) ∧ List.Sublist zs ns ∧ 0 < zs.length := by
          have c : o = 0 ∨ o = 1 ∨ o = 2 := by omega
          rcases c with rfl | rfl | rfl
          · exact ⟨a, ns, rfl, hA12, List.Sublist.refl _, by rw [hT.len]; decide⟩
          · exact ⟨a, ns, rfl, hA12, List.Sublist.refl _, by rw [hT.len]; decide⟩
          · exact ⟨w, ws, rfl, SqL.of hw5, hw3, hw4⟩
        obtain ⟨z, zs, hz1, hz2, hz3, hz4⟩ := pick2
        walk_at "go"
        refine w_ixL (SqL.of q5) hz1 ?_
        walk_at "go"
        cases sh with
        | true =>
          walk_at "go"
          refine w_slL hA12 (fun p6 hp6 => ?_)
          rw [sl5.2]
          walk_at "go"
          exact j1 way true _ p6 (ns.drop 5) (e8.trans (f14.trans (same_new hp6))) (SqL.of upd_same) (List.drop_sublist _ _) (by rw [List.length_drop, hT.len]; decide)
        | false =>
          walk_at "go"
          exact j1 way false _ z zs (e8.trans f14) hz2 hz3 hz4
      · refine w_if (w_andP (c := decide (way = 4)) (d := !sh) (by walk_at "pv") (by walk_at "pv") ?_)
        refine w_two (fun _ => ?_) (fun _ => ?_)
        · walk_at "go"
          refine w_ixL (SqL.of hst8) at_last ?_
          walk_at "go"
          refine w_new (by walk_at "sz") (fun T hT1 => ?_)
          have e9 := e8.trans (same_new (o := .tup [.str "tell", u]) hT1)
          exact lst_put M x hLx _ T (.tell f) (S7.mono e9) (.tell (SqT.of upd_same) (hf.mono e9)) ff rfl rfl vf ve xs (G.moves (SameT.of e9) ((e9 _ _ ga).trans ga.symm) ((e9 _ _ gr).trans gr.symm))
        walk_at "go"
        refine w_two (fun _ => ?_) (fun _ => ?_)
        · walk_at "go"
          refine w_ixL (SqL.of hst8) at_last ?_
          walk_at "go"
          refine w_new (by walk_at "sz") (fun T hT1 => ?_)
          have e9 := e8.trans (same_new (o := .tup [.str "skip"]) hT1)
          exact lst_put M x hLx _ T .skip (S7.mono e9) (.skip (SqT.of upd_same)) trivial rfl rfl vf ve xs (G.moves (SameT.of e9) ((e9 _ _ ga).trans ga.symm) ((e9 _ _ gr).trans gr.symm))
        refine w_if (w_andP (c := decide (way < 8)) (d := decide ((((M ++ [x]).map fun x => V.ref x.a).length : Int) < 8)) (by walk_at "pv") (by walk_at "pv") ?_)
        refine w_two (fun c => ?_) (fun _ => ?_)
        · have c := of_decide_eq_true (Bool.and_eq_true_iff.mp c).2
          rw [hlen] at c
          walk_at "go"
          refine w_new (by walk_at "sz") (fun r' hr' => ?_)
          walk_at "go"
          refine w_new (by walk_at "sz") (fun F hF => ?_)
          walk_at "go"
          exact push H8 1 u f b r' F S8 hf8 ff (by decide) (by omega) hr' hF
        refine w_if (w_andP (c := decide (way < 10)) (d := decide ((((M ++ [x]).map fun x => V.ref x.a).length : Int) < 8) && !sh) (by walk_at "pv") (fun Qp qp => w_andP (by walk_at "pv") (by walk_at "pv") qp) ?_)
        refine w_two (fun c => ?_) (fun _ => ?_)
        · have c := of_decide_eq_true (Bool.and_eq_true_iff.mp (Bool.and_eq_true_iff.mp c).2).1
          rw [hlen] at c
          have j2 : ∀ (H9 : Hp) (u' : V) (f' : Fm), Same H8 H9 → FmAt K H9 u' f' → f'.fine ns →
              t_law_put_j2 K { nx := fun _ H' => Q .non H', rt := Q } [some (.ref st), some (.ref a), some (.int m), some (.int o), some (.int way), some (.bl d), none, some u', some (.bl b), some (.bl sh), none] H9 := by
            intro H9 u' f' e9 hf9 ff9
            unfold t_law_put_j2
            have S9 := S8.mono e9
            have hst9 := e9 _ _ hst8
            walk_at "go"
            refine w_new (by walk_at "sz") (fun r' hr' => ?_)
            walk_at "go"
            refine w_new (by walk_at "sz") (fun F hF => ?_)
            walk_at "go"
            exact push H9 2 u' f' b r' F S9 hf9 ff9 (by decide) (by omega) hr' hF
          refine w_seq (w_if (w_andP (c := decide (o = 0)) (d := decide (0 < m / 96 % 4)) (by walk_at "pv") (by walk_at "pv") ?_))
          refine w_two (fun _ => ?_) (fun _ => ?_)
          · walk_at "go"
            have m5 := mod_in (m / 384) (show (0 : Int) < 5 by decide)
            have m4 := mod_in (m / 1920) (show (0 : Int) < 4 by decide)
            obtain ⟨y, ym, _, hy⟩ := at_map (f := V.str) (xs := ns) m5.1 (by rw [hT.len]; omega)
            refine w_ixL hA8 hy ?_
            walk_at "go"
            refine w_new (by walk_at "sz") (fun n1 hn1 => ?_)
            walk_at "go"
            refine w_new (by walk_at "sz") (fun n2 hn2 => ?_)
            walk_at "go"
            refine w_new (by walk_at "sz") (fun n3 hn3 => ?_)
            walk_at "go"
            have d1 := same_new (o := .tup [.str "name", .str y]) hn1
            have d2 := same_new (o := .tup [.str "number", .int (1 + m / 1920 % 4)]) hn2
            have d3 := same_new (o := .tup [.str "<", .ref n1, .ref n2]) hn3
            exact j2 _ _ (.op .lt (.nam y) (.num (1 + m / 1920 % 4))) (d1.trans (d2.trans d3)) (.op (s := .lt) (SqT.of upd_same) (.nam (same_t (d2.trans d3) (SqT.of upd_same))) (.num (same_t d3 (SqT.of upd_same)))) ⟨⟨ym, by omega, by omega⟩, show 2 ≤ 12 from by decide⟩
          · walk_at "go"
            exact j2 H8 u f (Same.refl _) hf8 ff
        walk_at "go"
        refine w_two (fun c => ?_) (fun _ => ?_)
        · have c := of_decide_eq_true c
          rw [hlen] at c
          walk_at "go"
          exact ⟨H0, st, ns, L, W, rfl, S8, by omega, hW, fun v H9 L' S9 _ => q _ _ _ (S9.wle (by omega))⟩
        · walk_at "go"
          exact q _ _ _ (S8.wle (by omega))
    walk_at "go"
    have sh : ∀ (s : Bool), tSeq (tIfS (tTest (tOp (rEq2 K) (tVar 3) (tC (.int 2)))) (tAsg (tOp (rIx K) (tLst (tCons (tC (.int 0)) (tCons (tC (.int 4)) (tCons (tC (.int 8)) (tCons (tC (.int 0)) tNil))))) (tOp rMod (tOp rDiv (tVar 2) (tC (.int 7))) (tC (.int 4)))) (gName 4)) tNext) (t_law_put_j3 K) { nx := fun _ H' => Q .non H', rt := Q }
        [some (.ref st), some (.ref a), some (.int m), some (.int o), some (.int (m % 12)), some (.bl d), none, some u, some (.bl b), some (.bl s), none] H7 := by
      intro s
      walk_at "go"
      refine w_two (fun _ => ?_) (fun _ => ?_)
      · walk_at "go"
        refine w_new (by walk_at "sz") (fun p5 hp5 => ?_)
        walk_at "go"
        have m4 := mod_in (m / 7) (show (0 : Int) < 4 by decide)
        obtain ⟨z, zm, _, hz⟩ := at_map (f := V.int) (xs := [0, 4, 8, 0]) m4.1 m4.2
        refine w_ixL (SqL.of upd_same) hz ?_
        exact j3 z s () _ (same_new hp5)
      · walk_at "go"
        exact j3 (m % 12) s () H7 (Same.refl _)
    refine w_two (fun _ => ?_) (fun _ => ?_)
    · walk_at "go"
      cases d with
      | true => walk_at "go1"; exact sh _
      | false => walk_at "go1"; walk_at "go1"; exact sh _
    · exact sh _
theorem Stk.init {K : PySem.W.Frag} {H H' : Hp} {ns : List Str} {st a r : Addr} (f : Fm) (e : Same H H') (s0 : H st = none) (r0 : H r = none) (rs : r ≠ st) (hs : H' st = some (.lst [.ref a])) (ha : H' a = some (.lst [.str "", .non, .ref r, .bl false, .non])) (hr : H' r = some (.lst [])) :
    Stk K H H' st ns [⟨a, r, 0, f, [], false, none⟩] 2 := by
  have one : ∀ x ∈ [(⟨a, r, 0, f, [], false, none⟩ : Frm)], x = ⟨a, r, 0, f, [], false, none⟩ := fun x hx => List.mem_singleton.mp hx
  refine ⟨e, s0, hs, ?_, ?_, ?_, ?_, ?_, ?_, ⟨Nat.le_refl _, show 1 ≤ 8 from by decide⟩, Nat.le_refl _⟩
  · intro x hx
    rw [one x hx]
    exact ⟨.non, .non, [], ha, hr, .nil, fun _ => rfl, fun c => absurd rfl c, rfl⟩
  · intro x hx; rw [one x hx]; exact r0
  · intro x hx; rw [one x hx]; exact rs
  · exact List.nodup_cons.mpr ⟨List.not_mem_nil, List.nodup_nil⟩
  · intro x hx
    rw [one x hx]
    exact ⟨trivial, fun c => absurd rfl c, fun b hb => nomatch hb⟩
  · intro i x hx
    cases i with
    | zero =>
      rw [← Option.some.inj hx]
      exact ⟨show 0 + 0 ≤ 8 from by decide, (fun b hb => nomatch hb), fun _ => ⟨rfl, rfl⟩, fun c => absurd c (Nat.lt_irrefl 0)⟩
    | succ i => simp at hx
theorem pure_law_block_by (K : PySem.W.Frag) (vs : List V) (H : Hp) (Q : VK) (E : XK) (h : sp_law_block_by K vs H Q E) :
    t_law_block_by K { nx := fun _ H' => Q .non H', rt := Q } (start N_law_block_by vs) H := by
  obtain ⟨c, a, cells, ns, o, rfl, hC, hcl, hA, hT, q⟩ := h
  unfold t_law_block_by
  walk_at "go"
  refine w_new (by walk_at "sz") (fun r0 hr0 => ?_)
  have e1 := same_new (o := .lst []) hr0
  have y1 : upd H r0 (.lst []) r0 = _ := upd_same
  generalize upd H r0 (.lst []) = H1 at e1 y1
  walk_at "go"
  refine w_new (by walk_at "sz") (fun a0 ha0 => ?_)
  have e2 := same_new (o := .lst [.str "", .non, .ref r0, .bl false, .non]) ha0
  have z2 : upd H1 a0 (.lst [.str "", .non, .ref r0, .bl false, .non]) a0 = _ := upd_same
  have y2 := e2 _ _ y1
  generalize upd H1 a0 (.lst [.str "", .non, .ref r0, .bl false, .non]) = H2 at e2 z2 y2
  walk_at "go"
  refine w_new (by walk_at "sz") (fun st hst => ?_)
  have e3 := same_new (o := .lst [.ref a0]) hst
  have S0 : Stk K H (upd H2 st (.lst [.ref a0])) st ns [⟨a0, r0, 0, .num 0, [], false, none⟩] 2 :=
    Stk.init (.num 0) (e1.trans (e2.trans e3)) (none_of (e1.trans e2) hst) hr0 (ne_of_none y2 hst) upd_same (e3 _ _ z2) (e3 _ _ y2)
  generalize upd H2 st (.lst [.ref a0]) = H3 at S0
  walk_at "go"
  refine ⟨c, cells.map V.int, rfl, same_l S0.same hC, for_enum (xs := cells.map V.int)
    (fun i σ H' => ∃ (L : List Frm) (w4 w5 w6 w7 : Option V), Stk K H H' st ns L (2 + 2 * i) ∧ σ = [some (.ref c), some (.ref a), some (.int o), some (.ref st), w4, w5, w6, w7])
    ⟨_, _, _, _, _, S0, rfl⟩ (fun i σ H' _ h => by obtain ⟨L, _, _, _, _, S, _⟩ := h; exact same_l S.same hC) ?_ ?_⟩
  · rintro i x σ H4 T hx hT0 ⟨L, w4, w5, w6, w7, S, rfl⟩
    have hi : i < cells.length := by have := (List.getElem?_eq_some_iff.mp hx).1; rw [List.length_map] at this; exact this
    obtain ⟨y, hy, rfl⟩ : ∃ y, cells[i]? = some y ∧ V.int y = x := by
      rw [List.getElem?_map] at hx
      cases d : cells[i]? with
      | none => rw [d] at hx; exact nomatch hx
      | some y => rw [d] at hx; exact ⟨y, rfl, Option.some.inj hx⟩
    have S5 := S.mono (same_new (o := .tup [.int (i : Nat), .int y]) hT0)
    generalize hH5 : upd H4 T (.tup [.int (i : Nat), .int y]) = H5 at S5
    have hC5 := same_l S5.same hC
    rw [← hH5]
    walk_at "go"
    rw [hH5]
    refine w_mulI (.inl ⟨by decide, by decide⟩) ?_
    walk_at "go"
    refine ⟨_, rfl, fun r1 _ _ => ?_⟩
    walk_at "go"
    refine w_mulI (.inr ⟨by omega, by omega⟩) ?_
    walk_at "go"
    refine ⟨_, rfl, fun r2 _ _ => ?_⟩
    have j1 : ∀ md : Int, 0 ≤ md → md ≤ 2 → t_law_block_by_j1 K ⟨fun σ H' => ∃ (L : List Frm) (w4 w5 w6 w7 : Option V), Stk K H H' st ns L (2 + 2 * (i + 1)) ∧ σ = [some (.ref c), some (.ref a), some (.int o), some (.ref st), w4, w5, w6, w7], Q, fun _ _ => False, fun _ _ => False⟩
        [some (.ref c), some (.ref a), some (.int o), some (.ref st), some (.int (i : Nat)), some (.int y), some (.int r2), some (.int md)] H5 := by
      intro md m0 m2
      unfold t_law_block_by_j1
      walk_at "go"
      exact ⟨H, st, a, ns, L, _, r2, md, rfl, S5, hA, hT, m0, m2, by omega, fun v H6 L' S6 => ⟨L', _, _, _, _, S6, rfl⟩⟩
    have pl : (0 : Int) < ((cells.map V.int).length : Nat) := by rw [List.length_map]; omega
    have a1 := j1 0 (by decide) (by decide)
    have a2 := j1 1 (by decide) (by decide)
    have a3 := j1 2 (by decide) (by decide)
    repeat' (first | walk_at "go1" | (refine w_two (fun _ => ?_) (fun _ => ?_)) | exact a1 | exact a2 | exact a3 | (unfold t_law_block_by_j2; skip))
  · rintro σ H4 ⟨L, w4, w5, w6, w7, S, rfl⟩
    rw [List.length_map] at S
    refine w_seq (w_while' (fun m σ H' => ∃ (L : List Frm) (w4 w5 w6 w7 : Option V), Stk K H H' st ns L (2 + 2 * cells.length) ∧ mus L = m ∧ σ = [some (.ref c), some (.ref a), some (.int o), some (.ref st), w4, w5, w6, w7]) (mus L) ⟨L, _, _, _, _, S, rfl, rfl⟩ ?_)
    rintro m σ H5 ⟨L, w4, w5, w6, w7, S, rfl, rfl⟩
    have hs5 := S.hs
    walk_at "go"
    rw [List.length_map]
    refine w_two (fun c1 => ?_) (fun c1 => ?_)
    · have c1 := of_decide_eq_true c1
      refine ⟨_, fun _ _ h => h, ?_⟩
      walk_at "go"
      exact ⟨H, st, ns, L, _, rfl, S, by omega, by omega, fun v H6 L' S6 lt => ⟨mus L', lt, L', _, _, _, _, S6, rfl, rfl⟩⟩
    · have c1 := of_decide_eq_false c1
      have l1 := S.len.1
      obtain ⟨x, rfl⟩ := list_one (show L.length = 1 by omega)
      have hx : x ∈ [x] := List.mem_singleton.mpr rfl
      obtain ⟨vf, ve, xs, G⟩ := S.fr x hx
      have hs6 : H5 st = some (.lst [.ref x.a]) := hs5
      have ga := G.ha
      walk_at "go"
      have w := S.w
      have wx : szs x.rows + elSz x.els + 2 + 0 ≤ 2 + 2 * cells.length := w
      have n := (S.nest 0 x rfl).1
      exact q x.r H5 xs x.rows S.same (S.r0 x hx) G.hr ⟨G.hb, (S.ok x hx).1, n⟩ (by omega)
def sgs : List Str := ["+", "-", "*", "/", "<", "="]
def nmB (x : Str) : Bool := decide (1 ≤ (cs x).length) && (decide ((cs x).length ≤ 8) && (!decide (x ∈ words) && ((match (cs x)[0]? with | some c => decide (c ∈ cs az) | none => false) && (cs x).all fun c => decide (c ∈ cs az) || decide (c ∈ cs n09))))
theorem az_let {c : Nat} (h : IsLet c) : c ∈ cs az := by
  rw [az_cs]
  exact List.mem_map.mpr ⟨c - 97, List.mem_range.mpr (by have := h.1; have := h.2; omega), by have := h.1; omega⟩
theorem n09_fig {c : Nat} (h : 48 ≤ c ∧ c ≤ 57) : c ∈ cs n09 := by
  rw [n09_cs]
  exact List.mem_map.mpr ⟨c - 48, List.mem_range.mpr (by omega), by omega⟩
theorem let_az {c : Nat} (h : c ∈ cs az) : IsLet c := by
  rw [az_cs] at h
  obtain ⟨i, hi, rfl⟩ := List.mem_map.mp h
  have := List.mem_range.mp hi
  exact ⟨by omega, by omega⟩
theorem fig_n09 {c : Nat} (h : c ∈ cs n09) : 48 ≤ c ∧ c ≤ 57 := by
  rw [n09_cs] at h
  obtain ⟨i, hi, rfl⟩ := List.mem_map.mp h
  have := List.mem_range.mp hi
  exact ⟨by omega, by omega⟩
theorem nm_iff {x : Str} : nmB x = true ↔ Nm x := by
  unfold nmB
  rw [Bool.and_eq_true_iff, Bool.and_eq_true_iff, Bool.and_eq_true_iff, Bool.and_eq_true_iff, List.all_eq_true]
  constructor
  · rintro ⟨h1, h2, h3, h4, h5⟩
    refine ⟨of_decide_eq_true h1, of_decide_eq_true h2, fun c hc => ?_, fun c hc => ?_, by simpa using h3⟩
    · rw [hc] at h4
      exact let_az (of_decide_eq_true h4)
    · rcases Bool.or_eq_true_iff.mp (h5 c hc) with h | h
      · exact .inl (let_az (of_decide_eq_true h))
      · exact .inr (fig_n09 (of_decide_eq_true h))
  · intro h
    refine ⟨decide_eq_true h.pos, decide_eq_true h.most, by simpa using h.nw, ?_, fun c hc => ?_⟩
    · have : 0 < (cs x).length := h.pos
      rw [List.getElem?_eq_getElem this]
      exact decide_eq_true (az_let (h.hd _ (List.getElem?_eq_getElem this)))
    · rcases h.all c hc with h | h
      · rw [decide_eq_true (az_let h), Bool.true_or]
      · rw [decide_eq_true (n09_fig h), Bool.or_true]
def SE (K : PySem.W.Frag) : SQ := fun H a xs => SqL K H a xs ∨ SqT K H a xs
theorem se_same {K : PySem.W.Frag} {H H' : Hp} (e : Same H H') {a : Addr} {xs : List V} (h : SE K H a xs) : SE K H' a xs := h.imp (same_l e) (same_t e)
theorem BkAt.monoE {K : PySem.W.Frag} {H H' : Hp} (e : Same H H') {vs : List V} {l : List Rw} (h : BkAt K (SE K) H vs l) : BkAt K (SE K) H' vs l := h.go (SameT.of e) fun _ _ => se_same e
theorem RwAt.monoE {K : PySem.W.Frag} {H H' : Hp} (e : Same H H') {v : V} {r : Rw} (h : RwAt K (SE K) H v r) : RwAt K (SE K) H' v r := h.go (SameT.of e) fun _ _ => se_same e
theorem BkAt.toE {K : PySem.W.Frag} {H : Hp} {vs : List V} {l : List Rw} (h : BkAt K (SqT K) H vs l) : BkAt K (SE K) H vs l := h.go (SameT.refl H) fun _ _ q => .inr q
theorem RwAt.toE {K : PySem.W.Frag} {H : Hp} {v : V} {r : Rw} (h : RwAt K (SqT K) H v r) : RwAt K (SE K) H v r := h.go (SameT.refl H) fun _ _ q => .inr q
def sp_is_whole (K : PySem.W.Frag) : Sp := fun vs H Q _ => ∃ i : Int, vs = [.int i] ∧ Q (.bl true) H
def sp_is_number (K : PySem.W.Frag) : Sp := fun vs H Q _ => ∃ i : Int, vs = [.int i] ∧ Q (.bl (decide (0 ≤ i) && decide (i < 1000000))) H
def sp_is_name (K : PySem.W.Frag) : Sp := fun vs H Q _ => ∃ x : Str, vs = [.str x] ∧ x.length ≤ sizeLine ∧ Q (.bl (nmB x)) H
def sp_is_end (K : PySem.W.Frag) : Sp := fun vs H Q _ => ∃ (v : V) (f : Fm) (ns : List Str), vs = [v] ∧ FmAt K H v f ∧ f.ok ns ∧ (∀ x ∈ ns, Nm x) ∧ Q (.bl (match f with | .op _ _ _ => false | _ => true)) H
def sp_need_formula (K : PySem.W.Frag) (n : Nat) : Sp := fun vs H Q _ => ∃ (v : V) (f : Fm) (ns : List Str) (l : Int), vs = [v, .int l] ∧ FmAt K H v f ∧ f.ok ns ∧ (∀ x ∈ ns, Nm x) ∧ f.depth ≤ n ∧ (f.depth : Int) ≤ l ∧ Q .non H
def sp_is_list (K : PySem.W.Frag) : Sp := fun vs H Q _ => ∃ (a : Addr) (xs : List V), vs = [.ref a] ∧ SE K H a xs ∧ ∀ H', Same H H' → Q (.bl true) H'
abbrev N_is_whole : List Str := ["thing"]
def t_is_whole (K : PySem.W.Frag) : TS :=
  (tRet (tAndV (tCB (rIsi2 K) (tCons (tVar 0) (tCons (tC (.ty "int")) tNil))) (tNotV (tCB (rIsi2 K) (tCons (tVar 0) (tCons (tC (.ty "bool")) tNil))))))
abbrev N_is_number : List Str := ["thing"]
def t_is_number (K : PySem.W.Frag) : TS :=
  (tRet (tAndV (tF (sp_is_whole K) (tCons (tVar 0) tNil)) (tChain rLe rLt (tC (.int 0)) (tVar 0) (tC (.int 1000000)))))
abbrev N_is_name : List Str := ["thing", "sign"]
def t_is_name_j1 (K : PySem.W.Frag) : TS :=
  (tSeq (tFor (iStr (tVar 0)) (gName 1) (tIfS (tAnd (tTest (tOp (rIn2 K true) (tVar 1) (tC (.str "abcdefghijklmnopqrstuvwxyz")))) (tTest (tOp (rIn2 K true) (tVar 1) (tC (.str "0123456789"))))) (tRet (tC (.bl false))) tNext)) (tRet (tC (.bl true))))
def t_is_name (K : PySem.W.Frag) : TS :=
  (tSeq (tIfS (tOr (tNot (tB (tCB (rIsi2 K) (tCons (tVar 0) (tCons (tC (.ty "str")) tNil))))) (tOr (tNot (tTest (tChain rLe rLe (tC (.int 1)) (tCB (rLenA K) (tCons (tVar 0) tNil)) (tC (.int 8))))) (tOr (tTest (tOp (rIn2 K false) (tVar 0) (tGT K (words.map V.str)))) (tTest (tOp (rIn2 K true) (tOp (rIx K) (tVar 0) (tC (.int 0))) (tC (.str "abcdefghijklmnopqrstuvwxyz"))))))) (tRet (tC (.bl false))) tNext) (t_is_name_j1 K))
abbrev N_is_end : List Str := ["thing"]
def t_is_end_j1 (K : PySem.W.Frag) : TS :=
  (tSeq (tIfS (tTest (tOp (rEq2 K) (tOp (rIx K) (tVar 0) (tC (.int 0))) (tC (.str "number")))) (tRet (tF (sp_is_number K) (tCons (tOp (rIx K) (tVar 0) (tC (.int 1))) tNil))) tNext) (tRet (tAndV (tOp (rEq2 K) (tOp (rIx K) (tVar 0) (tC (.int 0))) (tC (.str "name"))) (tF (sp_is_name K) (tCons (tOp (rIx K) (tVar 0) (tC (.int 1))) tNil)))))
def t_is_end (K : PySem.W.Frag) : TS :=
  (tSeq (tIfS (tOr (tNot (tB (tCB (rIsi2 K) (tCons (tVar 0) (tCons (tC (.ty "tuple")) tNil))))) (tOr (tTest (tOp (rNe2 K) (tCB (rLenA K) (tCons (tVar 0) tNil)) (tC (.int 2)))) (tNot (tB (tCB (rIsi2 K) (tCons (tOp (rIx K) (tVar 0) (tC (.int 0))) (tCons (tC (.ty "str")) tNil))))))) (tRet (tC (.bl false))) tNext) (t_is_end_j1 K))
abbrev N_need_formula : List Str := ["thing", "left"]
def t_need_formula_j1 (K : PySem.W.Frag) (n : Nat) : TS :=
  (tSeq (tDrop (tF (sp_need_formula K n) (tCons (tOp (rIx K) (tVar 0) (tC (.int 1))) (tCons (tOp rSub (tVar 1) (tC (.int 1))) tNil)))) (tDrop (tF (sp_need_formula K n) (tCons (tOp (rIx K) (tVar 0) (tC (.int 2))) (tCons (tOp rSub (tVar 1) (tC (.int 1))) tNil)))))
def t_need_formula (K : PySem.W.Frag) (n : Nat) : TS :=
  (tSeq (tIfS (tTest (tOp (rEq2 K) (tVar 1) (tC (.int 0)))) tNever tNext) (tSeq (tIfS (tB (tF (sp_is_end K) (tCons (tVar 0) tNil))) tRetN tNext) (tSeq (tIfS (tOr (tNot (tB (tCB (rIsi2 K) (tCons (tVar 0) (tCons (tC (.ty "tuple")) tNil))))) (tOr (tTest (tOp (rNe2 K) (tCB (rLenA K) (tCons (tVar 0) tNil)) (tC (.int 3)))) (tOr (tNot (tB (tCB (rIsi2 K) (tCons (tOp (rIx K) (tVar 0) (tC (.int 0))) (tCons (tC (.ty "str")) tNil))))) (tTest (tOp (rIn2 K true) (tOp (rIx K) (tVar 0) (tC (.int 0))) (tGT K (sgs.map V.str))))))) tNever tNext) (t_need_formula_j1 K n))))
abbrev N_is_list : List Str := ["thing"]
def t_is_list (K : PySem.W.Frag) : TS :=
  (tRet (tCB (rIsi2 K) (tCons (tVar 0) (tCons (tTup (tCons (tC (.ty "list")) (tCons (tC (.ty "tuple")) tNil))) tNil))))
local macro_rules | `(tactic| walk_at "pv") => `(tactic| (intro Qp qp; walk_at "go"; exact qp))
theorem pure_is_whole (K : PySem.W.Frag) (vs : List V) (H : Hp) (Q : VK) (E : XK) (h : sp_is_whole K vs H Q E) :
    t_is_whole K { nx := fun _ H' => Q .non H', rt := Q } (start N_is_whole vs) H := by
  obtain ⟨i, rfl, q⟩ := h
  unfold t_is_whole
  walk_at "go"
  refine w_isi (.base (.int i)) rfl ?_
  walk_at "go"
  refine w_isiNo (.base (.int i)) rfl ?_
  walk_at "go"
  exact q
theorem pure_is_number (K : PySem.W.Frag) (vs : List V) (H : Hp) (Q : VK) (E : XK) (h : sp_is_number K vs H Q E) :
    t_is_number K { nx := fun _ H' => Q .non H', rt := Q } (start N_is_number vs) H := by
  obtain ⟨i, rfl, q⟩ := h
  unfold t_is_number
  walk_at "go"
  refine ⟨i, rfl, ?_⟩
  walk_at "go"
  refine w_two (fun c => ?_) (fun c => ?_)
  · walk_at "go"
    rw [c] at q
    exact q
  · rw [c] at q
    exact q
theorem pure_is_name (K : PySem.W.Frag) (vs : List V) (H : Hp) (Q : VK) (E : XK) (h : sp_is_name K vs H Q E) :
    t_is_name K { nx := fun _ H' => Q .non H', rt := Q } (start N_is_name vs) H := by
  obtain ⟨x, rfl, hz, q⟩ := h
  have hl : ((x.length : Nat) : Int) = ((cs x).length : Nat) := by rw [cs_len]
  have no : ∀ {b : Bool}, nmB x = b → b = false → Q (.bl false) H := fun h1 h2 => by rw [h1, h2] at q; exact q
  unfold t_is_name
  walk_at "go"
  refine w_isi (.base (.str x)) rfl ?_
  walk_at "go"
  refine w_two (fun c => ?_) (fun c => ?_)
  · have c1 := of_decide_eq_true c
    walk_at "go"
    by_cases c2 : (cs x).length ≤ 8
    · have d2 : decide (((x.length : Nat) : Int) ≤ 8) = true := decide_eq_true (by omega)
      rw [d2]
      walk_at "go"
      intro a ha
      refine w_inTxtT (xs := words) (ha H) ?_
      walk_at "go"
      refine w_two (fun c3 => ?_) (fun c3 => ?_)
      · walk_at "go"
        exact no (b := nmB x) rfl (by unfold nmB; rw [c3]; simp)
      · walk_at "go"
        have pos : 0 < (cs x).length := by omega
        refine w_ixS (i := 0) hz (c := (cs x)[0]) (atI_nat (j := 0) (List.getElem?_eq_getElem pos)) ?_
        walk_at "go"
        refine w_inSg ?_
        show ∃ k, V.bl (!decide ((cs x)[0] ∈ cs az)) = .bl k ∧ _
        have hd : (match (cs x)[0]? with | some c => decide (c ∈ cs az) | none => false) = decide ((cs x)[0] ∈ cs az) := by rw [List.getElem?_eq_getElem pos]
        walk_at "go"
        by_cases c4 : (cs x)[0] ∈ cs az
        · rw [decide_eq_true c4] at hd ⊢
          walk_at "go"
          unfold t_is_name_j1
          walk_at "go"
          refine ⟨x, rfl, for_str (x := x) (fun i σ H' => H' = H ∧ (∃ w, σ = [some (.str x), w]) ∧ ∀ c ∈ (cs x).take i, (decide (c ∈ cs az) || decide (c ∈ cs n09)) = true) ⟨rfl, ⟨_, rfl⟩, fun c hc => by simp at hc⟩ ?_ ?_⟩
          · rintro i c σ H' hc ⟨rfl, ⟨w, rfl⟩, hall⟩
            have hc' : (cs x)[i]? = some c := by rw [← hc]; exact Array.getElem?_toList
            walk_at "go"
            refine w_inSg ?_
            show ∃ k, V.bl (!decide (c ∈ cs az)) = .bl k ∧ _
            walk_at "go"
            by_cases a1 : c ∈ cs az
            · rw [decide_eq_true a1]
              walk_at "go"
              refine ⟨rfl, ⟨_, rfl⟩, fun d hd2 => ?_⟩
              rw [List.take_succ, hc'] at hd2
              rcases List.mem_append.mp hd2 with h | h
              · exact hall d h
              · rw [List.mem_singleton.mp h, decide_eq_true a1, Bool.true_or]
            · rw [decide_eq_false a1]
              walk_at "go"
              refine w_inSg ?_
              show ∃ k, V.bl (!decide (c ∈ cs n09)) = .bl k ∧ _
              walk_at "go"
              by_cases a2 : c ∈ cs n09
              · rw [decide_eq_true a2]
                walk_at "go"
                refine ⟨rfl, ⟨_, rfl⟩, fun d hd2 => ?_⟩
                rw [List.take_succ, hc'] at hd2
                rcases List.mem_append.mp hd2 with h | h
                · exact hall d h
                · rw [List.mem_singleton.mp h, decide_eq_true a2, Bool.or_true]
              · rw [decide_eq_false a2]
                walk_at "go"
                refine no (b := nmB x) rfl ?_
                have : ((cs x).all fun c => decide (c ∈ cs az) || decide (c ∈ cs n09)) = false := by
                  rw [Bool.eq_false_iff]
                  intro h
                  have := List.all_eq_true.mp h c (List.mem_of_getElem? hc')
                  rw [decide_eq_false a1, decide_eq_false a2] at this
                  exact nomatch this
                unfold nmB
                rw [this]
                simp
          · rintro σ H' ⟨rfl, ⟨w, rfl⟩, hall⟩
            walk_at "go"
            have sz : (cs x).take x.cps.size = cs x := List.take_of_length_le (by show (cs x).length ≤ _; rw [Array.length_toList]; exact Nat.le_refl _)
            rw [sz] at hall
            have e : nmB x = true := by
              unfold nmB
              rw [hd, List.all_eq_true.mpr hall, c3, decide_eq_true (show 1 ≤ (cs x).length from pos), decide_eq_true c2] <;> rfl
            rw [e] at q
            exact q
        · rw [decide_eq_false c4] at hd ⊢
          walk_at "go"
          exact no (b := nmB x) rfl (by unfold nmB; rw [hd]; simp)
    · have d2 : decide (((x.length : Nat) : Int) ≤ 8) = false := decide_eq_false (by omega)
      rw [d2]
      walk_at "go"
      exact no (b := nmB x) rfl (by unfold nmB; rw [decide_eq_false c2]; simp)
  · have c1 := of_decide_eq_false c
    walk_at "go"
    exact no (b := nmB x) rfl (by unfold nmB; rw [decide_eq_false (by omega : ¬ 1 ≤ (cs x).length)]; simp)
theorem pure_is_end (K : PySem.W.Frag) (vs : List V) (H : Hp) (Q : VK) (E : XK) (h : sp_is_end K vs H Q E) :
    t_is_end K { nx := fun _ H' => Q .non H', rt := Q } (start N_is_end vs) H := by
  obtain ⟨v, f, ns, rfl, hf, ho, hN, q⟩ := h
  unfold t_is_end
  cases hf with
  | num h =>
    walk_at "go"
    refine w_isi (tyx_t h) rfl ?_
    walk_at "go"
    refine w_no (show (!decide (((2 : Nat) : Int) = 2)) = false from rfl) ?_
    walk_at "go"
    refine w_isi (.base (.str _)) rfl ?_
    walk_at "go"
    unfold t_is_end_j1
    walk_at "go"
    refine ⟨_, rfl, ?_⟩
    rw [decide_eq_true ho.1, decide_eq_true ho.2]
    exact q
  | nam h =>
    have nm := hN _ ho
    walk_at "go"
    refine w_isi (tyx_t h) rfl ?_
    walk_at "go"
    refine w_no (show (!decide (((2 : Nat) : Int) = 2)) = false from rfl) ?_
    walk_at "go"
    refine w_isi (.base (.str _)) rfl ?_
    walk_at "go"
    unfold t_is_end_j1
    walk_at "go"
    refine ⟨_, rfl, sz (by rw [cs_len]; have := nm.most; omega), ?_⟩
    rw [nm_iff.mpr nm]
    exact q
  | op h h1 h2 =>
    walk_at "go"
    refine w_isi (tyx_t h) rfl ?_
    walk_at "go"
    exact q
theorem sgs_mem (s : Sg) : decide (s.txt ∈ sgs) = true := by cases s <;> decide +kernel
theorem no_need_formula {K : PySem.W.Frag} : ∀ vs H Q E, ¬ sp_need_formula K 0 vs H Q E := by
  rintro vs H Q E ⟨v, f, _, _, _, _, _, _, h, _⟩
  have := f.depth_pos
  omega
theorem pure_need_formula (K : PySem.W.Frag) (n : Nat) (vs : List V) (H : Hp) (Q : VK) (E : XK) (h : sp_need_formula K (n + 1) vs H Q E) :
    t_need_formula K n { nx := fun _ H' => Q .non H', rt := Q } (start N_need_formula vs) H := by
  obtain ⟨v, f, ns, l, rfl, hf, ho, hN, hd, hl, q⟩ := h
  unfold t_need_formula
  have p1 := f.depth_pos
  have l0 : decide (l = 0) = false := decide_eq_false (by omega)
  walk_at "go"
  refine ⟨v, f, ns, rfl, hf, ho, hN, ?_⟩
  cases hf with
  | num h => walk_at "go"; exact q
  | nam h => walk_at "go"; exact q
  | @op a s u v f g h h1 h2 =>
    walk_at "go"
    refine w_isi (tyx_t h) rfl ?_
    walk_at "go"
    refine w_no (show (!decide (((3 : Nat) : Int) = 3)) = false from rfl) ?_
    walk_at "go"
    refine w_isi (.base (.str _)) rfl ?_
    walk_at "go"
    intro b hb
    refine w_ninTxtT (xs := sgs) (hb H) ?_
    rw [sgs_mem]
    walk_at "go"
    unfold t_need_formula_j1
    walk_at "go"
    have k1 : f.depth ≤ n := by simp only [Fm.depth] at hd; omega
    have k2 : g.depth ≤ n := by simp only [Fm.depth] at hd; omega
    have k3 : (f.depth : Int) ≤ l - 1 := by simp only [Fm.depth] at hl; omega
    have k4 : (g.depth : Int) ≤ l - 1 := by simp only [Fm.depth] at hl; omega
    refine ⟨u, f, ns, _, rfl, h1, ho.1, hN, k1, k3, ?_⟩
    walk_at "go"
    refine ⟨v, g, ns, _, rfl, h2, ho.2, hN, k2, k4, ?_⟩
    walk_at "go"
    exact q
theorem pure_is_list (K : PySem.W.Frag) (vs : List V) (H : Hp) (Q : VK) (E : XK) (h : sp_is_list K vs H Q E) :
    t_is_list K { nx := fun _ H' => Q .non H', rt := Q } (start N_is_list vs) H := by
  obtain ⟨a, xs, rfl, hs, q⟩ := h
  unfold t_is_list
  walk_at "go"
  refine w_new (by walk_at "sz") (fun p hp => ?_)
  walk_at "go"
  exact w_isLT upd_same (se_same (same_new hp) hs) (q _ (same_new hp))
theorem for_se {K : PySem.W.Frag} {a : Addr} {xs : List V} {g : TG} {tb : TS} {D : Ends} {σ : L2.St} {Hb H0 : Hp} (Pv : Nat → L2.St → Hp → Prop) (hq : SE K Hb a xs) (h0 : Pv 0 σ H0) (hl : ∀ i σ H, Pv i σ H → Same Hb H)
    (hs : ∀ i x σ H, xs[i]? = some x → Pv i σ H → g x σ H fun σ2 H2 => tb { D with nx := Pv (i + 1), ct := Pv (i + 1), bk := D.nx } σ2 H2) (hd : ∀ σ H, Pv xs.length σ H → D.nx σ H) :
    ∃ b, V.ref a = .ref b ∧ (((∃ xs, SqL K H0 b xs) ∧ ∃ W : Nat → Nat → L2.St → Hp → Prop, (∃ m, W 0 m σ H0) ∧ ∀ i m σ H, W i m σ H →
      ((Itl K b).stop i H ∧ D.nx σ H) ∨ ((Itl K b).go i H ∧ ∃ N : L2.St → Hp → Prop, (∀ σ' H', N σ' H' → ∃ m', m' < m ∧ W (i + 1) m' σ' H') ∧ ∀ x H', (Itl K b).yld i H x H' → g x σ H' fun σ2 H2 => tb { D with nx := N, ct := N, bk := D.nx } σ2 H2)) ∨
      ((∃ xs, SqT K H0 b xs) ∧ ∃ W : Nat → Nat → L2.St → Hp → Prop, (∃ m, W 0 m σ H0) ∧ ∀ i m σ H, W i m σ H →
      ((Itt K b).stop i H ∧ D.nx σ H) ∨ ((Itt K b).go i H ∧ ∃ N : L2.St → Hp → Prop, (∀ σ' H', N σ' H' → ∃ m', m' < m ∧ W (i + 1) m' σ' H') ∧ ∀ x H', (Itt K b).yld i H x H' → g x σ H' fun σ2 H2 => tb { D with nx := N, ct := N, bk := D.nx } σ2 H2))) := by
  refine ⟨a, rfl, ?_⟩
  rcases hq with hq | hq
  · exact .inl ⟨⟨xs, same_l (hl 0 σ H0 h0) hq⟩, for_list (xs := xs) Pv h0 (fun i σ H _ p => same_l (hl i σ H p) hq) hs hd⟩
  · exact .inr ⟨⟨xs, same_t (hl 0 σ H0 h0) hq⟩, for_tup (xs := xs) Pv h0 (fun i σ H _ p => same_t (hl i σ H p) hq) hs hd⟩
theorem lc_se {K : PySem.W.Frag} {a : Addr} {xs : List V} {g : TG} {tt : TT} {te : TE} {vs : List Nat} {σ : L2.St} {H0 : Hp} {Qd : Addr → Hp → Prop} (R : Nat → V → Hp → Prop) (hq : SE K H0 a xs) (hl : xs.length ≤ 16000000)
    (mono : ∀ i y H H', R i y H → SameT H H' → R i y H')
    (hs : ∀ D i x H (Nx : Hp → Prop), xs[i]? = some x → Same H0 H → (∃ ys, H D = some (.lst ys)) → (∀ y H4, Same H H4 → R i y H4 → ∃ acc, H4 D = some (.lst acc) ∧ acc.length < sizeLine ∧ Nx (upd H4 D (.lst (acc ++ [y])))) →
      g x (wipe σ vs) H fun σ2 H2 => wipe σ2 vs = wipe σ vs ∧ tt σ2 H2 fun b H3 => if b = true then te σ2 H3 fun y H4 => ∃ acc, H4 D = some (.lst acc) ∧ acc.length < sizeLine ∧ Nx (upd H4 D (.lst (acc ++ [y]))) else Nx H3)
    (hd : ∀ D H ys, Same H0 H → H0 D = none → H D = some (.lst ys) → ys.length = xs.length → (∀ (i : Nat) y, ys[i]? = some y → R i y H) → Qd D H) :
    ∃ b, V.ref a = .ref b ∧ (((∃ xs, SqL K H0 b xs) ∧ ∀ D, H0 D = none → ∃ W : Nat → Nat → Hp → Prop, (∃ m, W 0 m (upd H0 D (.lst []))) ∧ ∀ i m H, W i m H →
      ((Itl K b).stop i H ∧ Qd D H) ∨ ((Itl K b).go i H ∧ ∃ Nx : Hp → Prop, (∀ H', Nx H' → ∃ m', m' < m ∧ W (i + 1) m' H') ∧ ∀ x H', (Itl K b).yld i H x H' → g x (wipe σ vs) H' fun σ2 H2 => wipe σ2 vs = wipe σ vs ∧ tt σ2 H2 fun b H3 =>
        if b = true then te σ2 H3 fun y H4 => ∃ acc, H4 D = some (.lst acc) ∧ acc.length < sizeLine ∧ Nx (upd H4 D (.lst (acc ++ [y]))) else Nx H3)) ∨
      ((∃ xs, SqT K H0 b xs) ∧ ∀ D, H0 D = none → ∃ W : Nat → Nat → Hp → Prop, (∃ m, W 0 m (upd H0 D (.lst []))) ∧ ∀ i m H, W i m H →
      ((Itt K b).stop i H ∧ Qd D H) ∨ ((Itt K b).go i H ∧ ∃ Nx : Hp → Prop, (∀ H', Nx H' → ∃ m', m' < m ∧ W (i + 1) m' H') ∧ ∀ x H', (Itt K b).yld i H x H' → g x (wipe σ vs) H' fun σ2 H2 => wipe σ2 vs = wipe σ vs ∧ tt σ2 H2 fun b H3 =>
        if b = true then te σ2 H3 fun y H4 => ∃ acc, H4 D = some (.lst acc) ∧ acc.length < sizeLine ∧ Nx (upd H4 D (.lst (acc ++ [y]))) else Nx H3))) := by
  have step : ∀ D, H0 D = none → ∀ i x H, xs[i]? = some x → (Same H0 H ∧ ∃ ys, H D = some (.lst ys) ∧ ys.length = i ∧ ∀ (j : Nat) y, ys[j]? = some y → R j y H) →
      g x (wipe σ vs) H fun σ2 H2 => wipe σ2 vs = wipe σ vs ∧ tt σ2 H2 fun b H3 => if b = true then te σ2 H3 fun y H4 => ∃ acc, H4 D = some (.lst acc) ∧ acc.length < sizeLine ∧
        (Same H0 (upd H4 D (.lst (acc ++ [y]))) ∧ ∃ ys, (upd H4 D (.lst (acc ++ [y]))) D = some (.lst ys) ∧ ys.length = i + 1 ∧ ∀ (j : Nat) z, ys[j]? = some z → R j z (upd H4 D (.lst (acc ++ [y])))) else (Same H0 H3 ∧ ∃ ys, H3 D = some (.lst ys) ∧ ys.length = i + 1 ∧ ∀ (j : Nat) z, ys[j]? = some z → R j z H3) := by
    rintro D hD i x H hx ⟨e, ys, hy, hl2, hR⟩
    refine hs D i x H (fun H3 => Same H0 H3 ∧ ∃ ys, H3 D = some (.lst ys) ∧ ys.length = i + 1 ∧ ∀ (j : Nat) z, ys[j]? = some z → R j z H3) hx e ⟨ys, hy⟩ fun y H4 e4 hr => ?_
    have hi : i < xs.length := (List.getElem?_eq_some_iff.mp hx).1
    have h4 := e4 D _ hy
    have sx : SameT H4 (upd H4 D (.lst (ys ++ [y]))) := SameT.upd h4 rfl
    have sx0 : SameT H (upd H4 D (.lst (ys ++ [y]))) := (SameT.of e4).trans sx
    refine ⟨ys, h4, Nat.lt_of_le_of_lt (by omega : ys.length ≤ 16000000) (by decide), same_mut (e.trans e4) hD, ys ++ [y], upd_same, by rw [List.length_append, hl2] <;> rfl, fun j z hz => ?_⟩
    rcases Nat.lt_or_ge j ys.length with lt | ge
    · rw [List.getElem?_append_left lt] at hz
      exact mono j z _ _ (hR j z hz) sx0
    · rw [List.getElem?_append_right ge] at hz
      have hj : j - ys.length = 0 := by
        have := (List.getElem?_eq_some_iff.mp hz).1
        simp only [List.length_singleton] at this
        omega
      rw [hj] at hz
      have hz' : y = z := Option.some.inj hz
      have ji : j = i := by omega
      rw [← hz', ji]
      exact mono i y _ _ hr sx
  refine ⟨a, rfl, ?_⟩
  rcases hq with hq | hq
  · exact .inl ⟨⟨xs, hq⟩, fun D hD => lc_list (xs := xs) (fun i H => Same H0 H ∧ ∃ ys, H D = some (.lst ys) ∧ ys.length = i ∧ ∀ (j : Nat) y, ys[j]? = some y → R j y H) ⟨same_new hD, [], upd_same, rfl, fun j y h => by simp at h⟩ (fun i H _ h => same_l h.1 hq) (step D hD)
      fun H ⟨e, ys, hy, hl2, hR⟩ => hd D H ys e hD hy hl2 hR⟩
  · exact .inr ⟨⟨xs, hq⟩, fun D hD => lc_tup (xs := xs) (fun i H => Same H0 H ∧ ∃ ys, H D = some (.lst ys) ∧ ys.length = i ∧ ∀ (j : Nat) y, ys[j]? = some y → R j y H) ⟨same_new hD, [], upd_same, rfl, fun j y h => by simp at h⟩ (fun i H _ h => same_t h.1 hq) (step D hD)
      fun H ⟨e, ys, hy, hl2, hR⟩ => hd D H ys e hD hy hl2 hR⟩
def Rw.word : Rw → Str
  | .set _ _ => "set"
  | .tell _ => "tell"
  | .skip => "skip"
  | .ite _ _ _ => "if"
  | .whl _ _ => "while"
def Rw.things : Rw → Int
  | .set _ _ => 3
  | .tell _ => 2
  | .skip => 1
  | .ite _ _ _ => 4
  | .whl _ _ => 3
def Rw.fm : Rw → Option Fm
  | .set _ f => some f
  | .tell f => some f
  | .skip => none
  | .ite f _ _ => some f
  | .whl f _ => some f
def Rw.parts : Rw → List (List Rw)
  | .ite _ a b => [a, b]
  | .whl _ a => [a]
  | _ => []
def FoAt (K : PySem.W.Frag) (H : Hp) (u : V) : Option Fm → Prop
  | none => u = .non
  | some f => FmAt K H u f
inductive BlksAt (K : PySem.W.Frag) (S : SQ) (H : Hp) : List V → List (List Rw) → Prop where
  | nil : BlksAt K S H [] []
  | cons {q : Addr} {ys : List V} {b : List Rw} {vs : List V} {l : List (List Rw)} (h : S H q ys) (hb : BkAt K S H ys b) (t : BlksAt K S H vs l) : BlksAt K S H (.ref q :: vs) (b :: l)
theorem BlksAt.go {K : PySem.W.Frag} {S S' : SQ} {H H' : Hp} (e : SameT H H') (s : ∀ a xs, S H a xs → S' H' a xs) : ∀ {vs : List V} {l : List (List Rw)}, BlksAt K S H vs l → BlksAt K S' H' vs l
  | _, _, .nil => .nil
  | _, _, .cons h hb t => .cons (s _ _ h) (hb.go e s) (t.go e s)
theorem BlksAt.get {K : PySem.W.Frag} {S : SQ} {H : Hp} : ∀ {vs : List V} {l : List (List Rw)} {i : Nat} {v : V}, BlksAt K S H vs l → vs[i]? = some v → ∃ b q ys, l[i]? = some b ∧ v = .ref q ∧ S H q ys ∧ BkAt K S H ys b
  | _, _, 0, _, .cons h hb _, e => ⟨_, _, _, rfl, (Option.some.inj e).symm, h, hb⟩
  | _, _, i + 1, _, .cons _ _ t, e => t.get (i := i) e
  | _, _, _, _, .nil, e => by simp at e
theorem BlksAt.len {K : PySem.W.Frag} {S : SQ} {H : Hp} : ∀ {vs : List V} {l : List (List Rw)}, BlksAt K S H vs l → vs.length = l.length
  | _, _, .nil => rfl
  | _, _, .cons _ _ t => congrArg (· + 1) t.len
theorem parts_ok {ns : List Str} {r : Rw} (h : r.ok ns) : ∀ b ∈ r.parts, oks ns b := by
  cases r with
  | ite f a b => intro c hc; rcases List.mem_cons.mp hc with rfl | hc; exact h.2.1; rw [List.mem_singleton.mp hc]; exact h.2.2
  | whl f a => intro c hc; rw [List.mem_singleton.mp hc]; exact h.2
  | set x f => exact fun _ h => nomatch h
  | tell f => exact fun _ h => nomatch h
  | skip => exact fun _ h => nomatch h
theorem parts_nest {r : Rw} : ∀ b ∈ r.parts, nests b + 1 ≤ r.nest := by
  cases r with
  | ite f a b =>
    intro c hc
    show nests c + 1 ≤ 1 + max (nests a) (nests b)
    rcases List.mem_cons.mp hc with rfl | hc
    · omega
    · rw [List.mem_singleton.mp hc]; omega
  | whl f a => intro c hc; rw [List.mem_singleton.mp hc]; show nests a + 1 ≤ 1 + nests a; omega
  | set x f => exact fun _ h => nomatch h
  | tell f => exact fun _ h => nomatch h
  | skip => exact fun _ h => nomatch h
theorem parts_size {r : Rw} : r.size = 1 + (r.parts.map szs).sum := by
  cases r with
  | ite f a b => show 1 + (szs a + szs b) = 1 + (szs a + (szs b + 0)); omega
  | whl f a => show 1 + szs a = 1 + (szs a + 0); omega
  | set x f => rfl
  | tell f => rfl
  | skip => rfl
theorem parts_len {r : Rw} : r.parts.length ≤ 2 := by cases r <;> simp [Rw.parts]
theorem part_size {r : Rw} {b : List Rw} (h : b ∈ r.parts) : szs b ≤ r.size := by
  rw [parts_size]
  have : szs b ≤ (r.parts.map szs).sum := by
    have m : szs b ∈ r.parts.map szs := List.mem_map.mpr ⟨b, h, rfl⟩
    revert m
    generalize r.parts.map szs = l
    intro m
    induction l with
    | nil => exact nomatch m
    | cons x r ih =>
      rw [List.sum_cons]
      rcases List.mem_cons.mp m with e | m
      · omega
      · have := ih m; omega
  omega
theorem fm_ok {ns : List Str} {r : Rw} {f : Fm} (h : r.ok ns) (e : r.fm = some f) : f.fine ns := by
  cases r with
  | ite g a b => rw [← Option.some.inj e]; exact h.1
  | whl g a => rw [← Option.some.inj e]; exact h.1
  | set x g => rw [← Option.some.inj e]; exact h.2
  | tell g => rw [← Option.some.inj e]; exact h
  | skip => exact nomatch e
/-- a row's things -/
theorem RwAt.head {K : PySem.W.Frag} {S : SQ} {H : Hp} {v : V} {r : Rw} (h : RwAt K S H v r) : ∃ a xs, v = .ref a ∧ SqT K H a (.str r.word :: xs) ∧ ((xs.length : Int) + 1 = r.things) := by
  cases h <;> exact ⟨_, _, rfl, ‹_›, rfl⟩
mutual
theorem RwAt.dpE {K : PySem.W.Frag} {H : Hp} {ns : List Str} (hn : ∀ x ∈ ns, Nm x) : ∀ {v : V} {r : Rw}, RwAt K (SE K) H v r → r.ok ns → ∃ d ds, Dp K H v (.tuple (d :: ds)) ∧ Dk (.tuple (d :: ds)) (2 * r.nest + 11)
  | _, _, .set h hf, ho => ⟨_, _, .tup h (.cons (.str _) (.cons (.str _) (.cons hf.dp .nil))), (Rw.dk hn tupD (r := .set _ _) ho)⟩
  | _, _, .tell h hf, ho => ⟨_, _, .tup h (.cons (.str _) (.cons hf.dp .nil)), (Rw.dk hn tupD (r := .tell _) ho)⟩
  | _, _, .skip h, ho => ⟨_, _, .tup h (.cons (.str _) .nil), (Rw.dk hn tupD (r := .skip) ho)⟩
  | _, _, .ite (b := b) (c := c) h hf hp hb hq hc, ho => by
    obtain ⟨d1, e1, k1⟩ := SEdp hn hp hb ho.2.1
    obtain ⟨d2, e2, k2⟩ := SEdp hn hq hc ho.2.2
    refine ⟨_, _, .tup h (.cons (.str _) (.cons hf.dp (.cons e1 (.cons e2 .nil)))), ?_⟩
    show Dk _ (2 * (1 + max (nests b) (nests c)) + 11)
    exact (Dk.tup (k := 2 * max (nests b) (nests c) + 12) (dk_cons (Dk.str if_ok) (dk_cons ((Fm.dk hn ho.1.1).mono (Nat.le_trans ho.1.2 (by omega))) (dk_cons (k1.mono (by omega)) (dk_cons (k2.mono (by omega)) dk_nil))))).mono (by omega)
  | _, _, .whl (b := b) h hf hp hb, ho => by
    obtain ⟨d1, e1, k1⟩ := SEdp hn hp hb ho.2
    refine ⟨_, _, .tup h (.cons (.str _) (.cons hf.dp (.cons e1 .nil))), ?_⟩
    show Dk _ (2 * (1 + nests b) + 11)
    exact (Dk.tup (k := 2 * nests b + 12) (dk_cons (Dk.str while_ok) (dk_cons ((Fm.dk hn ho.1.1).mono (Nat.le_trans ho.1.2 (by omega))) (dk_cons (k1.mono (by omega)) dk_nil)))).mono (by omega)
theorem SEdp {K : PySem.W.Frag} {H : Hp} {ns : List Str} (hn : ∀ x ∈ ns, Nm x) {a : Addr} {xs : List V} {b : List Rw} (hs : SE K H a xs) (hb : BkAt K (SE K) H xs b) (ho : oks ns b) : ∃ d, Dp K H (.ref a) d ∧ Dk d (2 * nests b + 12) := by
  obtain ⟨ds, e, k⟩ := BkAt.dpE hn hb ho
  rcases hs with h | h
  · exact ⟨_, .lst h e, Dk.list k⟩
  · exact ⟨_, .tup h e, Dk.tup k⟩
theorem BkAt.dpE {K : PySem.W.Frag} {H : Hp} {ns : List Str} (hn : ∀ x ∈ ns, Nm x) : ∀ {vs : List V} {l : List Rw}, BkAt K (SE K) H vs l → oks ns l → ∃ ds, DpAll K H vs ds ∧ ∀ d ∈ ds, Dk d (2 * nests l + 11)
  | _, _, .nil, _ => ⟨[], .nil, dk_nil⟩
  | _, _, .cons (r := r) (l := l) h t, ho => by
    obtain ⟨d, dt, e, k⟩ := RwAt.dpE hn h ho.1
    obtain ⟨ds, e2, k2⟩ := BkAt.dpE hn t ho.2
    have q : nests (r :: l) = max r.nest (nests l) := rfl
    exact ⟨.tuple (d :: dt) :: ds, .cons e e2, dk_cons (k.mono (by omega)) fun x hx => (k2 x hx).mono (by omega)⟩
end
def sp_things_of (K : PySem.W.Frag) : Sp := fun vs H Q _ => ∃ r : Rw, vs = [.str r.word] ∧ Q (.int r.things) H
def sp_formula_of (K : PySem.W.Frag) : Sp := fun vs H Q _ => ∃ (v : V) (r : Rw), vs = [v] ∧ RwAt K (SE K) H v r ∧ ∀ u, FoAt K H u r.fm → Q u H
def sp_blocks_of (K : PySem.W.Frag) : Sp := fun vs H Q _ => ∃ (v : V) (r : Rw) (S : SQ), vs = [v] ∧ RwAt K S H v r ∧ ∀ (p : Addr) (H' : Hp) (ws : List V), Same H H' → H p = none → H' p = some (.lst ws) → BlksAt K S H ws r.parts → Q (.ref p) H'
def sp_need_form (K : PySem.W.Frag) : Sp := fun vs H Q _ => ∃ (v : V) (r : Rw) (ns : List Str), vs = [v] ∧ RwAt K (SE K) H v r ∧ r.ok ns ∧ (∀ x ∈ ns, Nm x) ∧ r.nest ≤ 20 ∧ ∀ H', Same H H' → Q .non H'
def sp_need_row (K : PySem.W.Frag) (n : Nat) : Sp := fun vs H Q _ => ∃ (v : V) (r : Rw) (ns : List Str) (d : Int), vs = [v, .int d] ∧ RwAt K (SE K) H v r ∧ r.ok ns ∧ (∀ x ∈ ns, Nm x) ∧ r.nest ≤ n ∧ (r.nest : Int) + d ≤ 9 ∧ 1 ≤ d ∧ r.size ≤ 100000 ∧
  ∀ (u : V) (H' : Hp), Same H H' → RwAt K (SqT K) H' u r → Q u H'
def sp_need_block (K : PySem.W.Frag) (n : Nat) : Sp := fun vs H Q _ => ∃ (a : Addr) (xs : List V) (b : List Rw) (ns : List Str) (d : Int), vs = [.ref a, .int d] ∧ SE K H a xs ∧ BkAt K (SE K) H xs b ∧ oks ns b ∧ (∀ x ∈ ns, Nm x) ∧ nests b ≤ n ∧ (nests b : Int) + d ≤ 9 ∧ 1 ≤ d ∧ szs b ≤ 100000 ∧
  ∀ (p : Addr) (H' : Hp) (ys : List V), Same H H' → SqT K H' p ys → BkAt K (SqT K) H' ys b → Q (.ref p) H'
def sp_need_names (K : PySem.W.Frag) : Sp := fun vs H Q _ => ∃ (a t : Addr) (ns ts : List Str), vs = [.ref a, .ref t] ∧ SE K H a (ns.map V.str) ∧ SqL K H t (ts.map V.str) ∧ (∀ x ∈ ns, Nm x) ∧ ns.Nodup ∧ (∀ x ∈ ns, x ∉ ts) ∧ ns.length ≤ 1000 ∧
  ∀ (p : Addr) (H' : Hp), Same H H' → H p = none → H' p = some (.lst (ns.map V.str)) → Q (.ref p) H'
def sp_size_of (K : PySem.W.Frag) (n : Nat) : Sp := fun vs H Q _ => ∃ (v : V) (r : Rw), vs = [v] ∧ RwAt K (SE K) H v r ∧ r.nest ≤ n ∧ r.size ≤ 100000 ∧ ∀ H', Same H H' → Q (.int (r.size : Nat)) H'
def sp_many_in (K : PySem.W.Frag) (n : Nat) : Sp := fun vs H Q _ => ∃ (a : Addr) (xs : List V) (b : List Rw), vs = [.ref a] ∧ SE K H a xs ∧ BkAt K (SE K) H xs b ∧ nests b ≤ n ∧ szs b ≤ 100000 ∧ ∀ H', Same H H' → Q (.int (szs b : Nat)) H'
abbrev N_things_of : List Str := ["word"]
def t_things_of_j1 (K : PySem.W.Frag) : TS :=
  (tSeq (tIfS (tTest (tOp (rEq2 K) (tVar 0) (tC (.str "if")))) (tRet (tC (.int 4))) tNext) (tRet (tC (.int 0))))
def t_things_of (K : PySem.W.Frag) : TS :=
  (tSeq (tIfS (tTest (tOp (rEq2 K) (tVar 0) (tC (.str "skip")))) (tRet (tC (.int 1))) tNext) (tSeq (tIfS (tTest (tOp (rEq2 K) (tVar 0) (tC (.str "tell")))) (tRet (tC (.int 2))) tNext) (tSeq (tIfS (tOr (tTest (tOp (rEq2 K) (tVar 0) (tC (.str "set")))) (tTest (tOp (rEq2 K) (tVar 0) (tC (.str "while"))))) (tRet (tC (.int 3))) tNext) (t_things_of_j1 K))))
abbrev N_formula_of : List Str := ["row"]
def t_formula_of (K : PySem.W.Frag) : TS :=
  (tSeq (tIfS (tTest (tOp (rEq2 K) (tOp (rIx K) (tVar 0) (tC (.int 0))) (tC (.str "skip")))) (tRet (tC .non)) tNext) (tSeq (tIfS (tTest (tOp (rEq2 K) (tOp (rIx K) (tVar 0) (tC (.int 0))) (tC (.str "set")))) (tRet (tOp (rIx K) (tVar 0) (tC (.int 2)))) tNext) (tRet (tOp (rIx K) (tVar 0) (tC (.int 1))))))
abbrev N_blocks_of : List Str := ["row"]
def t_blocks_of (K : PySem.W.Frag) : TS :=
  (tSeq (tIfS (tTest (tOp (rEq2 K) (tOp (rIx K) (tVar 0) (tC (.int 0))) (tC (.str "if")))) (tRet (tLst (tCons (tOp (rIx K) (tVar 0) (tC (.int 2))) (tCons (tOp (rIx K) (tVar 0) (tC (.int 3))) tNil)))) tNext) (tSeq (tIfS (tTest (tOp (rEq2 K) (tOp (rIx K) (tVar 0) (tC (.int 0))) (tC (.str "while")))) (tRet (tLst (tCons (tOp (rIx K) (tVar 0) (tC (.int 2))) tNil))) tNext) (tRet (tLst tNil))))
abbrev N_need_form : List Str := ["row", "block"]
def t_need_form_j1 (K : PySem.W.Frag) : TS :=
  (tFor (iSeq K (tF (sp_blocks_of K) (tCons (tVar 0) tNil))) (gName 1) (tIfS (tNot (tB (tF (sp_is_list K) (tCons (tVar 1) tNil)))) tNever tNext))
def t_need_form_j2 (K : PySem.W.Frag) : TS :=
  (tSeq (tIfS (tTest (tOp (rNe2 K) (tF (sp_things_of K) (tCons (tOp (rIx K) (tVar 0) (tC (.int 0))) tNil)) (tCB (rLenA K) (tCons (tVar 0) tNil)))) tNever tNext) (tSeq (tIfS (tAnd (tTest (tOp (rEq2 K) (tOp (rIx K) (tVar 0) (tC (.int 0))) (tC (.str "set")))) (tNot (tB (tF (sp_is_name K) (tCons (tOp (rIx K) (tVar 0) (tC (.int 1))) tNil))))) tNever tNext) (t_need_form_j1 K)))
def t_need_form (K : PySem.W.Frag) : TS :=
  (tSeq (tIfS (tOr (tNot (tB (tCB (rIsi2 K) (tCons (tVar 0) (tCons (tC (.ty "tuple")) tNil))))) (tOr (tTest (tOp (rEq2 K) (tVar 0) (tTup tNil))) (tNot (tB (tCB (rIsi2 K) (tCons (tOp (rIx K) (tVar 0) (tC (.int 0))) (tCons (tC (.ty "str")) tNil))))))) tNever tNext) (t_need_form_j2 K))
abbrev N_need_row : List Str := ["row", "deep", "blocks", "block"]
def t_need_row_j1 (K : PySem.W.Frag) (n : Nat) : TS :=
  (tRet (tVar 0))
def t_need_row_j2 (K : PySem.W.Frag) (n : Nat) : TS :=
  (tSeq (tAsg (tLc (iSeq K (tF (sp_blocks_of K) (tCons (tVar 0) tNil))) (gName 3) tYes (tF (sp_need_block K n) (tCons (tVar 3) (tCons (tOp (rAdd K) (tVar 1) (tC (.int 1))) tNil))) [3]) (gName 2)) (tSeq (tIfS (tOr (tTest (tOp (rEq2 K) (tOp (rIx K) (tVar 0) (tC (.int 0))) (tC (.str "if")))) (tTest (tOp (rEq2 K) (tOp (rIx K) (tVar 0) (tC (.int 0))) (tC (.str "while"))))) (tRet (tOp (rAdd K) (tTup (tCons (tOp (rIx K) (tVar 0) (tC (.int 0))) (tCons (tOp (rIx K) (tVar 0) (tC (.int 1))) tNil))) (tCB (rTupO K) (tCons (tVar 2) tNil)))) tNext) (t_need_row_j1 K n)))
def t_need_row (K : PySem.W.Frag) (n : Nat) : TS :=
  (tSeq (tDrop (tF (sp_need_form K) (tCons (tVar 0) tNil))) (tSeq (tIfS (tTest (tOp rGt (tVar 1) (tC (.int 8)))) tNever tNext) (tSeq (tIfS (tTest (tOp (rNe2 K) (tOp (rIx K) (tVar 0) (tC (.int 0))) (tC (.str "skip")))) (tDrop (tF (sp_need_formula K 18) (tCons (tF (sp_formula_of K) (tCons (tVar 0) tNil)) (tCons (tC (.int 12)) tNil)))) tNext) (t_need_row_j2 K n))))
abbrev N_need_block : List Str := ["block", "deep", "row"]
def t_need_block (K : PySem.W.Frag) (n : Nat) : TS :=
  (tSeq (tIfS (tNot (tB (tF (sp_is_list K) (tCons (tVar 0) tNil)))) tNever tNext) (tRet (tCB (rTupO K) (tCons (tLc (iSeq K (tVar 0)) (gName 2) tYes (tF (sp_need_row K n) (tCons (tVar 2) (tCons (tVar 1) tNil))) [2]) tNil))))
abbrev N_need_names : List Str := ["names", "told", "found", "name"]
def t_need_names_j1 (K : PySem.W.Frag) : TS :=
  (tDrop (tBM K "list" rAppend (tVar 2) (tCons (tVar 3) tNil)))
def t_need_names (K : PySem.W.Frag) : TS :=
  (tSeq (tIfS (tNot (tB (tF (sp_is_list K) (tCons (tVar 0) tNil)))) tNever tNext) (tSeq (tAsg (tLst tNil) (gName 2)) (tSeq (tFor (iSeq K (tVar 0)) (gName 3) (tSeq (tIfS (tNot (tB (tF (sp_is_name K) (tCons (tVar 3) tNil)))) tNever tNext) (tSeq (tIfS (tOr (tTest (tOp (rIn2 K false) (tVar 3) (tVar 1))) (tTest (tOp (rIn2 K false) (tVar 3) (tVar 2)))) tNever tNext) (t_need_names_j1 K)))) (tRet (tVar 2)))))
abbrev N_size_of : List Str := ["row", "block"]
def t_size_of (K : PySem.W.Frag) (n : Nat) : TS :=
  (tRet (tOp (rAdd K) (tC (.int 1)) (tCB (rSum K) (tCons (tLc (iSeq K (tF (sp_blocks_of K) (tCons (tVar 0) tNil))) (gName 1) tYes (tF (sp_many_in K n) (tCons (tVar 1) tNil)) [1]) tNil))))
abbrev N_many_in : List Str := ["block", "row"]
def t_many_in (K : PySem.W.Frag) (n : Nat) : TS :=
  (tRet (tCB (rSum K) (tCons (tLc (iSeq K (tVar 0)) (gName 1) tYes (tF (sp_size_of K n) (tCons (tVar 1) tNil)) [1]) tNil)))
theorem at0 {x : V} {xs : List V} : atI (x :: xs) 0 = some x := atI_nat (j := 0) rfl
theorem pure_things_of (K : PySem.W.Frag) (vs : List V) (H : Hp) (Q : VK) (E : XK) (h : sp_things_of K vs H Q E) :
    t_things_of K { nx := fun _ H' => Q .non H', rt := Q } (start N_things_of vs) H := by
  obtain ⟨r, rfl, q⟩ := h
  unfold t_things_of
  cases r with
  | set x f => simp only [Rw.word]; walk_at "go"; exact q
  | tell f => simp only [Rw.word]; walk_at "go"; exact q
  | skip => simp only [Rw.word]; walk_at "go"; exact q
  | ite f a b => simp only [Rw.word]; walk_at "go"; unfold t_things_of_j1; walk_at "go"; exact q
  | whl f a => simp only [Rw.word]; walk_at "go"; exact q
theorem pure_formula_of (K : PySem.W.Frag) (vs : List V) (H : Hp) (Q : VK) (E : XK) (h : sp_formula_of K vs H Q E) :
    t_formula_of K { nx := fun _ H' => Q .non H', rt := Q } (start N_formula_of vs) H := by
  obtain ⟨v, r, rfl, hr, q⟩ := h
  unfold t_formula_of
  cases hr with
  | set h hf => walk_at "go"; exact q _ hf
  | tell h hf => walk_at "go"; exact q _ hf
  | skip h => walk_at "go"; exact q _ rfl
  | ite h hf _ _ _ _ => walk_at "go"; exact q _ hf
  | whl h hf _ _ => walk_at "go"; exact q _ hf
theorem pure_blocks_of (K : PySem.W.Frag) (vs : List V) (H : Hp) (Q : VK) (E : XK) (h : sp_blocks_of K vs H Q E) :
    t_blocks_of K { nx := fun _ H' => Q .non H', rt := Q } (start N_blocks_of vs) H := by
  obtain ⟨v, r, S, rfl, hr, q⟩ := h
  unfold t_blocks_of
  cases hr with
  | set h hf => walk_at "go"; exact w_new (by walk_at "sz") fun p hp => q p _ _ (same_new hp) hp upd_same .nil
  | tell h hf => walk_at "go"; exact w_new (by walk_at "sz") fun p hp => q p _ _ (same_new hp) hp upd_same .nil
  | skip h => walk_at "go"; exact w_new (by walk_at "sz") fun p hp => q p _ _ (same_new hp) hp upd_same .nil
  | ite h hf hp hb hq hc => walk_at "go"; exact w_new (by walk_at "sz") fun p hp0 => q p _ _ (same_new hp0) hp0 upd_same (.cons hp hb (.cons hq hc .nil))
  | whl h hf hp hb => walk_at "go"; exact w_new (by walk_at "sz") fun p hp0 => q p _ _ (same_new hp0) hp0 upd_same (.cons hp hb .nil)
theorem pure_need_form (K : PySem.W.Frag) (vs : List V) (H : Hp) (Q : VK) (E : XK) (h : sp_need_form K vs H Q E) :
    t_need_form K { nx := fun _ H' => Q .non H', rt := Q } (start N_need_form vs) H := by
  obtain ⟨v, r, ns, rfl, hr, ho, hN, hn, q⟩ := h
  obtain ⟨d, ds, hd, hk⟩ := RwAt.dpE hN hr ho
  obtain ⟨a, xs, rfl, hs, hlen⟩ := hr.head
  have j1 : ∀ H1, Same H H1 → t_need_form_j1 K { nx := fun _ H' => Q .non H', rt := Q } [some (.ref a), none] H1 := by
    intro H1 e1
    unfold t_need_form_j1
    walk_at "go"
    refine ⟨_, r, _, rfl, hr.monoE e1, fun p H2 ws e2 hp hp2 hb => ?_⟩
    refine w_isL (SqL.of hp2) ?_
    refine for_list (xs := ws) (fun i σ H' => Same H2 H' ∧ ∃ w, σ = [some (.ref a), w]) ⟨Same.refl _, _, rfl⟩ (fun i σ H' _ h => SqL.of (h.1 p _ hp2)) ?_ ?_
    · rintro i x σ H' hx ⟨e3, w, rfl⟩
      obtain ⟨b, q', ys, _, rfl, hs', _⟩ := hb.get hx
      walk_at "go"
      refine ⟨q', ys, rfl, se_same (e2.trans e3) hs', fun H4 e4 => ?_⟩
      walk_at "go"
      exact ⟨e3.trans e4, _, rfl⟩
    · rintro σ H' ⟨e3, w, rfl⟩
      exact q _ (e1.trans (e2.trans e3))
  have j2 : ∀ H1, Same H H1 → t_need_form_j2 K { nx := fun _ H' => Q .non H', rt := Q } [some (.ref a), none] H1 := by
    intro H1 e1
    unfold t_need_form_j2
    have hs1 := same_t e1 hs
    walk_at "go"
    refine w_ixT hs1 at0 ?_
    walk_at "go"
    refine ⟨r, rfl, ?_⟩
    walk_at "go"
    refine w_no (show (!decide (r.things = (((V.str r.word :: xs).length : Nat) : Int))) = false by rw [List.length_cons, ← hlen]; simp) ?_
    have hr1 := hr.monoE e1
    have jj := j1 H1 e1
    cases r with
    | set x f =>
      cases hr1 with
      | set h1 hf =>
        simp only [Rw.word]
        walk_at "go"
        have nm := hN x ho.1
        refine ⟨x, rfl, sz (by rw [cs_len]; have := nm.most; omega), ?_⟩
        rw [nm_iff.mpr nm]
        walk_at "go"
        exact jj
    | tell f => walk_at "go"; refine w_ixT hs1 at0 ?_; simp only [Rw.word]; walk_at "go"; exact jj
    | skip => walk_at "go"; refine w_ixT hs1 at0 ?_; simp only [Rw.word]; walk_at "go"; exact jj
    | ite f a b => walk_at "go"; refine w_ixT hs1 at0 ?_; simp only [Rw.word]; walk_at "go"; exact jj
    | whl f a => walk_at "go"; refine w_ixT hs1 at0 ?_; simp only [Rw.word]; walk_at "go"; exact jj
  unfold t_need_form
  walk_at "go"
  refine w_isi (tyx_t hs) rfl ?_
  walk_at "go"
  refine w_new (by walk_at "sz") (fun p hp => ?_)
  have hd1 : ∀ {H1 : Hp}, Same H H1 → ∃ d ds, Dp K H1 (.ref a) (.tuple (d :: ds)) ∧ Dk (.tuple (d :: ds)) (2 * r.nest + 11) := fun e => RwAt.dpE hN (hr.monoE e) ho
  obtain ⟨d, ds, hd, hk⟩ := hd1 (same_new (o := .tup []) hp)
  refine w_eqD hd (.tup (SqT.of upd_same) .nil) (hk.shaped (by omega)) ((Dk.tup (k := 0) dk_nil).shaped (by decide)) ?_
  rw [show PyData.eqv (.tuple (d :: ds)) (.tuple []) = false from rfl]
  have hs2 := same_t (same_new (o := .tup []) hp) hs
  walk_at "go"
  refine w_ixT hs2 at0 ?_
  walk_at "go"
  refine w_isi (.base (.str _)) rfl ?_
  walk_at "go"
  exact j2 _ (same_new hp)
theorem w_addTup {K : PySem.W.Frag} {H : Hp} {Q : VK} {a b : Addr} {xs ys : List V} (ha : SqT K H a xs) (hb : SqT K H b ys) (hx : xs ≠ []) (hy : ys ≠ []) (z : xs.length + ys.length ≤ sizeLine) (q : ∀ p, H p = none → Q (.ref p) (upd H p (.tup (xs ++ ys)))) : rAdd K (.ref a) (.ref b) H Q :=
  .inr (.inr (.inr ⟨a, b, xs, ys, rfl, rfl, ha, hb, z, fun e => absurd e hx, fun _ e => absurd e hy, fun _ _ => q⟩))
theorem no_need_row {K : PySem.W.Frag} : ∀ vs H Q E, ¬ sp_need_row K 0 vs H Q E := by
  rintro vs H Q E ⟨v, r, _, _, _, _, _, _, h, _⟩
  have := nest_pos r
  omega
theorem pure_need_row (K : PySem.W.Frag) (n : Nat) (vs : List V) (H : Hp) (Q : VK) (E : XK) (h : sp_need_row K (n + 1) vs H Q E) :
    t_need_row K n { nx := fun _ H' => Q .non H', rt := Q } (start N_need_row vs) H := by
  obtain ⟨v, r, ns, d, rfl, hr, ho, hN, hn, hd, d1, hz, q⟩ := h
  obtain ⟨a, xs, rfl, hs, hlen⟩ := hr.head
  have rp := nest_pos r
  have j2 : ∀ H1, Same H H1 → t_need_row_j2 K n { nx := fun _ H' => Q .non H', rt := Q } [some (.ref a), some (.int d), none, none] H1 := by
    intro H1 e1
    unfold t_need_row_j2
    walk_at "go"
    refine w_lc ?_
    walk_at "go"
    refine ⟨_, r, _, rfl, hr.monoE e1, fun p H2 ws e2 hp hp2 hb => ?_⟩
    have wl : ws.length ≤ 2 := by rw [hb.len]; exact parts_len
    refine lc_se (xs := ws) (fun i y H' => ∃ b t ys, r.parts[i]? = some b ∧ y = .ref t ∧ SqT K H' t ys ∧ BkAt K (SqT K) H' ys b) (.inl (SqL.of hp2)) (by omega) (fun i y H1 H2 ⟨b, t, ys, h1, h2, h3, h4⟩ s => ⟨b, t, ys, h1, h2, sameT_t s h3, h4.monoT s⟩) ?_ ?_
    · rintro D i x H3 Nx hx e3 ⟨zs, hzs⟩ k
      obtain ⟨b, t, ys, hb1, rfl, hs1, hk1⟩ := hb.get hx
      have bm : b ∈ r.parts := List.mem_of_getElem? hb1
      have pn := parts_nest b bm
      have ps := part_size bm
      have e23 := e2.trans e3
      refine ⟨rfl, ?_⟩
      walk_at "go"
      refine ⟨t, ys, b, ns, _, rfl, se_same e23 hs1, hk1.monoE e23, parts_ok ho b bm, hN, by omega, by omega, by omega, by omega, fun u H4 us e4 hu hbu => ?_⟩
      exact k _ H4 e4 ⟨b, u, us, hb1, rfl, hu, hbu⟩
    · intro D H3 ys e3 hD hD3 hyl hR
      have e13 := e1.trans (e2.trans e3)
      have hs3 := same_t e13 hs
      have hr3 := hr.monoE e13
      rw [hb.len] at hyl
      cases r with
      | set x f =>
        cases hr3 with
        | set h1 hf =>
          walk_at "go"
          unfold t_need_row_j1
          walk_at "go"
          exact q _ _ e13 (.set h1 hf)
      | tell f =>
        cases hr3 with
        | tell h1 hf =>
          walk_at "go"
          unfold t_need_row_j1
          walk_at "go"
          exact q _ _ e13 (.tell h1 hf)
      | skip =>
        cases hr3 with
        | skip h1 =>
          walk_at "go"
          unfold t_need_row_j1
          walk_at "go"
          exact q _ _ e13 (.skip h1)
      | ite f b1 b2 =>
        cases hr3 with
        | @ite _ _ _ u _ _ _ _ _ h1 hf hp1 hb1 hp2' hb2 =>
          obtain ⟨y1, y2, rfl⟩ := list_two hyl
          obtain ⟨c1, t1, z1, g1, rfl, s1, k1⟩ := hR 0 _ rfl
          obtain ⟨c2, t2, z2, g2, rfl, s2, k2⟩ := hR 1 _ rfl
          obtain rfl : b1 = c1 := Option.some.inj g1
          obtain rfl : b2 = c2 := Option.some.inj g2
          walk_at "go"
          refine w_new (by walk_at "sz") (fun p4 hp4 => ?_)
          walk_at "go"
          refine w_tupL (SqL.of ((same_new hp4) _ _ hD3)) (fun p5 hp5 => ?_)
          refine w_addTup (same_t (same_new hp5) (SqT.of upd_same)) (SqT.of upd_same) (by simp) (by simp) (sz (by simp)) (fun p6 hp6 => ?_)
          have s6 := (same_new (o := .tup [.ref t1, .ref t2]) hp5).trans (same_new (o := .tup ([V.str "if", u] ++ [.ref t1, .ref t2])) hp6)
          have s7 := (same_new (o := .tup [V.str "if", u]) hp4).trans s6
          exact q _ _ (e13.trans s7) (.ite (SqT.of upd_same) (hf.mono s7) (same_t s7 s1) (k1.monoT (SameT.of s7)) (same_t s7 s2) (k2.monoT (SameT.of s7)))
      | whl f b1 =>
        cases hr3 with
        | @whl _ _ u _ _ _ h1 hf hp1 hb1 =>
          obtain ⟨y1, rfl⟩ := list_one hyl
          obtain ⟨c1, t1, z1, g1, rfl, s1, k1⟩ := hR 0 _ rfl
          obtain rfl : b1 = c1 := Option.some.inj g1
          walk_at "go"
          refine w_new (by walk_at "sz") (fun p4 hp4 => ?_)
          walk_at "go"
          refine w_tupL (SqL.of ((same_new hp4) _ _ hD3)) (fun p5 hp5 => ?_)
          refine w_addTup (same_t (same_new hp5) (SqT.of upd_same)) (SqT.of upd_same) (by simp) (by simp) (sz (by simp)) (fun p6 hp6 => ?_)
          have s6 := (same_new (o := .tup [.ref t1]) hp5).trans (same_new (o := .tup ([V.str "while", u] ++ [.ref t1])) hp6)
          have s7 := (same_new (o := .tup [V.str "while", u]) hp4).trans s6
          exact q _ _ (e13.trans s7) (.whl (SqT.of upd_same) (hf.mono s7) (same_t s7 s1) (k1.monoT (SameT.of s7)))
  unfold t_need_row
  walk_at "go"
  refine ⟨_, r, ns, rfl, hr, ho, hN, by omega, fun H1 e1 => ?_⟩
  have d8 : decide (8 < d) = false := decide_eq_false (by omega)
  have hs1 := same_t e1 hs
  have hr1 := hr.monoE e1
  walk_at "go"
  refine w_ixT hs1 at0 ?_
  have wd : (!decide (r.word = ("skip" : Str))) = r.fm.isSome := by
    cases r with
    | set x f => exact (show (!decide (("set" : Str) = "skip")) = true by decide +kernel)
    | tell f => exact (show (!decide (("tell" : Str) = "skip")) = true by decide +kernel)
    | skip => decide +kernel
    | ite f a b => exact (show (!decide (("if" : Str) = "skip")) = true by decide +kernel)
    | whl f a => exact (show (!decide (("while" : Str) = "skip")) = true by decide +kernel)
  walk_at "go"
  cases hfm : r.fm with
  | none =>
    rw [hfm] at wd
    refine w_no wd ?_
    walk_at "go"
    exact j2 H1 e1
  | some f =>
    rw [hfm] at wd
    refine w_yes wd ?_
    walk_at "go"
    refine ⟨_, r, rfl, hr1, fun u hu => ?_⟩
    rw [hfm] at hu
    have ff := fm_ok ho hfm
    walk_at "go"
    refine ⟨u, f, ns, 12, rfl, hu, ff.1, hN, Nat.le_trans ff.2 (by decide), by have := ff.2; omega, ?_⟩
    exact j2 H1 e1
theorem pure_need_block (K : PySem.W.Frag) (n : Nat) (vs : List V) (H : Hp) (Q : VK) (E : XK) (h : sp_need_block K n vs H Q E) :
    t_need_block K n { nx := fun _ H' => Q .non H', rt := Q } (start N_need_block vs) H := by
  obtain ⟨a, xs, b, ns, d, rfl, hs, hb, ho, hN, hn, hd, d1, hz, q⟩ := h
  unfold t_need_block
  walk_at "go"
  refine ⟨a, xs, rfl, hs, fun H1 e1 => ?_⟩
  walk_at "go"
  refine w_lc ?_
  walk_at "go"
  have bl := szs_len b
  have xl := hb.len
  refine lc_se (xs := xs) (fun i y H' => ∃ r, b[i]? = some r ∧ RwAt K (SqT K) H' y r) (se_same e1 hs) (by omega) (fun i y H1 H2 ⟨r, h1, h2⟩ s => ⟨r, h1, h2.monoT s⟩) ?_ ?_
  · rintro D i x H3 Nx hx e3 ⟨zs, hzs⟩ k
    obtain ⟨r, hr1, hr2⟩ := hb.get hx
    have rm : r ∈ b := List.mem_of_getElem? hr1
    have rn := nest_mem rm
    have rz := sz_mem rm
    refine ⟨rfl, ?_⟩
    walk_at "go"
    refine ⟨x, r, ns, d, rfl, hr2.monoE (e1.trans e3), oks_mem ho r rm, hN, by omega, by omega, d1, by omega, fun u H4 e4 hu => ?_⟩
    exact k _ H4 e4 ⟨r, hr1, hu⟩
  · intro D H3 ys e3 hD hD3 hyl hR
    have all : ∀ {ys : List V} {b : List Rw}, ys.length = b.length → (∀ (i : Nat) y, ys[i]? = some y → ∃ r, b[i]? = some r ∧ RwAt K (SqT K) H3 y r) → BkAt K (SqT K) H3 ys b := by
      intro ys
      induction ys with
      | nil =>
        intro b hl _
        cases b with
        | nil => exact .nil
        | cons _ _ => exact nomatch hl
      | cons y ys ih =>
        intro b hl hR
        cases b with
        | nil => exact nomatch hl
        | cons r b =>
          obtain ⟨r', h1, h2⟩ := hR 0 y rfl
          obtain rfl : r = r' := Option.some.inj h1
          exact .cons h2 (ih (Nat.succ.inj hl) fun i y hy => hR (i + 1) y hy)
    have hball := all (by rw [hyl, xl]) hR
    walk_at "go"
    refine w_tupL (SqL.of hD3) (fun p hp => ?_)
    exact q p _ ys (e1.trans (e3.trans (same_new hp))) (SqT.of upd_same) (hball.monoT (SameT.of (same_new hp)))
theorem pure_need_names (K : PySem.W.Frag) (vs : List V) (H : Hp) (Q : VK) (E : XK) (h : sp_need_names K vs H Q E) :
    t_need_names K { nx := fun _ H' => Q .non H', rt := Q } (start N_need_names vs) H := by
  obtain ⟨a, t, ns, ts, rfl, hs, ht, hN, nd, hd, hl, q⟩ := h
  unfold t_need_names
  walk_at "go"
  refine ⟨a, _, rfl, hs, fun H1 e1 => ?_⟩
  walk_at "go"
  refine w_new (by walk_at "sz") (fun p hp => ?_)
  have e2 := same_new (o := .lst []) hp
  have hp2 : upd H1 p (.lst []) p = _ := upd_same
  have hpH := none_of e1 hp
  generalize upd H1 p (.lst []) = H2 at e2 hp2
  walk_at "go"
  refine for_se (xs := ns.map V.str) (fun i σ H' => Same H1 H' ∧ H' p = some (.lst ((ns.take i).map V.str)) ∧ ∃ w, σ = [some (.ref a), some (.ref t), some (.ref p), w]) (se_same e1 hs) ⟨e2, hp2, _, rfl⟩ (fun i σ H' h => h.1) ?_ ?_
  · rintro i x σ H' hx ⟨e3, hp3, w, rfl⟩
    obtain ⟨y, hy, rfl⟩ : ∃ y, ns[i]? = some y ∧ V.str y = x := by
      rw [List.getElem?_map] at hx
      cases d : ns[i]? with
      | none => rw [d] at hx; exact nomatch hx
      | some y => rw [d] at hx; exact ⟨y, rfl, Option.some.inj hx⟩
    have ym : y ∈ ns := List.mem_of_getElem? hy
    have nm := hN y ym
    have tk : ns.take (i + 1) = ns.take i ++ [y] := by rw [List.take_succ, hy] <;> rfl
    have ny : y ∉ ns.take i := by
      intro c
      have nd2 : (ns.take (i + 1)).Nodup := List.Sublist.nodup (List.take_sublist _ _) nd
      rw [tk, List.nodup_append] at nd2
      exact nd2.2.2 y c y (List.mem_singleton.mpr rfl) rfl
    walk_at "go"
    refine ⟨y, rfl, sz (by rw [cs_len]; have := nm.most; omega), ?_⟩
    rw [nm_iff.mpr nm]
    walk_at "go"
    refine w_inTxt (xs := ts) (same_l (e1.trans e3) ht) ?_
    rw [decide_eq_false (hd y ym)]
    walk_at "go"
    refine w_inTxt (xs := ns.take i) (SqL.of hp3) ?_
    rw [decide_eq_false ny]
    walk_at "go"
    unfold t_need_names_j1
    walk_at "go"
    refine w_app hp3 (Nat.lt_of_le_of_lt (by rw [List.length_map, List.length_take]; omega : _ ≤ 1000) (by decide)) ?_
    exact ⟨same_mut e3 hp, by rw [upd_same, tk, List.map_append] <;> rfl, _, rfl⟩
  · rintro σ H' ⟨e3, hp3, w, rfl⟩
    rw [List.length_map, List.take_length] at hp3
    walk_at "go"
    exact q p H' (e1.trans e3) hpH hp3
theorem sum_cast {α : Type} {f : α → Nat} : ∀ {l : List α}, ((l.map fun x => ((f x : Nat) : Int)).sum) = (((l.map f).sum : Nat) : Int)
  | [] => rfl
  | x :: l => by
    rw [List.map_cons, List.map_cons, List.sum_cons, List.sum_cons, sum_cast (l := l)]
    omega
theorem szs_sum : ∀ b : List Rw, szs b = (b.map Rw.size).sum
  | [] => rfl
  | r :: b => by
    show r.size + szs b = _
    rw [List.map_cons, List.sum_cons, szs_sum b]
theorem eq_map {α : Type} {f : α → V} : ∀ {ys : List V} {xs : List α}, ys.length = xs.length → (∀ (i : Nat) y, ys[i]? = some y → ∃ x, xs[i]? = some x ∧ y = f x) → ys = xs.map f
  | [], [], _, _ => rfl
  | [], _ :: _, h, _ => nomatch h
  | _ :: _, [], h, _ => nomatch h
  | y :: ys, x :: xs, h, hR => by
    obtain ⟨z, h1, h2⟩ := hR 0 y rfl
    obtain rfl : x = z := Option.some.inj h1
    rw [h2, List.map_cons, eq_map (Nat.succ.inj h) fun i y hy => hR (i + 1) y hy]
theorem w_sum {K : PySem.W.Frag} {H : Hp} {Q : VK} {a : Addr} {ns : List Int} (h : SqL K H a (ns.map V.int)) (q : Q (.int ns.sum) H) : rSum K [.ref a] H Q := ⟨a, ns, rfl, h, q⟩
theorem no_size_of {K : PySem.W.Frag} : ∀ vs H Q E, ¬ sp_size_of K 0 vs H Q E := by
  rintro vs H Q E ⟨v, r, _, _, h, _⟩
  have := nest_pos r
  omega
theorem pure_size_of (K : PySem.W.Frag) (n : Nat) (vs : List V) (H : Hp) (Q : VK) (E : XK) (h : sp_size_of K (n + 1) vs H Q E) :
    t_size_of K n { nx := fun _ H' => Q .non H', rt := Q } (start N_size_of vs) H := by
  obtain ⟨v, r, rfl, hr, hn, hz, q⟩ := h
  unfold t_size_of
  walk_at "go"
  refine w_lc ?_
  walk_at "go"
  refine ⟨_, r, _, rfl, hr, fun p H2 ws e2 hp hp2 hb => ?_⟩
  have wl : ws.length ≤ 2 := by rw [hb.len]; exact parts_len
  refine lc_se (xs := ws) (fun i y H' => ∃ b, r.parts[i]? = some b ∧ y = .int (szs b : Nat)) (.inl (SqL.of hp2)) (by omega) (fun i y H1 H2 h _ => h) ?_ ?_
  · rintro D i x H3 Nx hx e3 ⟨zs, hzs⟩ k
    obtain ⟨b, t, ys, hb1, rfl, hs1, hk1⟩ := hb.get hx
    have bm : b ∈ r.parts := List.mem_of_getElem? hb1
    have pn := parts_nest b bm
    have ps := part_size bm
    have e23 := e2.trans e3
    refine ⟨rfl, ?_⟩
    walk_at "go"
    refine ⟨t, ys, b, rfl, se_same e23 hs1, hk1.monoE e23, by omega, by omega, fun H4 e4 => ?_⟩
    exact k _ H4 e4 ⟨b, hb1, rfl⟩
  · intro D H3 ys e3 hD hD3 hyl hR
    rw [hb.len] at hyl
    have hy := eq_map (f := fun b => V.int (szs b : Nat)) hyl hR
    walk_at "go"
    refine w_sum (ns := r.parts.map fun b => ((szs b : Nat) : Int)) (SqL.of (by rw [hD3, hy, List.map_map] <;> rfl)) ?_
    walk_at "go"
    have e : 1 + (r.parts.map fun b => ((szs b : Nat) : Int)).sum = ((r.size : Nat) : Int) := by
      rw [sum_cast (f := szs), parts_size]
      omega
    rw [e]
    exact q _ (e2.trans e3)
theorem pure_many_in (K : PySem.W.Frag) (n : Nat) (vs : List V) (H : Hp) (Q : VK) (E : XK) (h : sp_many_in K n vs H Q E) :
    t_many_in K n { nx := fun _ H' => Q .non H', rt := Q } (start N_many_in vs) H := by
  obtain ⟨a, xs, b, rfl, hs, hb, hn, hz, q⟩ := h
  unfold t_many_in
  have bl := szs_len b
  have xl := hb.len
  walk_at "go"
  refine w_lc ?_
  walk_at "go"
  refine lc_se (xs := xs) (fun i y H' => ∃ r, b[i]? = some r ∧ y = .int (r.size : Nat)) hs (by omega) (fun i y H1 H2 h _ => h) ?_ ?_
  · rintro D i x H3 Nx hx e3 ⟨zs, hzs⟩ k
    obtain ⟨r, hr1, hr2⟩ := hb.get hx
    have rm : r ∈ b := List.mem_of_getElem? hr1
    have rn := nest_mem rm
    have rz := sz_mem rm
    refine ⟨rfl, ?_⟩
    walk_at "go"
    refine ⟨x, r, rfl, hr2.monoE e3, by omega, by omega, fun H4 e4 => ?_⟩
    exact k _ H4 e4 ⟨r, hr1, rfl⟩
  · intro D H3 ys e3 hD hD3 hyl hR
    rw [xl] at hyl
    have hy := eq_map (f := fun r => V.int (r.size : Nat)) hyl hR
    walk_at "go"
    refine w_sum (ns := b.map fun r => ((r.size : Nat) : Int)) (SqL.of (by rw [hD3, hy, List.map_map] <;> rfl)) ?_
    have e : (b.map fun r => ((r.size : Nat) : Int)).sum = ((szs b : Nat) : Int) := by
      rw [sum_cast (f := Rw.size), szs_sum]
    rw [e]
    exact q _ e3
def IsSort (xs ys : List Str) : Prop := sortedS ys = true ∧ ys.Nodup ∧ ∀ y, y ∈ ys ↔ y ∈ xs
noncomputable def sortU (xs : List Str) : List Str := Classical.epsilon (IsSort xs)
theorem sortU_eq {xs ys zs : List Str} (h : IsSort xs ys) (m : ∀ y, y ∈ xs ↔ y ∈ zs) : ys = sortU zs := by
  have h' : IsSort zs ys := ⟨h.1, h.2.1, fun y => (h.2.2 y).trans (m y)⟩
  have e : IsSort zs (sortU zs) := Classical.epsilon_spec (p := IsSort zs) ⟨ys, h'⟩
  exact sort_one h'.1 h'.2.1 e.1 e.2.1 fun z => (h'.2.2 z).trans (e.2.2 z).symm
theorem sortU_is {xs ys : List Str} (h : IsSort xs ys) : IsSort xs (sortU xs) := Classical.epsilon_spec (p := IsSort xs) ⟨ys, h⟩
abbrev as_Program : List Str := ["opened", "hidden", "inner"]
def prF (o h q : Addr) : List (Str × V) := [("opened", .ref o), ("hidden", .ref h), ("inner", .ref q)]
structure PrIn (K : PySem.W.Frag) (H : Hp) (a : Addr) (os ss : List Str) (b : List Rw) (C dx o h q : Addr) (ys : List V) : Prop where
  ha : H a = some (.ins C dx (prF o h q))
  cc : CC K "Program" as_Program C
  ho : H o = some (.lst (os.map V.str))
  hh : H h = some (.lst (ss.map V.str))
  hq : SqT K H q ys
  hb : BkAt K (SqT K) H ys b
def PrAt (K : PySem.W.Frag) (H : Hp) (a : Addr) (os ss : List Str) (b : List Rw) : Prop := ∃ C dx o h q ys, PrIn K H a os ss b C dx o h q ys
theorem PrAt.mono {K : PySem.W.Frag} {H H' : Hp} {a : Addr} {os ss : List Str} {b : List Rw} (e : Same H H') (h : PrAt K H a os ss b) : PrAt K H' a os ss b := by
  obtain ⟨C, dx, o, hh, q, ys, h⟩ := h
  exact ⟨C, dx, o, hh, q, ys, e _ _ h.ha, h.cc, e _ _ h.ho, e _ _ h.hh, same_t e h.hq, h.hb.monoT (SameT.of e)⟩
def sp_Program___init__ (K : PySem.W.Frag) : Sp := fun vs H Q _ => ∃ (p x y z C dx : Addr) (os ss : List Str) (xs : List V) (b : List Rw), vs = [.ref p, .ref x, .ref y, .ref z] ∧ H p = some (.ins C dx []) ∧ CC K "Program" as_Program C ∧
  SE K H x (os.map V.str) ∧ SE K H y (ss.map V.str) ∧ SE K H z xs ∧ BkAt K (SE K) H xs b ∧ (∃ ns, oks ns b ∧ ∀ x ∈ ns, Nm x) ∧ (∀ x ∈ os ++ ss, Nm x) ∧ (os ++ ss).Nodup ∧ os.length ≤ 1000 ∧ ss.length ≤ 1000 ∧ nests b ≤ 8 ∧ szs b ≤ 100000 ∧
  ∀ (H' : Hp), SameX p H H' → PrAt K H' p os ss b → Q .non H'
def sp_Program_block (K : PySem.W.Frag) : Sp := fun vs H Q _ => ∃ (a : Addr) (os ss : List Str) (b : List Rw), vs = [.ref a] ∧ PrAt K H a os ss b ∧ ∀ q ys, SqT K H q ys → BkAt K (SqT K) H ys b → Q (.ref q) H
abbrev N_Program___init__ : List Str := ["self", "opens", "secrets", "block"]
def t_Program___init__ (K : PySem.W.Frag) : TS :=
  (tSeq (sFld K (tVar 0) (tF (sp_need_names K) (tCons (tVar 1) (tCons (tLst tNil) tNil))) "opened") (tSeq (sFld K (tVar 0) (tF (sp_need_names K) (tCons (tVar 2) (tCons (tFld K (tVar 0) "opened") tNil))) "hidden") (sFld K (tVar 0) (tF (sp_need_block K 8) (tCons (tVar 3) (tCons (tC (.int 1)) tNil))) "inner")))
abbrev N_Program_block : List Str := ["self"]
def t_Program_block (K : PySem.W.Frag) : TS :=
  (tRet (tFld K (tVar 0) "inner"))
theorem se_ins {K : PySem.W.Frag} {H : Hp} {p C dx : Addr} {fs : List (Str × V)} {o : HO} (h : H p = some (.ins C dx fs)) {a : Addr} {xs : List V} (s : SE K H a xs) : SE K (upd H p o) a xs := by
  have ne : ∀ {u : HO}, H a = some u → (∀ C dx fs, u ≠ .ins C dx fs) → a ≠ p := fun hu hn e => by
    rw [e, h] at hu
    exact hn _ _ _ (Option.some.inj hu).symm
  rcases s with ((s | ⟨u, s⟩) | s) | ((s | ⟨u, s⟩) | s)
  · exact .inl (.inl (.inl ((upd_ne (ne s (fun _ _ _ e => nomatch e))).trans s)))
  · exact .inl (.inl (.inr ⟨u, (upd_ne (ne s (fun _ _ _ e => nomatch e))).trans s⟩))
  · exact .inl (.inr s)
  · exact .inr (.inl (.inl ((upd_ne (ne s (fun _ _ _ e => nomatch e))).trans s)))
  · exact .inr (.inl (.inr ⟨u, (upd_ne (ne s (fun _ _ _ e => nomatch e))).trans s⟩))
  · exact .inr (.inr s)
theorem put1 {v : V} : putF "opened" v [] = ([("opened", v)] : List (Str × V)) := rfl
theorem put2 {u v : V} : putF "hidden" v ([("opened", u)] : List (Str × V)) = ([("opened", u), ("hidden", v)] : List (Str × V)) := rfl
theorem put3 {u w v : V} : putF "inner" v ([("opened", u), ("hidden", w)] : List (Str × V)) = ([("opened", u), ("hidden", w), ("inner", v)] : List (Str × V)) := rfl
theorem pure_Program___init__ (K : PySem.W.Frag) (vs : List V) (H : Hp) (Q : VK) (E : XK) (h : sp_Program___init__ K vs H Q E) :
    t_Program___init__ K { nx := fun _ H' => Q .non H', rt := Q } (start N_Program___init__ vs) H := by
  obtain ⟨p, x, y, z, C, dx, os, ss, xs, b, rfl, hp, cc, hx, hy, hz, hb, ⟨ns, ho, hN⟩, hNm, nd, lo, ls, hn, hsz, q⟩ := h
  obtain ⟨nd1, nd2, nd3⟩ := List.nodup_append.mp nd
  unfold t_Program___init__
  walk_at "go"
  refine w_new (by walk_at "sz") (fun t0 ht0 => ?_)
  have e1 := same_new (o := .lst []) ht0
  refine ⟨x, t0, os, [], rfl, se_same e1 hx, SqL.of upd_same, (fun x hx => hNm x (List.mem_append_left _ hx)), nd1, (fun x _ => List.not_mem_nil), lo, fun o H2 e2 no ho2 => ?_⟩
  have e12 := e1.trans e2
  have po : p ≠ o := ne_of_none (e1 _ _ hp) no
  have hp2 := e12 _ _ hp
  walk_at "go"
  refine w_sfldAt hp2 cc (by simp) (by simp) ?_
  rw [put1]
  have h3p : upd H2 p (.ins C dx [("opened", .ref o)]) p = _ := upd_same
  have h3o : upd H2 p (.ins C dx [("opened", .ref o)]) o = _ := (upd_ne po.symm).trans ho2
  have x3 : SameX p H (upd H2 p (.ins C dx [("opened", .ref o)])) := fun a u na ha => by rw [upd_ne na]; exact e12 a u ha
  have y3 := se_ins (o := .ins C dx [("opened", .ref o)]) hp2 (se_same e12 hy)
  have z3 := se_ins (o := .ins C dx [("opened", .ref o)]) hp2 (se_same e12 hz)
  have b3 := (hb.monoE e12).go (S' := SE K) (SameT.upd (o' := .ins C dx [("opened", .ref o)]) hp2 rfl) (fun _ _ => se_ins hp2)
  generalize upd H2 p (.ins C dx [("opened", .ref o)]) = H3 at h3p h3o x3 y3 z3 b3
  walk_at "go"
  refine w_fldAt h3p cc (by simp) rfl ?_
  walk_at "go"
  refine ⟨y, o, ss, os, rfl, y3, SqL.of h3o, (fun x hx => hNm x (List.mem_append_right _ hx)), nd2, (fun x hx hxo => nd3 x hxo x hx rfl), ls, fun h' H4 e4 nh hh4 => ?_⟩
  have ph : p ≠ h' := ne_of_none h3p nh
  have oh : o ≠ h' := ne_of_none h3o nh
  have hp4 := e4 _ _ h3p
  walk_at "go"
  refine w_sfldAt hp4 cc (by simp) (by simp) ?_
  rw [put2]
  have h5p : upd H4 p (.ins C dx [("opened", .ref o), ("hidden", .ref h')]) p = _ := upd_same
  have h5o : upd H4 p (.ins C dx [("opened", .ref o), ("hidden", .ref h')]) o = _ := (upd_ne po.symm).trans (e4 _ _ h3o)
  have h5h : upd H4 p (.ins C dx [("opened", .ref o), ("hidden", .ref h')]) h' = _ := (upd_ne ph.symm).trans hh4
  have x5 : SameX p H (upd H4 p (.ins C dx [("opened", .ref o), ("hidden", .ref h')])) := fun a u na ha => by rw [upd_ne na]; exact e4 a u (x3 a u na ha)
  have z5 := se_ins (o := .ins C dx [("opened", .ref o), ("hidden", .ref h')]) hp4 (se_same e4 z3)
  have b5 := (b3.monoE e4).go (S' := SE K) (SameT.upd (o' := .ins C dx [("opened", .ref o), ("hidden", .ref h')]) hp4 rfl) (fun _ _ => se_ins hp4)
  generalize upd H4 p (.ins C dx [("opened", .ref o), ("hidden", .ref h')]) = H5 at h5p h5o h5h x5 z5 b5
  walk_at "go"
  refine ⟨z, xs, b, ns, 1, rfl, z5, b5, ho, hN, hn, by omega, by decide, hsz, fun q' H6 ys e6 hq6 hb6 => ?_⟩
  have hp6 := e6 _ _ h5p
  walk_at "go"
  refine w_sfldAt hp6 cc (by simp) (by simp) ?_
  rw [put3]
  refine q _ (fun a u na ha => by rw [upd_ne na]; exact e6 a u (x5 a u na ha)) ⟨C, dx, o, h', q', ys, upd_same, cc, (upd_ne po.symm).trans (e6 _ _ h5o), (upd_ne ph.symm).trans (e6 _ _ h5h), ?_, ?_⟩
  · exact sameT_t (SameT.upd hp6 rfl) hq6
  · exact hb6.monoT (SameT.upd hp6 rfl)
theorem pure_Program_block (K : PySem.W.Frag) (vs : List V) (H : Hp) (Q : VK) (E : XK) (h : sp_Program_block K vs H Q E) :
    t_Program_block K { nx := fun _ H' => Q .non H', rt := Q } (start N_Program_block vs) H := by
  obtain ⟨a, os, ss, b, rfl, ⟨C, dx, o, h, q', ys, hP⟩, q⟩ := h
  unfold t_Program_block
  walk_at "go"
  exact w_fldAt hP.ha hP.cc (by simp) rfl (q q' ys hP.hq hP.hb)
inductive All2 {α : Type} (R : V → α → Prop) : List V → List α → Prop where
  | nil : All2 R [] []
  | cons {v : V} {x : α} {vs : List V} {xs : List α} (h : R v x) (t : All2 R vs xs) : All2 R (v :: vs) (x :: xs)
namespace All2
variable {α : Type} {R S : V → α → Prop}
theorem imp (h : ∀ v x, R v x → S v x) : ∀ {vs : List V} {xs : List α}, All2 R vs xs → All2 S vs xs
  | _, _, .nil => .nil
  | _, _, .cons a t => .cons (h _ _ a) (t.imp h)
theorem app : ∀ {vs us : List V} {xs ys : List α}, All2 R vs xs → All2 R us ys → All2 R (vs ++ us) (xs ++ ys)
  | _, _, _, _, .nil, h => h
  | _, _, _, _, .cons a t, h => .cons a (t.app h)
theorem one {v : V} {x : α} (h : R v x) : All2 R [v] [x] := .cons h .nil
theorem len : ∀ {vs : List V} {xs : List α}, All2 R vs xs → vs.length = xs.length
  | _, _, .nil => rfl
  | _, _, .cons _ t => congrArg (· + 1) t.len
theorem get : ∀ {vs : List V} {xs : List α} {i : Nat} {v : V}, All2 R vs xs → vs[i]? = some v → ∃ x, xs[i]? = some x ∧ R v x
  | _, _, 0, _, .cons h _, e => ⟨_, rfl, by rw [← Option.some.inj e]; exact h⟩
  | _, _, i + 1, _, .cons _ t, e => t.get (i := i) e
  | _, _, _, _, .nil, e => by simp at e
theorem of_get : ∀ {vs : List V} {xs : List α}, vs.length = xs.length → (∀ (i : Nat) v, vs[i]? = some v → ∃ x, xs[i]? = some x ∧ R v x) → All2 R vs xs
  | [], [], _, _ => .nil
  | [], _ :: _, h, _ => nomatch h
  | _ :: _, [], h, _ => nomatch h
  | v :: vs, x :: xs, h, hR => by
    obtain ⟨y, h1, h2⟩ := hR 0 v rfl
    obtain rfl : x = y := Option.some.inj h1
    exact .cons h2 (of_get (Nat.succ.inj h) fun i v hv => hR (i + 1) v hv)
end All2
abbrev Ent := Nat × Rw × List Str
def fnames : Option Fm → List Str
  | none => []
  | some f => f.names
/-- an entry of rows_in's list at p -/
def EntP (K : PySem.W.Frag) (H : Hp) (p : Addr) (v : V) (e : Ent) : Prop := ∃ (t : Addr) (vr : V) (al : Addr) (xs : List Str), v = .ref t ∧ SqT K H t [.int (e.1 : Nat), vr, .ref al] ∧ RwAt K (SqT K) H vr e.2.1 ∧ H al = some (.lst (xs.map V.str)) ∧ al ≠ p ∧ (∀ y, y ∈ xs ↔ y ∈ e.2.2) ∧ xs.length ≤ 1000000
theorem EntP.mono {K : PySem.W.Frag} {H H' : Hp} {p : Addr} {v : V} {e : Ent} (s : Same H H') (h : EntP K H p v e) : EntP K H' p v e := by
  obtain ⟨t, vr, al, xs, h1, h2, h3, h4, h5⟩ := h
  exact ⟨t, vr, al, xs, h1, same_t s h2, h3.monoT (SameT.of s), s _ _ h4, h5⟩
theorem EntP.upd {K : PySem.W.Frag} {H : Hp} {p : Addr} {v : V} {e : Ent} {zs : List V} {o : HO} (hp : H p = some (.lst zs)) (h : EntP K H p v e) : EntP K (L2.upd H p o) p v e := by
  obtain ⟨t, vr, al, xs, h1, h2, h3, h4, h5, h6⟩ := h
  have s : SameT H (L2.upd H p o) := SameT.upd hp rfl
  exact ⟨t, vr, al, xs, h1, sameT_t s h2, h3.monoT s, (upd_ne h5).trans h4, h5, h6⟩
theorem EntP.other {K : PySem.W.Frag} {H : Hp} {p q : Addr} {v : V} {e : Ent} (hq : H q = none) (h : EntP K H p v e) : EntP K H q v e := by
  obtain ⟨t, vr, al, xs, h1, h2, h3, h4, h5, h6⟩ := h
  exact ⟨t, vr, al, xs, h1, h2, h3, h4, ne_of_none h4 hq, h6⟩
abbrev Flo := Nat × Str × Str
def FlAt (K : PySem.W.Frag) (H : Hp) (v : V) (f : Flo) : Prop := ∃ t, v = .ref t ∧ SqT K H t [.int (f.1 : Nat), .str f.2.1, .str f.2.2]
theorem FlAt.monoT {K : PySem.W.Frag} {H H' : Hp} (e : SameT H H') {v : V} {f : Flo} (h : FlAt K H v f) : FlAt K H' v f := by
  obtain ⟨t, h1, h2⟩ := h
  exact ⟨t, h1, sameT_t e h2⟩
theorem take_snoc {α : Type} {l : List α} {i : Nat} {x : α} (h : l[i]? = some x) : l.take (i + 1) = l.take i ++ [x] := by rw [List.take_succ, h] <;> rfl
theorem szs_take {l : List Rw} {i : Nat} : szs (l.take i) ≤ szs l := by
  have := szs_app (l.take i) (l.drop i)
  rw [List.take_append_drop] at this
  omega
theorem sum_take {l : List Nat} {i : Nat} : (l.take i).sum ≤ l.sum := by
  have : (l.take i ++ l.drop i).sum = l.sum := by rw [List.take_append_drop]
  rw [List.sum_append] at this
  omega
theorem skip_isN (r : Rw) : (!decide (r.word = ("skip" : Str))) = r.fm.isSome := by
  cases r with
  | set x f => exact (show (!decide (("set" : Str) = "skip")) = true by decide +kernel)
  | tell f => exact (show (!decide (("tell" : Str) = "skip")) = true by decide +kernel)
  | skip => decide +kernel
  | ite f a b => exact (show (!decide (("if" : Str) = "skip")) = true by decide +kernel)
  | whl f a => exact (show (!decide (("while" : Str) = "skip")) = true by decide +kernel)
theorem set_is (r : Rw) : decide (r.word = ("set" : Str)) = (match r with | .set _ _ => true | _ => false) := by
  cases r with
  | set x f => exact (show decide (("set" : Str) = "set") = true by decide +kernel)
  | tell f => exact (show decide (("tell" : Str) = "set") = false by decide +kernel)
  | skip => decide +kernel
  | ite f a b => exact (show decide (("if" : Str) = "set") = false by decide +kernel)
  | whl f a => exact (show decide (("while" : Str) = "set") = false by decide +kernel)
theorem SameX.of {p : Addr} {H H' : Hp} (h : Same H H') : SameX p H H' := fun a u _ ha => h a u ha
theorem SameX.trans {p : Addr} {H H1 H2 : Hp} (h : SameX p H H1) (h2 : SameX p H1 H2) : SameX p H H2 := fun a u n ha => h2 a u n (h a u n ha)
theorem SameX.upd {p : Addr} {H : Hp} {o : HO} : SameX p H (L2.upd H p o) := fun a u n ha => by rw [upd_ne n]; exact ha
theorem SameX.same {p : Addr} {H0 H H' : Hp} (h0 : Same H0 H) (hp : H0 p = none) (h : SameX p H H') : Same H0 H' := fun a u ha => h a u (ne_of_none ha hp) (h0 a u ha)
theorem w_slT2 {K : PySem.W.Frag} {H : Hp} {Q : VK} {a : Addr} {x y : V} {xs : List V} (h : SqT K H a (x :: y :: xs)) (q : ∀ p, H p = none → Q (.ref p) (upd H p (.tup xs))) : rSl K (.ref a) (some 2) none H Q := by
  have e : HT.sIx (x :: y :: xs).length 0 (some 2) = 2 := by
    refine (show HT.sIx (x :: y :: xs).length 0 (some 2) = min 2 (x :: y :: xs).length from HT.sIx_nat _ _ 2).trans ?_
    simp only [List.length_cons]
    omega
  refine .inr (.inl ⟨a, _, rfl, h, fun c => absurd c.1 (by rw [e]; decide), fun _ p hp => ?_⟩)
  have : cutV (x :: y :: xs) (some 2) none = xs := by
    unfold cutV
    rw [HT.sIx_none, e]
    simp
  rw [this]
  exact q p hp
def rMax2 : List V → Hp → VK → Prop := fun xs H Q => ∃ i j, xs = [.int i, .int j] ∧ Q (.int (if j > i then j else i)) H
theorem o_max {X : Cx} (hc : X.calm = true) : CallR X (.builtin "max") rMax2 := call_max2 hc
theorem w_max {H : Hp} {Q : VK} {i j : Int} (q : Q (.int (if j > i then j else i)) H) : rMax2 [.int i, .int j] H Q := ⟨i, j, rfl, q⟩
theorem w_str {H : Hp} {Q : VK} {i : Int} (h : i.natAbs.log2 < 1920) (q : Q (.str (toString i)) H) : rStr [.int i] H Q := ⟨i, rfl, h, q⟩
def yoN (k : Nat) : Str := ("yo" : Str) ++ (Str.ofString (toString ((0 : Int) + (k : Int))))
def ysN (k : Nat) : Str := ("ys" : Str) ++ (Str.ofString (toString ((0 : Int) + (k : Int))))
theorem y_nm : ∀ k ∈ List.range 21, nmB (yoN k) = true ∧ nmB (ysN k) = true := by decide +kernel
theorem y_nd : ((List.range 21).map yoN ++ (List.range 21).map ysN).Nodup := by decide +kernel
theorem y_len : ∀ k ∈ List.range 21, ("yo" : Str).length + (Str.ofString (toString ((0 : Int) + (k : Int)))).length ≤ sizeLine ∧ ("ys" : Str).length + (Str.ofString (toString ((0 : Int) + (k : Int)))).length ≤ sizeLine := by decide +kernel
structure More (ns us ws : List Str) : Prop where
  nm : ∀ x ∈ us ++ ws, Nm x
  nd : (us ++ ws).Nodup
  out : ∀ x ∈ us ++ ws, x ∉ ns
  l1 : us.length ≤ 21
  l2 : ws.length ≤ 21
def sp_law_more (K : PySem.W.Frag) : Sp := fun vs H Q _ => ∃ (a : Addr) (ns : List Str) (c : Int), vs = [.ref a, .int c] ∧ SqL K H a (ns.map V.str) ∧
  ∀ (p r1 r2 : Addr) (us ws : List Str) (H' : Hp), Same H H' → H p = none → H' p = some (.lst [.ref r1, .ref r2]) → H' r1 = some (.lst (us.map V.str)) → H' r2 = some (.lst (ws.map V.str)) → More ns us ws → Q (.ref p) H'
structure Told (os ss : List Str) : Prop where
  nm : ∀ x ∈ os ++ ss, Nm x
  nd : (os ++ ss).Nodup
  l1 : os.length ≤ 26
  l2 : ss.length ≤ 26
def sp_law_told (K : PySem.W.Frag) : Sp := fun vs H Q _ => ∃ (a m r1 r2 : Addr) (ns us ws : List Str) (c : Int), vs = [.ref a, .ref m, .int c] ∧ SqL K H a (ns.map V.str) ∧ Ten ns ∧ H m = some (.lst [.ref r1, .ref r2]) ∧ H r1 = some (.lst (us.map V.str)) ∧ H r2 = some (.lst (ws.map V.str)) ∧ More ns us ws ∧
  ∀ (p x y : Addr) (os ss : List Str) (H' : Hp), Same H H' → H p = none → H x = none → H y = none → H' p = some (.lst [.ref x, .ref y]) → H' x = some (.lst (os.map V.str)) → H' y = some (.lst (ss.map V.str)) → x ≠ y → Told os ss → Q (.ref p) H'
abbrev N_law_more : List Str := ["_law_names_here", "_law_cell", "_law_many", "_law_found", "_law_k", "_law_row", "_law_name"]
def t_law_more (K : PySem.W.Frag) : TS :=
  (tSeq (tAsg (tOp (rIx K) (tLst (tCons (tC (.int 0)) (tCons (tOp rMod (tOp rDiv (tVar 1) (tC (.int 4))) (tC (.int 3))) (tCons (tOp rMod (tOp rDiv (tVar 1) (tC (.int 4))) (tC (.int 20))) (tCons (tC (.int 0)) tNil))))) (tOp rMod (tVar 1) (tC (.int 4)))) (gName 2)) (tSeq (tAsg (tLst (tCons (tLc (iRng1 (tCons (tVar 2) tNil)) (gName 4) tYes (tOp (rAdd K) (tC (.str "yo")) (tCB rStr (tCons (tVar 4) tNil))) [4]) (tCons (tLc (iRng1 (tCons (tOp (rAdd K) (tVar 2) (tOp rMod (tOp rDiv (tVar 1) (tC (.int 4))) (tC (.int 2)))) tNil)) (gName 4) tYes (tOp (rAdd K) (tC (.str "ys")) (tCB rStr (tCons (tVar 4) tNil))) [4]) tNil))) (gName 3)) (tRet (tLc (iSeq K (tVar 3)) (gName 5) tYes (tLc (iSeq K (tVar 5)) (gName 6) (tTest (tOp (rIn2 K true) (tVar 6) (tVar 0))) (tVar 6) [6]) [5]))))
abbrev N_law_told : List Str := ["_law_names_here", "_law_more_here", "_law_cell", "_law_rows", "_law_number", "_law_k", "_law_name", "_law_at"]
def t_law_told_j1 (K : PySem.W.Frag) : TS :=
  (tAsg (tOp rDiv (tVar 4) (tC (.int 3))) (gName 4))
def t_law_told (K : PySem.W.Frag) : TS :=
  (tSeq (tAsg (tLst (tCons (tCB (rList K) (tCons (tOp (rIx K) (tVar 1) (tC (.int 0))) tNil)) (tCons (tCB (rList K) (tCons (tOp (rIx K) (tVar 1) (tC (.int 1))) tNil)) tNil))) (gName 3)) (tSeq (tAsg (tVar 2) (gName 4)) (tSeq (tFor (iEnum K (tCons (tVar 0) tNil)) (gTup K 2 (gCons (gName 5) (gCons (gName 6) gNil))) (tSeq (tIfS (tTest (tOp rGt (tOp rMod (tVar 4) (tC (.int 3))) (tC (.int 0)))) (tDrop (tBM K "list" rAppend (tOp (rIx K) (tVar 3) (tOp rDiv (tVar 5) (tC (.int 5)))) (tCons (tVar 6) tNil))) tNext) (t_law_told_j1 K))) (tSeq (tAsg (tLst (tCons (tOp rMod (tOp rDiv (tVar 2) (tC (.int 27))) (tCB rMax2 (tCons (tC (.int 1)) (tCons (tCB (rLenA K) (tCons (tOp (rIx K) (tVar 3) (tC (.int 0))) tNil)) tNil)))) (tCons (tOp rMod (tOp rDiv (tVar 2) (tC (.int 189))) (tCB rMax2 (tCons (tC (.int 1)) (tCons (tCB (rLenA K) (tCons (tOp (rIx K) (tVar 3) (tC (.int 1))) tNil)) tNil)))) tNil))) (gName 7)) (tRet (tLst (tCons (tOp (rAdd K) (tSl (rSl K) (tOp (rIx K) (tVar 3) (tC (.int 0))) (tPart (tOp (rIx K) (tVar 7) (tC (.int 0)))) tNoPart) (tSl (rSl K) (tOp (rIx K) (tVar 3) (tC (.int 0))) tNoPart (tPart (tOp (rIx K) (tVar 7) (tC (.int 0)))))) (tCons (tOp (rAdd K) (tSl (rSl K) (tOp (rIx K) (tVar 3) (tC (.int 1))) (tPart (tOp (rIx K) (tVar 7) (tC (.int 1)))) tNoPart) (tSl (rSl K) (tOp (rIx K) (tVar 3) (tC (.int 1))) tNoPart (tPart (tOp (rIx K) (tVar 7) (tC (.int 1)))))) tNil))))))))
theorem pure_law_more (K : PySem.W.Frag) (vs : List V) (H : Hp) (Q : VK) (E : XK) (h : sp_law_more K vs H Q E) :
    t_law_more K { nx := fun _ H' => Q .non H', rt := Q } (start N_law_more vs) H := by
  obtain ⟨a, ns, c, rfl, hA, q⟩ := h
  unfold t_law_more
  walk_at "go"
  refine w_new (by walk_at "sz") (fun p0 hp0 => ?_)
  walk_at "go"
  have m3 := mod_in (c / 4) (show (0 : Int) < 3 by decide)
  have m20 := mod_in (c / 4) (show (0 : Int) < 20 by decide)
  have m4 := mod_in c (show (0 : Int) < 4 by decide)
  have m2 := mod_in (c / 4) (show (0 : Int) < 2 by decide)
  obtain ⟨z, zm, _, hz⟩ := at_map (f := V.int) (xs := [0, c / 4 % 3, c / 4 % 20, 0]) m4.1 m4.2
  have z20 : 0 ≤ z ∧ z < 20 := by
    rcases List.mem_cons.mp zm with h | zm
    · omega
    · rcases List.mem_cons.mp zm with h | zm
      · omega
      · rcases List.mem_cons.mp zm with h | zm
        · omega
        · have := List.mem_singleton.mp zm; omega
  refine w_ixL (SqL.of upd_same) hz ?_
  have e0 := same_new (o := .lst [.int 0, .int (c / 4 % 3), .int (c / 4 % 20), .int 0]) hp0
  generalize upd H p0 (.lst [.int 0, .int (c / 4 % 3), .int (c / 4 % 20), .int 0]) = H1 at e0
  walk_at "go"
  refine w_lc ?_
  walk_at "go"
  have lg : ∀ i : Nat, i < 21 → ((0 : Int) + (i : Int)).natAbs.log2 < 1920 := fun i hi => Nat.lt_of_le_of_lt (Nat.log2_le_self _) (by omega)
  have rsn : ∀ i : Nat, List.range (i + 1) = List.range i ++ [i] := fun i => List.range_succ
  refine ⟨z, rfl, by omega, by omega, fun D hD => lc_range (lo := 0) (n := z.toNat) (fun i H' => Same H1 H' ∧ H' D = some (.lst (((List.range i).map yoN).map V.str))) ⟨same_new hD, upd_same⟩ ?_ ?_⟩
  · rintro i H2 hi ⟨e2, hD2⟩
    have i21 : i < 21 := by omega
    have yl := y_len i (List.mem_range.mpr i21)
    refine ⟨rfl, ?_⟩
    walk_at "go"
    refine w_str (lg i i21) ?_
    refine w_addT yl.1 ?_
    refine ⟨_, hD2, Nat.lt_of_le_of_lt (by rw [List.length_map, List.length_map, List.length_range]; omega : _ ≤ 21) (by decide), same_mut e2 hD, ?_⟩
    rw [upd_same, rsn, List.map_append, List.map_append] <;> rfl
  · rintro H2 ⟨e2, hD2⟩
    walk_at "go"
    refine w_lc ?_
    walk_at "go"
    refine ⟨_, rfl, by omega, by omega, fun D3 hD3 => lc_range (lo := 0) (n := (z + c / 4 % 2).toNat) (fun i H' => Same H2 H' ∧ H' D3 = some (.lst (((List.range i).map ysN).map V.str))) ⟨same_new hD3, upd_same⟩ ?_ ?_⟩
    · rintro i H3 hi ⟨e3, hD33⟩
      have i21 : i < 21 := by omega
      have yl := y_len i (List.mem_range.mpr i21)
      refine ⟨rfl, ?_⟩
      walk_at "go"
      refine w_str (lg i i21) ?_
      refine w_addT yl.2 ?_
      refine ⟨_, hD33, Nat.lt_of_le_of_lt (by rw [List.length_map, List.length_map, List.length_range]; omega : _ ≤ 21) (by decide), same_mut e3 hD3, ?_⟩
      rw [upd_same, rsn, List.map_append, List.map_append] <;> rfl
    · rintro H3 ⟨e3, hD33⟩
      have n1 : z.toNat ≤ 21 := by omega
      have n2 : (z + c / 4 % 2).toNat ≤ 21 := by omega
      generalize z.toNat = k1 at *
      generalize (z + c / 4 % 2).toNat = k2 at *
      walk_at "go"
      refine w_new (by walk_at "sz") (fun F hF => ?_)
      have e4 := same_new (o := .lst [.ref D, .ref D3]) hF
      have hF4 : upd H3 F (.lst [.ref D, .ref D3]) F = _ := upd_same
      have hD4 := e4 _ _ (e3 _ _ hD2)
      have hD34 := e4 _ _ hD33
      have e04 := e0.trans (e2.trans (e3.trans e4))
      generalize upd H3 F (.lst [.ref D, .ref D3]) = H4 at e4 hF4 hD4 hD34 e04
      have hA4 := same_l e04 hA
      walk_at "go"
      refine w_lc ?_
      walk_at "go"
      refine w_isL (SqL.of hF4) (fun R hR => ?_)
      refine lc_each (xs := [.ref D, .ref D3]) (fun i y H' => ∃ t, y = .ref t ∧ t ≠ R ∧ H' t = some (.lst (((if i = 0 then (List.range k1).map yoN else (List.range k2).map ysN).filter fun x => !decide (x ∈ ns)).map V.str))) (SqL.of hF4) (by walk_at "sz1") hR
        (fun i y H1 H2 ⟨t, h1, h2, h3⟩ sx => ⟨t, h1, h2, sx t _ h2 h3⟩) ?_ ?_
      · rintro i x H5 Nx hx e5 ⟨acc, hacc⟩ k
        refine ⟨rfl, ?_⟩
        have fin : ∀ (d : Addr) (ls : List Str), x = .ref d → H5 d = some (.lst (ls.map V.str)) → ls.length ≤ 21 → ls = (if i = 0 then (List.range k1).map yoN else (List.range k2).map ysN) →
            tLc (iSeq K (tVar 5)) (gName 6) (tTest (tOp (rIn2 K true) (tVar 6) (tVar 0))) (tVar 6) [6] [some (.ref a), some (.int c), some (.int z), some (.ref F), none, some x, none] H5 (fun y H4 => ∃ acc, H4 R = some (.lst acc) ∧ acc.length < sizeLine ∧ Nx (upd H4 R (.lst (acc ++ [y])))) := by
          rintro d ls rfl hd hl hls
          refine w_lc ?_
          walk_at "go"
          refine w_isL (SqL.of hd) (fun R2 hR2 => ?_)
          refine lc_filter (ys := ls) (fun x => !decide (x ∈ ns)) V.str (SqL.of hd) (by omega) hR2 ?_ ?_
          · rintro y H6 Nx2 hy e6 ⟨zs, hzs⟩ yes no
            refine ⟨rfl, ?_⟩
            walk_at "go"
            refine w_ninTxt (xs := ns) (same_l (e5.trans e6) hA4) ?_
            walk_at "go"
            refine w_two (fun b => ?_) (fun b => ?_)
            · walk_at "go"
              exact yes b _ (Same.refl _)
            · exact no b _ (Same.refl _)
          · intro H6 e6 hR6
            exact k _ H6 e6 ⟨R2, rfl, (ne_of_none hacc hR2).symm, by rw [← hls]; exact hR6⟩
        rcases i with _ | _ | i
        · exact fin D _ (Option.some.inj hx).symm (e5 _ _ hD4) (by rw [List.length_map, List.length_range]; exact n1) rfl
        · exact fin D3 _ (Option.some.inj hx).symm (e5 _ _ hD34) (by rw [List.length_map, List.length_range]; exact n2) rfl
        · simp at hx
      · intro H5 us e5 hR5 hl5 hRR
        obtain ⟨u1, u2, rfl⟩ := list_two hl5
        obtain ⟨t1, rfl, _, h1⟩ := hRR 0 _ rfl
        obtain ⟨t2, rfl, _, h2⟩ := hRR 1 _ rfl
        refine q R t1 t2 _ _ H5 (e04.trans e5) (none_of e04 hR) hR5 h1 h2 ?_
        have s1 : List.Sublist ((List.range k1).map yoN) ((List.range 21).map yoN) := by
          refine List.Sublist.map _ ?_
          have : List.range k1 = (List.range 21).take k1 := by rw [List.take_range, Nat.min_eq_left n1]
          rw [this]
          exact List.take_sublist _ _
        have s2 : List.Sublist ((List.range k2).map ysN) ((List.range 21).map ysN) := by
          refine List.Sublist.map _ ?_
          have : List.range k2 = (List.range 21).take k2 := by rw [List.take_range, Nat.min_eq_left n2]
          rw [this]
          exact List.take_sublist _ _
        have f1 := (List.filter_sublist (p := fun x => !decide (x ∈ ns)) (l := (List.range k1).map yoN)).trans s1
        have f2 := (List.filter_sublist (p := fun x => !decide (x ∈ ns)) (l := (List.range k2).map ysN)).trans s2
        have sub := List.Sublist.append f1 f2
        have nm : ∀ x ∈ (List.range 21).map yoN ++ (List.range 21).map ysN, Nm x := by
          intro x hx
          rcases List.mem_append.mp hx with h | h
          · obtain ⟨j, hj, rfl⟩ := List.mem_map.mp h
            exact nm_iff.mp (y_nm j hj).1
          · obtain ⟨j, hj, rfl⟩ := List.mem_map.mp h
            exact nm_iff.mp (y_nm j hj).2
        refine ⟨fun x hx => nm x (sub.subset hx), List.Sublist.nodup sub y_nd, fun x hx => ?_, ?_, ?_⟩
        · rcases List.mem_append.mp hx with h | h
          · have := (List.mem_filter.mp h).2; simpa using this
          · have := (List.mem_filter.mp h).2; simpa using this
        · exact Nat.le_trans f1.length_le (by rw [List.length_map, List.length_range]; exact Nat.le_refl _)
        · exact Nat.le_trans f2.length_le (by rw [List.length_map, List.length_range]; exact Nat.le_refl _)
theorem rot_perm {l : List Str} {n : Nat} : (l.drop n ++ l.take n).Perm l := by
  have : (l.take n ++ l.drop n).Perm l := by rw [List.take_append_drop]
  exact List.perm_append_comm.trans this
theorem rot_cut {l : List Str} {i : Int} (h : 0 ≤ i) : cutV (l.map V.str) (some i) none ++ cutV (l.map V.str) none (some i) = (l.drop i.toNat ++ l.take i.toNat).map V.str := by
  obtain ⟨n, rfl⟩ := Int.eq_ofNat_of_zero_le h
  rw [cut_hi, cut_lo, List.map_append, Int.toNat_natCast]
theorem pure_law_told (K : PySem.W.Frag) (vs : List V) (H : Hp) (Q : VK) (E : XK) (h : sp_law_told K vs H Q E) :
    t_law_told K { nx := fun _ H' => Q .non H', rt := Q } (start N_law_told vs) H := by
  obtain ⟨a, m, r1, r2, ns, us, ws, c, rfl, hA, hT, hm, hr1, hr2, hM, q⟩ := h
  unfold t_law_told
  walk_at "go"
  refine w_listL (SqL.of hr1) (fun x hx => ?_)
  have e1 := same_new (o := .lst (us.map V.str)) hx
  have hx1 : upd H x (.lst (us.map V.str)) x = _ := upd_same
  generalize upd H x (.lst (us.map V.str)) = H1 at e1 hx1
  have hm1 := e1 _ _ hm
  have hr21 := e1 _ _ hr2
  walk_at "go"
  refine w_listL (SqL.of hr21) (fun y hy => ?_)
  have e2 := same_new (o := .lst (ws.map V.str)) hy
  have hy2 : upd H1 y (.lst (ws.map V.str)) y = _ := upd_same
  have hx2 := e2 _ _ hx1
  have xy : x ≠ y := ne_of_none hx1 hy
  generalize upd H1 y (.lst (ws.map V.str)) = H2 at e2 hy2 hx2
  walk_at "go"
  refine w_new (by walk_at "sz") (fun R hR => ?_)
  have e3 := same_new (o := .lst [.ref x, .ref y]) hR
  have hR3 : upd H2 R (.lst [.ref x, .ref y]) R = _ := upd_same
  have hx3 := e3 _ _ hx2
  have hy3 := e3 _ _ hy2
  have xR : x ≠ R := ne_of_none hx2 hR
  have yR : y ≠ R := ne_of_none hy2 hR
  have e03 := e1.trans (e2.trans e3)
  have y0 : H y = none := none_of e1 hy
  generalize upd H2 R (.lst [.ref x, .ref y]) = H3 at e03 hR3 hx3 hy3
  walk_at "go"
  refine ⟨a, ns.map V.str, rfl, same_l e03 hA, for_enum (xs := ns.map V.str) (fun i σ H' => Same H H' ∧ ∃ (o : Int) (c1 c2 : List Str) (w5 w6 w7 : Option V), σ = [some (.ref a), some (.ref m), some (.int c), some (.ref R), some (.int o), w5, w6, w7] ∧
      H' R = some (.lst [.ref x, .ref y]) ∧ H' x = some (.lst ((us ++ c1).map V.str)) ∧ H' y = some (.lst ((ws ++ c2).map V.str)) ∧ List.Sublist c1 ((ns.take i).take 5) ∧ List.Sublist c2 ((ns.take i).drop 5))
    ⟨e03, c, [], [], _, _, _, rfl, hR3, by rw [List.append_nil]; exact hx3, by rw [List.append_nil]; exact hy3, List.nil_sublist _, List.nil_sublist _⟩ (fun i σ H' _ h => same_l h.1 hA) ?_ ?_⟩
  · rintro i v σ H4 T hv hT0 ⟨e4, o, c1, c2, w5, w6, w7, rfl, hR4, hx4, hy4, s1, s2⟩
    have hi : i < ns.length := by have := (List.getElem?_eq_some_iff.mp hv).1; rw [List.length_map] at this; exact this
    rw [hT.len] at hi
    obtain ⟨z, hz, rfl⟩ : ∃ z, ns[i]? = some z ∧ V.str z = v := by
      rw [List.getElem?_map] at hv
      cases d : ns[i]? with
      | none => rw [d] at hv; exact nomatch hv
      | some z => rw [d] at hv; exact ⟨z, rfl, Option.some.inj hv⟩
    have tk := take_snoc hz
    have e5 := e4.trans (same_new (o := .tup [.int (i : Nat), .str z]) hT0)
    have s5 := same_new (o := .tup [.int (i : Nat), .str z]) hT0
    have hR5 := s5 _ _ hR4
    have hx5 := s5 _ _ hx4
    have hy5 := s5 _ _ hy4
    have l1 := s1.length_le
    have l2 := s2.length_le
    rw [List.length_take, List.length_take, hT.len] at l1
    rw [List.length_drop, List.length_take, hT.len] at l2
    have s1' : List.Sublist c1 ((ns.take (i + 1)).take 5) := by
      refine s1.trans ?_
      rw [tk, List.take_append]
      exact List.sublist_append_left _ _
    have s2' : List.Sublist c2 ((ns.take (i + 1)).drop 5) := by
      refine s2.trans ?_
      rw [tk, List.drop_append]
      exact List.sublist_append_left _ _
    have j1 : ∀ (H6 : Hp) (c1 c2 : List Str), Same H H6 → H6 R = some (.lst [.ref x, .ref y]) → H6 x = some (.lst ((us ++ c1).map V.str)) → H6 y = some (.lst ((ws ++ c2).map V.str)) → List.Sublist c1 ((ns.take (i + 1)).take 5) → List.Sublist c2 ((ns.take (i + 1)).drop 5) →
        t_law_told_j1 K ⟨fun σ H' => Same H H' ∧ ∃ (o : Int) (c1 c2 : List Str) (w5 w6 w7 : Option V), σ = [some (.ref a), some (.ref m), some (.int c), some (.ref R), some (.int o), w5, w6, w7] ∧
      H' R = some (.lst [.ref x, .ref y]) ∧ H' x = some (.lst ((us ++ c1).map V.str)) ∧ H' y = some (.lst ((ws ++ c2).map V.str)) ∧ List.Sublist c1 ((ns.take (i + 1)).take 5) ∧ List.Sublist c2 ((ns.take (i + 1)).drop 5), Q, fun _ _ => False, fun _ _ => False⟩
          [some (.ref a), some (.ref m), some (.int c), some (.ref R), some (.int o), some (.int (i : Nat)), some (.str z), w7] H6 := by
      intro H6 c1 c2 h1 h2 h3 h4 h5 h6
      unfold t_law_told_j1
      walk_at "go"
      exact ⟨h1, _, c1, c2, _, _, _, rfl, h2, h3, h4, h5, h6⟩
    walk_at "go"
    refine w_two (fun _ => ?_) (fun _ => ?_)
    · walk_at "go"
      rcases Nat.lt_or_ge i 5 with lt | ge
      · have at1 : atI [V.ref x, V.ref y] (((i : Nat) : Int) / 5) = some (.ref x) := by
          rw [show ((i : Nat) : Int) / 5 = 0 by omega] <;> rfl
        refine w_ixL (SqL.of hR5) at1 ?_
        walk_at "go"
        refine w_app hx5 (Nat.lt_of_le_of_lt (by rw [List.length_map, List.length_append]; have := hM.l1; omega : _ ≤ 100) (by decide)) ?_
        refine j1 _ (c1 ++ [z]) c2 (same_mut e5 hx) ((upd_ne xR.symm).trans hR5) (by rw [upd_same, ← List.append_assoc, List.map_append (l₁ := us ++ c1)] <;> rfl) ((upd_ne xy.symm).trans hy5) ?_ s2'
        rw [tk, List.take_append]
        refine List.Sublist.append s1 ?_
        have : (ns.take i).length = i := by rw [List.length_take, hT.len]; omega
        rw [this]
        obtain ⟨d, hd⟩ : ∃ d, 5 - i = d + 1 := ⟨4 - i, by omega⟩
        rw [hd, List.take_of_length_le (by simp)]
        exact List.Sublist.refl _
      · have at1 : atI [V.ref x, V.ref y] (((i : Nat) : Int) / 5) = some (.ref y) := by
          rw [show ((i : Nat) : Int) / 5 = 1 by omega] <;> rfl
        refine w_ixL (SqL.of hR5) at1 ?_
        walk_at "go"
        refine w_app hy5 (Nat.lt_of_le_of_lt (by rw [List.length_map, List.length_append]; have := hM.l2; omega : _ ≤ 100) (by decide)) ?_
        refine j1 _ c1 (c2 ++ [z]) (same_mut e5 y0) ((upd_ne yR.symm).trans hR5) ((upd_ne xy).trans hx5) (by rw [upd_same, ← List.append_assoc, List.map_append (l₁ := ws ++ c2)] <;> rfl) s1' ?_
        rw [tk, List.drop_append]
        refine List.Sublist.append s2 ?_
        have : (ns.take i).length = i := by rw [List.length_take, hT.len]; omega
        rw [this, show 5 - i = 0 by omega]
        exact List.Sublist.refl _
    · walk_at "go"
      exact j1 _ c1 c2 e5 hR5 hx5 hy5 s1' s2'
  · rintro σ H4 ⟨e4, o, c1, c2, w5, w6, w7, rfl, hR4, hx4, hy4, s1, s2⟩
    rw [List.length_map, List.take_length] at s1 s2
    have l1 := s1.length_le
    have l2 := s2.length_le
    rw [List.length_take, hT.len] at l1
    rw [List.length_drop, hT.len] at l2
    have all : Told (us ++ c1) (ws ++ c2) := by
      have cs : List.Sublist (c1 ++ c2) ns := by
        have := List.Sublist.append s1 s2
        rw [List.take_append_drop] at this
        exact this
      have pm : ((us ++ c1) ++ (ws ++ c2)).Perm ((us ++ ws) ++ (c1 ++ c2)) := by
        rw [List.append_assoc, List.append_assoc]
        refine List.Perm.append_left _ ?_
        rw [← List.append_assoc, ← List.append_assoc]
        exact List.Perm.append_right _ List.perm_append_comm
      refine ⟨fun z hz => ?_, ?_, by rw [List.length_append]; have := hM.l1; omega, by rw [List.length_append]; have := hM.l2; omega⟩
      · rcases List.mem_append.mp (pm.mem_iff.mp hz) with h | h
        · exact hM.nm z h
        · exact hT.nm z (cs.subset h)
      · refine pm.nodup_iff.mpr (List.nodup_append.mpr ⟨hM.nd, List.Sublist.nodup cs hT.nd, fun u hu w hw e => ?_⟩)
        exact hM.out u hu (e ▸ cs.subset hw)
    generalize us ++ c1 = L1 at *
    generalize ws ++ c2 = L2 at *
    walk_at "go"
    refine w_max ?_
    have mx : ∀ n : Nat, 0 < (if (n : Int) > 1 then (n : Int) else 1) := fun n => by split <;> omega
    have p1 := mx (L1.map V.str).length
    have p2 := mx (L2.map V.str).length
    refine w_mod p1 ?_
    walk_at "go"
    refine w_max ?_
    refine w_mod p2 ?_
    walk_at "go"
    have n1 := (mod_in (c / 27) p1).1
    have n2 := (mod_in (c / 189) p2).1
    generalize c / 27 % (if ((L1.map V.str).length : Int) > 1 then ((L1.map V.str).length : Int) else 1) = i1 at *
    generalize c / 189 % (if ((L2.map V.str).length : Int) > 1 then ((L2.map V.str).length : Int) else 1) = i2 at *
    refine w_new (by walk_at "sz") (fun W hW => ?_)
    have e5 := same_new (o := .lst [.int i1, .int i2]) hW
    have hW5 : upd H4 W (.lst [.int i1, .int i2]) W = _ := upd_same
    have hR5 := e5 _ _ hR4
    have hx5 := e5 _ _ hx4
    have hy5 := e5 _ _ hy4
    have e05 := e4.trans e5
    generalize upd H4 W (.lst [.int i1, .int i2]) = H5 at e05 hW5 hR5 hx5 hy5
    have q1 := rot_perm (l := L1) (n := i1.toNat)
    have q2 := rot_perm (l := L2) (n := i2.toNat)
    have k1 : (cutV (L1.map V.str) (some i1) none).length + (cutV (L1.map V.str) none (some i1)).length ≤ 100 := by
      rw [← List.length_append, rot_cut n1, List.length_map, q1.length_eq]
      have := all.l1
      omega
    have k2 : (cutV (L2.map V.str) (some i2) none).length + (cutV (L2.map V.str) none (some i2)).length ≤ 100 := by
      rw [← List.length_append, rot_cut n2, List.length_map, q2.length_eq]
      have := all.l2
      omega
    walk_at "go"
    refine w_slL (SqL.of hx5) (fun p6 hp6 => ?_)
    have e6 := same_new (o := .lst (cutV (L1.map V.str) (some i1) none)) hp6
    have hp66 : upd H5 p6 (.lst (cutV (L1.map V.str) (some i1) none)) p6 = _ := upd_same
    have hW6 := e6 _ _ hW5
    have hR6 := e6 _ _ hR5
    have hx6 := e6 _ _ hx5
    have hy6 := e6 _ _ hy5
    generalize upd H5 p6 (.lst (cutV (L1.map V.str) (some i1) none)) = H6 at e6 hp66 hW6 hR6 hx6 hy6
    walk_at "go"
    refine w_slL (SqL.of hx6) (fun p7 hp7 => ?_)
    have e7 := same_new (o := .lst (cutV (L1.map V.str) none (some i1))) hp7
    have hp77 : upd H6 p7 (.lst (cutV (L1.map V.str) none (some i1))) p7 = _ := upd_same
    have hp67 := e7 _ _ hp66
    have hW7 := e7 _ _ hW6
    have hR7 := e7 _ _ hR6
    have hy7 := e7 _ _ hy6
    generalize upd H6 p7 (.lst (cutV (L1.map V.str) none (some i1))) = H7 at e7 hp77 hp67 hW7 hR7 hy7
    refine w_addL hp67 hp77 (sz (by omega)) (fun p8 hp8 => ?_)
    rw [rot_cut n1]
    have e8 := same_new (o := .lst ((L1.drop i1.toNat ++ L1.take i1.toNat).map V.str)) hp8
    have hp88 : upd H7 p8 (.lst ((L1.drop i1.toNat ++ L1.take i1.toNat).map V.str)) p8 = _ := upd_same
    have hW8 := e8 _ _ hW7
    have hR8 := e8 _ _ hR7
    have hy8 := e8 _ _ hy7
    have e08 := e05.trans (e6.trans (e7.trans e8))
    have n8 : H p8 = none := none_of (e05.trans (e6.trans e7)) hp8
    generalize upd H7 p8 (.lst ((L1.drop i1.toNat ++ L1.take i1.toNat).map V.str)) = H8 at e08 hp88 hW8 hR8 hy8
    walk_at "go"
    refine w_slL (SqL.of hy8) (fun p9 hp9 => ?_)
    have e9 := same_new (o := .lst (cutV (L2.map V.str) (some i2) none)) hp9
    have hp99 : upd H8 p9 (.lst (cutV (L2.map V.str) (some i2) none)) p9 = _ := upd_same
    have hW9 := e9 _ _ hW8
    have hR9 := e9 _ _ hR8
    have hy9 := e9 _ _ hy8
    have hp89 := e9 _ _ hp88
    generalize upd H8 p9 (.lst (cutV (L2.map V.str) (some i2) none)) = H9 at e9 hp99 hW9 hR9 hy9 hp89
    walk_at "go"
    refine w_slL (SqL.of hy9) (fun p10 hp10 => ?_)
    have e10 := same_new (o := .lst (cutV (L2.map V.str) none (some i2))) hp10
    have hp1010 : upd H9 p10 (.lst (cutV (L2.map V.str) none (some i2))) p10 = _ := upd_same
    have hp910 := e10 _ _ hp99
    have hp810 := e10 _ _ hp89
    generalize upd H9 p10 (.lst (cutV (L2.map V.str) none (some i2))) = H10 at e10 hp1010 hp910 hp810
    refine w_addL hp910 hp1010 (sz (by omega)) (fun p11 hp11 => ?_)
    rw [rot_cut n2]
    have e11 := same_new (o := .lst ((L2.drop i2.toNat ++ L2.take i2.toNat).map V.str)) hp11
    have hp1111 : upd H10 p11 (.lst ((L2.drop i2.toNat ++ L2.take i2.toNat).map V.str)) p11 = _ := upd_same
    have hp811 := e11 _ _ hp810
    have e011 := e08.trans (e9.trans (e10.trans e11))
    have n11 : H p11 = none := none_of (e08.trans (e9.trans e10)) hp11
    have ne : p8 ≠ p11 := ne_of_none hp810 hp11
    generalize upd H10 p11 (.lst ((L2.drop i2.toNat ++ L2.take i2.toNat).map V.str)) = H11 at e011 hp1111 hp811
    walk_at "go"
    refine w_new (by walk_at "sz") (fun p12 hp12 => ?_)
    have e12 := same_new (o := .lst [.ref p8, .ref p11]) hp12
    have pp := q1.append q2
    refine q p12 p8 p11 _ _ _ (e011.trans e12) (none_of e011 hp12) n8 n11 upd_same (e12 _ _ hp811) (e12 _ _ hp1111) ne ⟨fun z hz => all.nm z (pp.mem_iff.mp hz), pp.nodup_iff.mpr all.nd, by rw [q1.length_eq]; exact all.l1, by rw [q2.length_eq]; exact all.l2⟩
mutual
def Rw.nms : Rw → List Str
  | .set x f => x :: f.names
  | .tell f => f.names
  | .skip => []
  | .ite f a b => f.names ++ (bnms a ++ bnms b)
  | .whl f a => f.names ++ bnms a
def bnms : List Rw → List Str
  | [] => []
  | r :: l => r.nms ++ bnms l
end
def Rw.own : Rw → List Str
  | .set x f => x :: f.names
  | r => fnames r.fm
theorem nms_own (y : Str) (r : Rw) : y ∈ r.nms ↔ y ∈ r.own ∨ ∃ b ∈ r.parts, y ∈ bnms b := by
  cases r with
  | set x f => exact ⟨.inl, fun h => h.elim id fun ⟨_, h, _⟩ => nomatch h⟩
  | tell f => exact ⟨.inl, fun h => h.elim id fun ⟨_, h, _⟩ => nomatch h⟩
  | skip => exact ⟨.inl, fun h => h.elim id fun ⟨_, h, _⟩ => nomatch h⟩
  | ite f a b =>
    show y ∈ f.names ++ (bnms a ++ bnms b) ↔ y ∈ f.names ∨ ∃ c ∈ [a, b], y ∈ bnms c
    simp [List.mem_append]
  | whl f a =>
    show y ∈ f.names ++ bnms a ↔ y ∈ f.names ∨ ∃ c ∈ [a], y ∈ bnms c
    simp [List.mem_append]
theorem bnms_app (y : Str) : ∀ l m : List Rw, y ∈ bnms (l ++ m) ↔ y ∈ bnms l ∨ y ∈ bnms m
  | [], m => ⟨.inr, fun h => h.elim (fun h => nomatch h) id⟩
  | r :: l, m => by
    show y ∈ r.nms ++ bnms (l ++ m) ↔ y ∈ r.nms ++ bnms l ∨ y ∈ bnms m
    rw [List.mem_append, List.mem_append, bnms_app y l m, or_assoc]
theorem bnms_one (y : Str) (r : Rw) : y ∈ bnms [r] ↔ y ∈ r.nms := by
  show y ∈ r.nms ++ [] ↔ _
  rw [List.append_nil]
mutual
theorem nms_ok {ns : List Str} : ∀ {r : Rw}, r.ok ns → ∀ y ∈ r.nms, y ∈ ns
  | .set x f, h, y, hy => (List.mem_cons.mp hy).elim (fun e => e ▸ h.1) (Fm.ok_names h.2.1 y)
  | .tell f, h, y, hy => Fm.ok_names h.1 y hy
  | .skip, _, _, hy => nomatch hy
  | .ite f a b, h, y, hy => (List.mem_append.mp hy).elim (Fm.ok_names h.1.1 y) fun hy => (List.mem_append.mp hy).elim (bnms_ok h.2.1 y) (bnms_ok h.2.2 y)
  | .whl f a, h, y, hy => (List.mem_append.mp hy).elim (Fm.ok_names h.1.1 y) (bnms_ok h.2 y)
theorem bnms_ok {ns : List Str} : ∀ {l : List Rw}, oks ns l → ∀ y ∈ bnms l, y ∈ ns
  | [], _, _, hy => nomatch hy
  | r :: l, h, y, hy => (List.mem_append.mp hy).elim (nms_ok h.1 y) (bnms_ok h.2 y)
end
def sp_all_in (K : PySem.W.Frag) (n : Nat) : Sp := fun vs H Q _ => ∃ (a : Addr) (xs : List V) (b : List Rw) (ns : List Str), vs = [.ref a] ∧ SqT K H a xs ∧ BkAt K (SqT K) H xs b ∧ oks ns b ∧ ns.length ≤ 1000 ∧ nests b < n ∧ szs b ≤ 1000 ∧
  ∀ (p : Addr) (H' : Hp) (ys : List Str), Same H H' → H p = none → H' p = some (.lst (ys.map V.str)) → (∀ y, y ∈ ys ↔ y ∈ bnms b) → ys.length ≤ 1001 * szs b → Q (.ref p) H'
noncomputable def sp_Program_names (K : PySem.W.Frag) : Sp := fun vs H Q _ => ∃ (a : Addr) (os ss ns : List Str) (b : List Rw), vs = [.ref a] ∧ PrAt K H a os ss b ∧ oks ns b ∧ ns.length ≤ 1000 ∧ os.length ≤ 1000 ∧ ss.length ≤ 1000 ∧ nests b ≤ 8 ∧ szs b ≤ 1000 ∧
  ∀ (p : Addr) (H' : Hp), Same H H' → H p = none → H' p = some (.lst ((sortU ((os ++ ss) ++ bnms b)).map V.str)) → IsSort ((os ++ ss) ++ bnms b) (sortU ((os ++ ss) ++ bnms b)) → Q (.ref p) H'
def sp_Program_told (K : PySem.W.Frag) : Sp := fun vs H Q _ => ∃ (a : Addr) (os ss : List Str) (b : List Rw), vs = [.ref a] ∧ PrAt K H a os ss b ∧
  ∀ (p x y : Addr) (H' : Hp), Same H H' → H x = none → H y = none → x ≠ y → SqT K H' p [.ref x, .ref y] → H' x = some (.lst (os.map V.str)) → H' y = some (.lst (ss.map V.str)) → Q (.ref p) H'
abbrev N_all_in : List Str := ["block", "found", "row", "inner"]
def t_all_in_j1 (K : PySem.W.Frag) (n : Nat) : TS :=
  (tFor (iSeq K (tF (sp_blocks_of K) (tCons (tVar 2) tNil))) (gName 3) (tAsg (tOp (rAdd K) (tVar 1) (tF (sp_all_in K n) (tCons (tVar 3) tNil))) (gName 1)))
def t_all_in_j2 (K : PySem.W.Frag) (n : Nat) : TS :=
  (tSeq (tIfS (tTest (tOp (rNe2 K) (tOp (rIx K) (tVar 2) (tC (.int 0))) (tC (.str "skip")))) (tAsg (tOp (rAdd K) (tVar 1) (tF (sp_names_in K) (tCons (tF (sp_formula_of K) (tCons (tVar 2) tNil)) tNil))) (gName 1)) tNext) (t_all_in_j1 K n))
def t_all_in (K : PySem.W.Frag) (n : Nat) : TS :=
  (tSeq (tAsg (tLst tNil) (gName 1)) (tSeq (tFor (iSeq K (tVar 0)) (gName 2) (tSeq (tIfS (tTest (tOp (rEq2 K) (tOp (rIx K) (tVar 2) (tC (.int 0))) (tC (.str "set")))) (tDrop (tBM K "list" rAppend (tVar 1) (tCons (tOp (rIx K) (tVar 2) (tC (.int 1))) tNil))) tNext) (t_all_in_j2 K n))) (tRet (tVar 1))))
abbrev N_Program_names : List Str := ["self"]
noncomputable def t_Program_names (K : PySem.W.Frag) : TS :=
  (tRet (tSortSet K (tOp (rAdd K) (tOp (rAdd K) (tFld K (tVar 0) "opened") (tFld K (tVar 0) "hidden")) (tF (sp_all_in K 9) (tCons (tFld K (tVar 0) "inner") tNil)))))
abbrev N_Program_told : List Str := ["self"]
def t_Program_told (K : PySem.W.Frag) : TS :=
  (tRet (tTup (tCons (tCB (rList K) (tCons (tFld K (tVar 0) "opened") tNil)) (tCons (tCB (rList K) (tCons (tFld K (tVar 0) "hidden") tNil)) tNil))))
theorem no_all_in {K : PySem.W.Frag} : ∀ vs H Q E, ¬ sp_all_in K 0 vs H Q E := by
  rintro vs H Q E ⟨a, xs, b, ns, _, _, _, _, _, h, _⟩
  omega
theorem pure_all_in (K : PySem.W.Frag) (n : Nat) (vs : List V) (H : Hp) (Q : VK) (E : XK) (h : sp_all_in K (n + 1) vs H Q E) :
    t_all_in K n { nx := fun _ H' => Q .non H', rt := Q } (start N_all_in vs) H := by
  obtain ⟨a, xs, b, ns, rfl, hs, hb, ho, nl, hn, hz, q⟩ := h
  unfold t_all_in
  walk_at "go"
  refine w_new (by walk_at "sz") (fun p0 hp0 => ?_)
  have e1 := same_new (o := .lst []) hp0
  have hp01 : upd H p0 (.lst []) p0 = _ := upd_same
  generalize upd H p0 (.lst []) = H1 at e1 hp01
  walk_at "go"
  refine w_isT (same_t e1 hs) ?_
  refine for_tup (xs := xs) (fun i σ H' => Same H H' ∧ ∃ (p : Addr) (ys : List Str) (w2 w3 : Option V), σ = [some (.ref a), some (.ref p), w2, w3] ∧ H p = none ∧ H' p = some (.lst (ys.map V.str)) ∧ (∀ y, y ∈ ys ↔ y ∈ bnms (b.take i)) ∧ ys.length ≤ 1001 * szs (b.take i))
    ⟨e1, p0, [], _, _, rfl, hp0, hp01, fun y => Iff.rfl, Nat.zero_le _⟩ (fun i σ H' _ h => same_t h.1 hs) ?_ ?_
  · rintro i x σ H2 hx ⟨e2, p, ys, w2, w3, rfl, hp, hp2, hm, hl⟩
    obtain ⟨rw, hrw, hrow⟩ := hb.get hx
    have rm : rw ∈ b := List.mem_of_getElem? hrw
    have rn := nest_mem rm
    have rok := oks_mem ho rw rm
    have tk := take_snoc hrw
    have zt : szs (b.take (i + 1)) ≤ szs b := szs_take
    have z1 : szs [rw] = rw.size := by show rw.size + 0 = _; omega
    rw [tk, szs_app, z1] at zt
    have psz := parts_size (r := rw)
    have hrow2 := hrow.monoT (SameT.of e2)
    have j1 : ∀ (H3 : Hp) (p : Addr) (ys : List Str) (w3 : Option V), Same H H3 → H p = none → H3 p = some (.lst (ys.map V.str)) → (∀ y, y ∈ ys ↔ y ∈ bnms (b.take i) ∨ y ∈ rw.own) → ys.length ≤ 1001 * szs (b.take i) + 1001 →
        t_all_in_j1 K n ⟨fun σ H' => Same H H' ∧ ∃ (p : Addr) (ys : List Str) (w2 w3 : Option V), σ = [some (.ref a), some (.ref p), w2, w3] ∧ H p = none ∧ H' p = some (.lst (ys.map V.str)) ∧ (∀ y, y ∈ ys ↔ y ∈ bnms (b.take (i + 1))) ∧ ys.length ≤ 1001 * szs (b.take (i + 1)), Q, fun _ _ => False, fun _ _ => False⟩
          [some (.ref a), some (.ref p), some x, w3] H3 := by
      intro H3 p ys w3 e3 hp hp3 hm hl
      unfold t_all_in_j1
      have hrow3 := hrow.monoT (SameT.of e3)
      walk_at "go"
      refine ⟨_, rw, _, rfl, hrow3, fun pb H4 ws e4 hpb hpb4 hws => ?_⟩
      refine w_isL (SqL.of hpb4) ?_
      refine for_list (xs := ws) (fun j σ H' => Same H4 H' ∧ ∃ (p : Addr) (ys : List Str) (w3 : Option V), σ = [some (.ref a), some (.ref p), some x, w3] ∧ H p = none ∧ H' p = some (.lst (ys.map V.str)) ∧ (∀ y, y ∈ ys ↔ (y ∈ bnms (b.take i) ∨ y ∈ rw.own) ∨ ∃ c ∈ rw.parts.take j, y ∈ bnms c) ∧
          ys.length ≤ 1001 * szs (b.take i) + 1001 + 1001 * ((rw.parts.take j).map szs).sum) ⟨Same.refl _, p, ys, _, rfl, hp, e4 _ _ hp3, fun y => (hm y).trans ⟨.inl, fun h => h.elim id fun ⟨_, h, _⟩ => nomatch h⟩, by simpa using hl⟩ (fun j σ H' _ h => SqL.of (h.1 _ _ hpb4)) ?_ ?_
      · rintro j v σ H5 hv ⟨e5, p, ys, w3, rfl, hp, hp5, hm, hl⟩
        obtain ⟨bl, t, zs, hbl, rfl, hts, htb⟩ := hws.get hv
        have bm : bl ∈ rw.parts := List.mem_of_getElem? hbl
        have pn := parts_nest bl bm
        have ps := part_size bm
        have tkj := take_snoc hbl
        have e45 := e4.trans e5
        walk_at "go"
        refine ⟨t, zs, bl, ns, rfl, same_t e45 hts, htb.monoT (SameT.of e45), parts_ok rok bl bm, nl, by omega, by omega, fun p6 H6 us e6 hp6 hp66 hm6 hl6 => ?_⟩
        have pz := sum_take (l := rw.parts.map szs) (i := j)
        rw [← List.map_take] at pz
        refine w_addL (e6 _ _ hp5) hp66 (sz (by rw [List.length_map, List.length_map]; omega)) (fun p7 hp7 => ?_)
        rw [← List.map_append]
        walk_at "go"
        refine ⟨e5.trans (e6.trans (same_new hp7)), p7, ys ++ us, _, rfl, none_of (e3.trans (e45.trans e6)) hp7, upd_same, fun y => ?_, ?_⟩
        · rw [List.mem_append, hm y, hm6 y, tkj, or_assoc]
          refine or_congr_right ?_
          simp only [List.mem_append, List.mem_singleton]
          constructor
          · rintro (⟨c, hc, h⟩ | h)
            · exact ⟨c, .inl hc, h⟩
            · exact ⟨bl, .inr rfl, h⟩
          · rintro ⟨c, hc | rfl, h⟩
            · exact .inl ⟨c, hc, h⟩
            · exact .inr h
        · rw [tkj, List.map_append, List.sum_append, List.length_append]
          simp only [List.map_cons, List.map_nil, List.sum_cons, List.sum_nil]
          omega
      · rintro σ H5 ⟨e5, p, ys, w3, rfl, hp, hp5, hm, hl⟩
        rw [hws.len, List.take_length] at hm hl
        refine ⟨e3.trans (e4.trans e5), p, ys, _, _, rfl, hp, hp5, fun y => ?_, ?_⟩
        · rw [hm y, tk, bnms_app, bnms_one, nms_own, or_assoc]
        · rw [tk, szs_app, z1]
          omega
    have j2 : ∀ (H3 : Hp) (p : Addr) (ys : List Str) (w3 : Option V), Same H H3 → H p = none → H3 p = some (.lst (ys.map V.str)) → (∀ y, y ∈ ys ∨ y ∈ fnames rw.fm ↔ y ∈ bnms (b.take i) ∨ y ∈ rw.own) → ys.length ≤ 1001 * szs (b.take i) + 1 →
        t_all_in_j2 K n ⟨fun σ H' => Same H H' ∧ ∃ (p : Addr) (ys : List Str) (w2 w3 : Option V), σ = [some (.ref a), some (.ref p), w2, w3] ∧ H p = none ∧ H' p = some (.lst (ys.map V.str)) ∧ (∀ y, y ∈ ys ↔ y ∈ bnms (b.take (i + 1))) ∧ ys.length ≤ 1001 * szs (b.take (i + 1)), Q, fun _ _ => False, fun _ _ => False⟩
          [some (.ref a), some (.ref p), some x, w3] H3 := by
      intro H3 p ys w3 e3 hp hp3 hm hl
      unfold t_all_in_j2
      have hrow3 := hrow.monoT (SameT.of e3)
      obtain ⟨ar, ws, hvr, hs3, _⟩ := hrow3.head
      subst hvr
      walk_at "go"
      refine w_ixT hs3 at0 ?_
      walk_at "go"
      rw [skip_isN]
      cases hf : rw.fm with
      | none =>
        refine w_no rfl ?_
        walk_at "go"
        rw [hf] at hm
        exact j1 H3 p ys w3 e3 hp hp3 (fun y => ⟨fun h => (hm y).mp (.inl h), fun h => ((hm y).mpr h).elim id fun h => nomatch h⟩) (by omega)
      | some f =>
        refine w_yes rfl ?_
        have ff := fm_ok rok hf
        rw [hf] at hm
        walk_at "go"
        refine ⟨_, rw, rfl, hrow3.toE, fun u hu => ?_⟩
        rw [hf] at hu
        walk_at "go"
        refine ⟨u, f, ns, rfl, hu, ff.1, nl, Nat.le_trans ff.2 (by decide), fun p7 H7 zs z1 z2 z3 e7 hp7 hp77 => ?_⟩
        have zl : zs.length ≤ ns.length := nodup_le z2 fun y hy => Fm.ok_names ff.1 y ((z3 y).mp hy)
        refine w_addL (e7 _ _ hp3) hp77 (sz (by rw [List.length_map, List.length_map]; omega)) (fun p8 hp8 => ?_)
        rw [← List.map_append]
        walk_at "go"
        exact j1 _ p8 (ys ++ zs) w3 (e3.trans (e7.trans (same_new hp8))) (none_of (e3.trans e7) hp8) upd_same (fun y => by rw [List.mem_append, z3 y]; exact hm y) (by rw [List.length_append]; omega)
    obtain ⟨ar, ws, hvr, hs2, _⟩ := hrow2.head
    subst hvr
    walk_at "go"
    refine w_ixT hs2 at0 ?_
    walk_at "go"
    rw [set_is]
    cases rw with
    | set z g =>
      have hr3 := hrow2
      cases hr3 with
      | set h1 hf =>
        walk_at "go"
        refine w_app hp2 (Nat.lt_of_le_of_lt (by rw [List.length_map]; omega : _ ≤ 2000000) (by decide)) ?_
        refine j2 _ p (ys ++ [z]) w3 (same_mut e2 hp) hp (by rw [upd_same, List.map_append] <;> rfl) (fun y => ?_) (by rw [List.length_append, List.length_singleton]; omega)
        show y ∈ ys ++ [z] ∨ y ∈ g.names ↔ y ∈ bnms (b.take i) ∨ y ∈ z :: g.names
        rw [List.mem_append, hm y, List.mem_singleton, List.mem_cons, or_assoc]
    | tell g => walk_at "go"; exact j2 H2 p ys w3 e2 hp hp2 (fun y => by rw [hm y]; rfl) (by omega)
    | skip => walk_at "go"; exact j2 H2 p ys w3 e2 hp hp2 (fun y => by rw [hm y]; rfl) (by omega)
    | ite g c d => walk_at "go"; exact j2 H2 p ys w3 e2 hp hp2 (fun y => by rw [hm y]; rfl) (by omega)
    | whl g c => walk_at "go"; exact j2 H2 p ys w3 e2 hp hp2 (fun y => by rw [hm y]; rfl) (by omega)
  · rintro σ H2 ⟨e2, p, ys, w2, w3, rfl, hp, hp2, hm, hl⟩
    rw [hb.len, List.take_length] at hm hl
    walk_at "go"
    exact q p H2 ys e2 hp hp2 hm hl
theorem pure_Program_names (K : PySem.W.Frag) (vs : List V) (H : Hp) (Q : VK) (E : XK) (h : sp_Program_names K vs H Q E) :
    t_Program_names K { nx := fun _ H' => Q .non H', rt := Q } (start N_Program_names vs) H := by
  obtain ⟨a, os, ss, ns, b, rfl, hP, ho, nl, l1, l2, hn, hz, q⟩ := h
  obtain ⟨C, dx, o, hh, q', ys, hI⟩ := hP
  unfold t_Program_names
  walk_at "go"
  refine w_sortSet ?_
  walk_at "go"
  refine w_fldAt hI.ha hI.cc (by simp) rfl ?_
  walk_at "go"
  refine w_fldAt hI.ha hI.cc (by simp) rfl ?_
  refine w_addL hI.ho hI.hh (sz (by rw [List.length_map, List.length_map]; omega)) (fun p1 hp1 => ?_)
  rw [← List.map_append]
  have e1 := same_new (o := .lst ((os ++ ss).map V.str)) hp1
  have hp11 : upd H p1 (.lst ((os ++ ss).map V.str)) p1 = _ := upd_same
  have ha1 := e1 _ _ hI.ha
  generalize upd H p1 (.lst ((os ++ ss).map V.str)) = H1 at e1 hp11 ha1
  walk_at "go"
  refine w_fldAt ha1 hI.cc (by simp) rfl ?_
  walk_at "go"
  refine ⟨q', ys, b, ns, rfl, same_t e1 hI.hq, hI.hb.monoT (SameT.of e1), ho, nl, by omega, hz, fun p2 H2 zs e2 hp2 hp22 hm hl => ?_⟩
  refine w_addL (e2 _ _ hp11) hp22 (sz (by rw [List.length_map, List.length_map, List.length_append]; omega)) (fun p3 hp3 => ?_)
  rw [← List.map_append]
  have mem : ∀ y, y ∈ (os ++ ss) ++ zs ↔ y ∈ (os ++ ss) ++ bnms b := fun y => by simp only [List.mem_append, hm y]
  refine ⟨p3, (os ++ ss) ++ zs, (os ++ ss) ++ ns, rfl, SqL.of upd_same, fun y hy => ?_, by rw [List.length_append, List.length_append]; omega, fun us p4 H4 s1 s2 s3 e4 hp4 hp44 => ?_⟩
  · rcases List.mem_append.mp ((mem y).mp hy) with h | h
    · exact List.mem_append_left _ h
    · exact List.mem_append_right _ (bnms_ok ho y h)
  · have is : IsSort ((os ++ ss) ++ bnms b) us := ⟨s1, s2, fun y => (s3 y).trans (mem y)⟩
    have e := sortU_eq is fun _ => Iff.rfl
    rw [e] at hp44
    have e04 := e1.trans (e2.trans ((same_new (o := .lst (((os ++ ss) ++ zs).map V.str)) hp3).trans e4))
    exact q p4 H4 e04 (none_of (e1.trans (e2.trans (same_new (o := .lst (((os ++ ss) ++ zs).map V.str)) hp3))) hp4) hp44 (sortU_is is)
theorem pure_Program_told (K : PySem.W.Frag) (vs : List V) (H : Hp) (Q : VK) (E : XK) (h : sp_Program_told K vs H Q E) :
    t_Program_told K { nx := fun _ H' => Q .non H', rt := Q } (start N_Program_told vs) H := by
  obtain ⟨a, os, ss, b, rfl, hP, q⟩ := h
  obtain ⟨C, dx, o, hh, q', ys, hI⟩ := hP
  unfold t_Program_told
  walk_at "go"
  refine w_fldAt hI.ha hI.cc (by simp) rfl ?_
  walk_at "go"
  refine w_listL (SqL.of hI.ho) (fun x hx => ?_)
  have e1 := same_new (o := .lst (os.map V.str)) hx
  have hx1 : upd H x (.lst (os.map V.str)) x = _ := upd_same
  have ha1 := e1 _ _ hI.ha
  have hh1 := e1 _ _ hI.hh
  generalize upd H x (.lst (os.map V.str)) = H1 at e1 hx1 ha1 hh1
  walk_at "go"
  refine w_fldAt ha1 hI.cc (by simp) rfl ?_
  walk_at "go"
  refine w_listL (SqL.of hh1) (fun y hy => ?_)
  have e2 := same_new (o := .lst (ss.map V.str)) hy
  have hy2 : upd H1 y (.lst (ss.map V.str)) y = _ := upd_same
  have hx2 := e2 _ _ hx1
  have xy : x ≠ y := ne_of_none hx1 hy
  generalize upd H1 y (.lst (ss.map V.str)) = H2 at e2 hy2 hx2
  walk_at "go"
  refine w_new (by walk_at "sz") (fun p hp => ?_)
  have e3 := same_new (o := .tup [.ref x, .ref y]) hp
  exact q p x y _ (e1.trans (e2.trans e3)) hx (none_of e1 hy) xy (SqT.of upd_same) (e3 _ _ hx2) (e3 _ _ hy2)
abbrev Chn := List (Nat × Str)
abbrev Chs := List (Str × Chn)
def Chs.keys (ch : Chs) : List Str := ch.map (·.1)
def chGet (ch : Chs) (x : Str) : Option Chn := (ch.find? fun p => decide (p.1 = x)).map (·.2)
theorem chGet_mem {ch : Chs} {x : Str} {c : Chn} (h : chGet ch x = some c) : (x, c) ∈ ch := by
  unfold chGet at h
  cases e : ch.find? (fun p : Str × Chn => decide (p.1 = x)) with
  | none => rw [e] at h; exact nomatch h
  | some p =>
    rw [e] at h
    have hp := of_decide_eq_true (List.find?_some (p := fun p : Str × Chn => decide (p.1 = x)) e)
    have hm := List.mem_of_find?_eq_some e
    have hc : p.2 = c := Option.some.inj h
    rw [← hp, ← hc]
    exact hm
theorem chGet_key {ch : Chs} {x : Str} (h : x ∈ Chs.keys ch) : ∃ c, chGet ch x = some c := by
  obtain ⟨p, hp, e⟩ := List.mem_map.mp h
  unfold chGet
  cases q : ch.find? (fun p : Str × Chn => decide (p.1 = x)) with
  | none => exact absurd (decide_eq_true e) (by have := List.find?_eq_none.mp q p hp; simpa using this)
  | some r => exact ⟨r.2, rfl⟩
theorem key_of {ch : Chs} {x : Str} {c : Chn} (h : (x, c) ∈ ch) : x ∈ Chs.keys ch := List.mem_map.mpr ⟨_, h, rfl⟩
theorem key_one {ch : Chs} (nd : (Chs.keys ch).Nodup) {x : Str} {c d : Chn} (h1 : (x, c) ∈ ch) (h2 : (x, d) ∈ ch) : c = d := by
  induction ch with
  | nil => exact nomatch h1
  | cons p r ih =>
    obtain ⟨n1, n2⟩ := List.nodup_cons.mp (show (p.1 :: Chs.keys r).Nodup from nd)
    rcases List.mem_cons.mp h1 with e1 | h1
    · rcases List.mem_cons.mp h2 with e2 | h2
      · exact (Prod.mk.inj (e1.trans e2.symm)).2
      · exact absurd (key_of h2) (by rw [show p.1 = x from congrArg Prod.fst e1.symm] at n1; exact n1)
    · rcases List.mem_cons.mp h2 with e2 | h2
      · exact absurd (key_of h1) (by rw [show p.1 = x from congrArg Prod.fst e2.symm] at n1; exact n1)
      · exact ih n2 h1 h2
theorem keys_app (a b : Chs) : Chs.keys (a ++ b) = Chs.keys a ++ Chs.keys b := List.map_append
/-- at the head of the loop: kn the names whose rows are still to be looked at, all at the end of chains of j + 1 pairs -/
structure WayI (ss : List Str) (rs : List Flo) (ch : Chs) (kn : List Str) (j : Nat) : Prop where
  nd : (Chs.keys ch).Nodup
  base : ∀ s ∈ ss, (s, [(0, s)]) ∈ ch
  each : ∀ x c, (x, c) ∈ ch → (x ∈ ss ∧ c = [(0, x)]) ∨ ∃ f ∈ rs, ∃ d, (f.2.1, d) ∈ ch ∧ f.2.2 = x ∧ c = d ++ [(f.1, x)]
  most : ∀ x c, (x, c) ∈ ch → c.length ≤ j + 1
  now : ∀ k ∈ kn, ∃ c, (k, c) ∈ ch ∧ c.length = j + 1
  past : ∀ f ∈ rs, f.2.1 ∈ Chs.keys ch → f.2.1 ∉ kn → f.2.2 ∈ Chs.keys ch ∧ ∀ c d, (f.2.1, c) ∈ ch → (f.2.2, d) ∈ ch → d.length ≤ c.length + 1
/-- within the pass over the rows: ps those looked at -/
structure WayP (rs ps : List Flo) (ch0 : Chs) (kn : List Str) (j : Nat) (ch : Chs) (fr : List Str) : Prop where
  nd : (Chs.keys ch).Nodup
  ext : ∃ e, ch = ch0 ++ e ∧ fr = Chs.keys e ∧ ∀ x c, (x, c) ∈ e → ∃ f ∈ rs, ∃ d, (f.2.1, d) ∈ ch0 ∧ f.2.2 = x ∧ c = d ++ [(f.1, x)] ∧ d.length = j + 1
  seen : ∀ f ∈ ps, f.2.1 ∈ kn → f.2.2 ∈ Chs.keys ch
theorem WayP.init {ss : List Str} {rs : List Flo} {ch : Chs} {kn : List Str} {j : Nat} (h : WayI ss rs ch kn j) : WayP rs [] ch kn j ch [] :=
  ⟨h.nd, ⟨[], (List.append_nil _).symm, rfl, fun _ _ h => nomatch h⟩, fun _ h => nomatch h⟩
theorem WayP.skip {rs ps : List Flo} {ch0 ch : Chs} {kn fr : List Str} {j : Nat} {f : Flo} (h : WayP rs ps ch0 kn j ch fr) (hf : ¬ (f.2.1 ∈ kn ∧ f.2.2 ∉ Chs.keys ch)) : WayP rs (ps ++ [f]) ch0 kn j ch fr :=
  ⟨h.nd, h.ext, fun g hg hk => (List.mem_append.mp hg).elim (fun hg => h.seen g hg hk) fun hg => by
    rw [List.mem_singleton.mp hg] at hk ⊢
    exact Decidable.byContradiction fun c => hf ⟨hk, c⟩⟩
theorem WayP.take {ss : List Str} {rs ps : List Flo} {ch0 ch : Chs} {kn fr : List Str} {j : Nat} {f : Flo} {d : Chn} (I : WayI ss rs ch0 kn j) (h : WayP rs ps ch0 kn j ch fr) (hm : f ∈ rs) (hk : f.2.1 ∈ kn) (hx : f.2.2 ∉ Chs.keys ch) (hd : (f.2.1, d) ∈ ch) :
    WayP rs (ps ++ [f]) ch0 kn j (ch ++ [(f.2.2, d ++ [(f.1, f.2.2)])]) (fr ++ [f.2.2]) := by
  obtain ⟨e, he, hfr, hall⟩ := h.ext
  obtain ⟨c, hc, hl⟩ := I.now _ hk
  have hc2 : (f.2.1, c) ∈ ch := by rw [he]; exact List.mem_append_left _ hc
  have hcd : d = c := key_one h.nd hd hc2
  refine ⟨?_, ⟨e ++ [(f.2.2, d ++ [(f.1, f.2.2)])], by rw [he, List.append_assoc], by rw [keys_app, hfr] <;> rfl, fun x c' hxc => ?_⟩, fun g hg hk => ?_⟩
  · rw [keys_app, List.nodup_append]
    refine ⟨h.nd, List.nodup_cons.mpr ⟨List.not_mem_nil, List.nodup_nil⟩, fun a ha b hb e => ?_⟩
    rw [List.mem_singleton.mp hb] at e
    have e : a = f.2.2 := e
    exact hx (e ▸ ha)
  · rcases List.mem_append.mp hxc with h1 | h1
    · exact hall x c' h1
    · have h1 := List.mem_singleton.mp h1
      obtain ⟨rfl, rfl⟩ := Prod.mk.inj h1
      exact ⟨f, hm, d, by rw [hcd]; exact hc, rfl, rfl, by rw [hcd]; exact hl⟩
  · rw [keys_app, List.mem_append]
    rcases List.mem_append.mp hg with hg | hg
    · exact .inl (h.seen g hg hk)
    · rw [List.mem_singleton.mp hg]; exact .inr (List.mem_singleton.mpr rfl)
theorem WayP.next {ss : List Str} {rs : List Flo} {ch0 ch : Chs} {kn fr : List Str} {j : Nat} (I : WayI ss rs ch0 kn j) (h : WayP rs rs ch0 kn j ch fr) : WayI ss rs ch fr (j + 1) := by
  obtain ⟨e, rfl, rfl, hall⟩ := h.ext
  refine ⟨h.nd, fun s hs => List.mem_append_left _ (I.base s hs), fun x c hx => ?_, fun x c hx => ?_, fun k hk => ?_, fun f hf hk hn => ?_⟩
  · rcases List.mem_append.mp hx with hx | hx
    · rcases I.each x c hx with h1 | ⟨f, hf, d, h1, h2⟩
      · exact .inl h1
      · exact .inr ⟨f, hf, d, List.mem_append_left _ h1, h2⟩
    · obtain ⟨f, hf, d, h1, h2, h3, _⟩ := hall x c hx
      exact .inr ⟨f, hf, d, List.mem_append_left _ h1, h2, h3⟩
  · rcases List.mem_append.mp hx with hx | hx
    · have := I.most x c hx; omega
    · obtain ⟨f, hf, d, h1, h2, rfl, h4⟩ := hall x c hx
      rw [List.length_append, List.length_singleton]
      omega
  · obtain ⟨p, hp, rfl⟩ := List.mem_map.mp hk
    obtain ⟨f, hf, d, h1, h2, h3, h4⟩ := hall p.1 p.2 hp
    exact ⟨p.2, List.mem_append_right _ hp, by rw [h3, List.length_append, List.length_singleton]; omega⟩
  · rw [keys_app] at hk
    have hk0 : f.2.1 ∈ Chs.keys ch0 := (List.mem_append.mp hk).resolve_right hn
    have old : ∀ c, (f.2.1, c) ∈ ch0 ++ e → (f.2.1, c) ∈ ch0 := fun c hc => (List.mem_append.mp hc).resolve_right fun q => hn (key_of q)
    by_cases hkn : f.2.1 ∈ kn
    · refine ⟨h.seen f hf hkn, fun c d hc hd => ?_⟩
      obtain ⟨c2, hc2, l2⟩ := I.now _ hkn
      have ec : c = c2 := key_one I.nd (old c hc) hc2
      have : d.length ≤ j + 2 := by
        rcases List.mem_append.mp hd with hd | hd
        · have := I.most _ d hd; omega
        · obtain ⟨g, hg, d2, h1, h2, rfl, h4⟩ := hall _ d hd
          rw [List.length_append, List.length_singleton]
          omega
      rw [ec, l2]
      omega
    · obtain ⟨p1, p2⟩ := I.past f hf hk0 hkn
      refine ⟨by rw [keys_app]; exact List.mem_append_left _ p1, fun c d hc hd => ?_⟩
      obtain ⟨d2, hd2⟩ := chGet_key p1
      have := chGet_mem hd2
      have ed : d = d2 := key_one h.nd hd (List.mem_append_left _ this)
      rw [ed]
      exact p2 c d2 (old c hc) this
def PaAt (K : PySem.W.Frag) (H : Hp) (v : V) (p : Nat × Str) : Prop := ∃ t, v = .ref t ∧ SqT K H t [.int (p.1 : Nat), .str p.2]
theorem PaAt.monoT {K : PySem.W.Frag} {H H' : Hp} (e : SameT H H') {v : V} {p : Nat × Str} (h : PaAt K H v p) : PaAt K H' v p := by
  obtain ⟨t, h1, h2⟩ := h
  exact ⟨t, h1, sameT_t e h2⟩
def ChAt (K : PySem.W.Frag) (H : Hp) (v : V) (c : Chn) : Prop := ∃ l us, v = .ref l ∧ H l = some (.lst us) ∧ All2 (PaAt K H) us c ∧ c ≠ []
/-- lists of pairs stay -/
def SameP (H H' : Hp) : Prop := SameT H H' ∧ ∀ (l t : Addr) (us : List V), H l = some (.lst (.ref t :: us)) → H' l = some (.lst (.ref t :: us))
theorem SameP.of {H H' : Hp} (e : Same H H') : SameP H H' := ⟨SameT.of e, fun l t us h => e l _ h⟩
theorem SameP.trans {H H1 H2 : Hp} (a : SameP H H1) (b : SameP H1 H2) : SameP H H2 := ⟨a.1.trans b.1, fun l t us h => b.2 l t us (a.2 l t us h)⟩
theorem SameP.dict {H : Hp} {D : Addr} {kvs : List (Key × V)} {o : HO} (h : H D = some (.dK kvs)) : SameP H (upd H D o) :=
  ⟨SameT.upd h rfl, fun l t us hl => by
    rw [upd_ne (fun e => by rw [e, h] at hl; exact nomatch Option.some.inj hl)]
    exact hl⟩
theorem ChAt.go {K : PySem.W.Frag} {H H' : Hp} (e : SameP H H') {v : V} {c : Chn} (h : ChAt K H v c) : ChAt K H' v c := by
  obtain ⟨l, us, rfl, h2, h3, h4⟩ := h
  refine ⟨l, us, rfl, ?_, h3.imp fun _ _ q => q.monoT e.1, h4⟩
  cases h3 with
  | nil => exact absurd rfl h4
  | cons q t =>
    obtain ⟨t', rfl, _⟩ := q
    exact e.2 _ _ _ h2
inductive KvAll (K : PySem.W.Frag) (H : Hp) : List (Key × V) → Chs → Prop where
  | nil : KvAll K H [] []
  | cons {x : Str} {v : V} {c : Chn} {kvs : List (Key × V)} {ch : Chs} (h : ChAt K H v c) (t : KvAll K H kvs ch) : KvAll K H ((.inr x, v) :: kvs) ((x, c) :: ch)
theorem KvAll.go {K : PySem.W.Frag} {H H' : Hp} (e : SameP H H') : ∀ {kvs : List (Key × V)} {ch : Chs}, KvAll K H kvs ch → KvAll K H' kvs ch
  | _, _, .nil => .nil
  | _, _, .cons h t => .cons (h.go e) (t.go e)
theorem KvAll.snoc {K : PySem.W.Frag} {H : Hp} {x : Str} {v : V} {c : Chn} (h : ChAt K H v c) : ∀ {kvs : List (Key × V)} {ch : Chs}, KvAll K H kvs ch → KvAll K H (kvs ++ [(.inr x, v)]) (ch ++ [(x, c)])
  | _, _, .nil => .cons h .nil
  | _, _, .cons h2 t => .cons h2 (t.snoc h)
theorem KvAll.keys {K : PySem.W.Frag} {H : Hp} : ∀ {kvs : List (Key × V)} {ch : Chs}, KvAll K H kvs ch → kvs.map (·.1) = (Chs.keys ch).map Sum.inr
  | _, _, .nil => rfl
  | _, _, .cons _ t => congrArg (_ :: ·) t.keys
theorem KvAll.len {K : PySem.W.Frag} {H : Hp} {kvs : List (Key × V)} {ch : Chs} (h : KvAll K H kvs ch) : kvs.length = ch.length := by
  have := congrArg List.length h.keys
  simpa [Chs.keys] using this
theorem KvAll.at_ {K : PySem.W.Frag} {H : Hp} {x : Str} {c : Chn} : ∀ {kvs : List (Key × V)} {ch : Chs}, KvAll K H kvs ch → chGet ch x = some c → ∃ v, valV kvs (.inr x) = some v ∧ ChAt K H v c
  | _, _, .nil, h => nomatch h
  | _, _, .cons (x := y) (v := v) (c := d) (ch := ch) hd t, h => by
    by_cases e : y = x
    · subst e
      have : chGet ((y, d) :: ch) y = some d := by simp [chGet]
      rw [this] at h
      rw [← Option.some.inj h]
      exact ⟨v, valV_pos rfl, hd⟩
    · have : chGet ((y, d) :: ch) x = chGet ch x := by simp [chGet, e]
      rw [this] at h
      obtain ⟨w, h1, h2⟩ := t.at_ h
      exact ⟨w, (valV_neg (p := ((Sum.inr y : Key), v)) (fun z => e (Sum.inr.inj z))).trans h1, h2⟩
theorem valV_none {kvs : List (Key × V)} {x : Key} (h : x ∉ kvs.map (·.1)) : valV kvs x = none := by
  induction kvs with
  | nil => rfl
  | cons p r ih =>
    rw [List.map_cons, List.mem_cons, not_or] at h
    exact (valV_neg (fun e => h.1 e.symm)).trans (ih h.2)
theorem w_din {neg : Bool} {H : Hp} {Q : VK} {D : Addr} {kvs : List (Key × V)} {x : Str} (h : H D = some (.dK kvs)) (q : Q (.bl (if neg then !(valV kvs (.inr x)).isSome else (valV kvs (.inr x)).isSome)) H) : rDIn neg (.str x) (.ref D) H Q := ⟨D, _, rfl, DGet.k (k := .inr x) h, q⟩
def rDictP (K : PySem.W.Frag) : List V → Hp → VK → Prop := fun xs H Q => ∃ (a : Addr) (ps : List Addr) (kvs : List (Key × V)), xs = [.ref a] ∧ SqL K H a (ps.map V.ref) ∧ Paired (fun p kv => SqT K H p [kV kv.1, kv.2]) ps kvs ∧ ∀ p, H p = none → Q (.ref p) (upd H p (.dK (mergeK [] kvs)))
theorem o_dictP {X : Cx} (hc : X.calm = true) : CallR X (.type "dict") (rDictP X.K) := call_dictP hc
theorem KvAll.names {K : PySem.W.Frag} {H : Hp} : ∀ {kvs : List (Key × V)} {ch : Chs}, KvAll K H kvs ch → (kvs.map fun kv => kV kv.1) = (Chs.keys ch).map V.str
  | _, _, .nil => rfl
  | _, _, .cons _ t => congrArg (_ :: ·) t.names
theorem putK_new' {κ : Type} [DecidableEq κ] {kvs : List (κ × V)} {k : κ} {v : V} (h : k ∉ kvs.map (·.1)) : putK kvs k v = kvs ++ [(k, v)] := by
  unfold putK
  rw [if_neg]
  intro c
  obtain ⟨p, hp, e⟩ := List.any_eq_true.mp c
  exact h (List.mem_map.mpr ⟨p, hp, of_decide_eq_true e⟩)
theorem merge_nd {kvs : List (Key × V)} : ∀ {acc : List (Key × V)}, (acc.map (·.1) ++ kvs.map (·.1)).Nodup → mergeK acc kvs = acc ++ kvs := by
  induction kvs with
  | nil => intro acc _; show acc = acc ++ []; rw [List.append_nil]
  | cons p r ih =>
    intro acc h
    have hp : p.1 ∉ acc.map (·.1) := fun c => by
      rw [List.nodup_append] at h
      exact h.2.2 _ c p.1 List.mem_cons_self rfl
    show mergeK (putK acc p.1 p.2) r = acc ++ p :: r
    rw [putK_new' hp, ih (by rw [List.map_append, List.append_assoc]; exact h), List.append_assoc] <;> rfl
theorem nodup_inr : ∀ {l : List Str}, l.Nodup → (l.map (Sum.inr : Str → Key)).Nodup
  | [], _ => List.nodup_nil
  | x :: r, h => by
    obtain ⟨h1, h2⟩ := List.nodup_cons.mp h
    refine List.nodup_cons.mpr ⟨fun c => ?_, nodup_inr h2⟩
    obtain ⟨y, hy, e⟩ := List.mem_map.mp c
    exact h1 (Sum.inr.inj e ▸ hy)
def KdAt (K : PySem.W.Frag) (H : Hp) (v : V) (p : Str × Str) : Prop := ∃ t, v = .ref t ∧ SqT K H t [.str p.1, .str p.2]
theorem KdAt.monoT {K : PySem.W.Frag} {H H' : Hp} (e : SameT H H') {v : V} {p : Str × Str} (h : KdAt K H v p) : KdAt K H' v p := by
  obtain ⟨t, h1, h2⟩ := h
  exact ⟨t, h1, sameT_t e h2⟩
structure Nwo (H H' : Hp) (p : Addr) (o : HO) : Prop where
  eq : H' = upd H p o
theorem nw_eq {Q : VK} {f : List V → HO} : (fun (xs : List V) (H1 : Hp) => xs.length ≤ sizeLine ∧ ∀ p H2, H1 p = none → Nwo H1 H2 p (f xs) → Q (.ref p) H2) = fun xs H1 => xs.length ≤ sizeLine ∧ ∀ p, H1 p = none → Q (.ref p) (upd H1 p (f xs)) := by
  funext xs H1
  exact propext ⟨fun ⟨z, k⟩ => ⟨z, fun p hp => k p _ hp ⟨rfl⟩⟩, fun ⟨z, k⟩ => ⟨z, fun p H2 hp e => by rw [e.eq]; exact k p hp⟩⟩
theorem w_nw {n : Nat} {R : Addr → Hp → Prop} {H1 : Hp} {o : HO} (z : n ≤ sizeLine) (q : ∀ p H2, H1 p = none → Same H1 H2 → H2 p = some o → R p H2) : n ≤ sizeLine ∧ ∀ p H2, H1 p = none → Nwo H1 H2 p o → R p H2 :=
  ⟨z, fun p H2 hp e => q p H2 hp (by rw [e.eq]; exact same_new hp) (by rw [e.eq]; exact upd_same)⟩
theorem same_look {H H' : Hp} {a : Addr} {u : HO} (e : Same H H') (h : H a = some u) : H' a = some u := e a u h
theorem same_mutX {H0 H H' : Hp} {l : Addr} (e : Same H0 H) (n : H0 l = none) (x : SameX l H H') : Same H0 H' := SameX.same e n x
theorem sq_l {K : PySem.W.Frag} {H H' : Hp} {a : Addr} {xs : List V} (e : Same H H') (h : H a = some (.lst xs)) : SqL K H' a xs := SqL.of (e a _ h)
theorem sq_t {K : PySem.W.Frag} {H H' : Hp} {a : Addr} {xs : List V} (e : Same H H') (h : H a = some (.tup xs)) : SqT K H' a xs := SqT.of (e a _ h)
theorem BkAt.monoS {K : PySem.W.Frag} {H H' : Hp} (e : Same H H') {vs : List V} {l : List Rw} (h : BkAt K (SqT K) H vs l) : BkAt K (SqT K) H' vs l := h.monoT (SameT.of e)
theorem RwAt.monoS {K : PySem.W.Frag} {H H' : Hp} (e : Same H H') {v : V} {r : Rw} (h : RwAt K (SqT K) H v r) : RwAt K (SqT K) H' v r := h.monoT (SameT.of e)
section
variable {K : PySem.W.Frag} {σ : L2.St} {H : Hp} {Q : VK} {x y v : V}
theorem w_lst' {t : TA} (q : t σ H fun xs H1 => xs.length ≤ sizeLine ∧ ∀ p H2, H1 p = none → Nwo H1 H2 p (.lst xs) → Q (.ref p) H2) : tLst t σ H Q := by
  rw [nw_eq (f := .lst)] at q
  exact q
theorem w_tup' {t : TA} (q : t σ H fun xs H1 => xs.length ≤ sizeLine ∧ ∀ p H2, H1 p = none → Nwo H1 H2 p (.tup xs) → Q (.ref p) H2) : tTup t σ H Q := by
  rw [nw_eq (f := .tup)] at q
  exact q
theorem w_addL' {a b : Addr} {xs ys : List V} (ha : H a = some (.lst xs)) (hb : H b = some (.lst ys)) (h : xs.length + ys.length ≤ sizeLine) (q : ∀ p H', H p = none → Same H H' → H' p = some (.lst (xs ++ ys)) → Q (.ref p) H') : rAdd K (.ref a) (.ref b) H Q :=
  w_addL ha hb h fun p hp => q p _ hp (same_new hp) upd_same
theorem w_slL' {a : Addr} {xs : List V} {lo hi : Option Int} (h : SqL K H a xs) (q : ∀ p H', H p = none → Same H H' → H' p = some (.lst (cutV xs lo hi)) → Q (.ref p) H') : rSl K (.ref a) lo hi H Q :=
  w_slL h fun p hp => q p _ hp (same_new hp) upd_same
theorem w_tupL' {p : Addr} {xs : List V} (h : SqL K H p xs) (q : ∀ l H', H l = none → Same H H' → H' l = some (.tup xs) → Q (.ref l) H') : rTupO K [.ref p] H Q :=
  w_tupL h fun l hl => q l _ hl (same_new hl) upd_same
theorem w_app' {l : Addr} {xs : List V} (h : H l = some (.lst xs)) (z : xs.length < sizeLine) (q : ∀ H', SameX l H H' → SameT H H' → H' l = some (.lst (xs ++ [y])) → Q .non H') : rAppend (.ref l) [y] H Q :=
  w_app h z (q _ SameX.upd (SameT.upd h rfl) upd_same)
end
theorem lt_line {n : Nat} (h : n ≤ 16000000) : n < sizeLine := Nat.lt_of_le_of_lt h (by decide)
theorem all2_map {α : Type} {f : α → V} : ∀ {as : List α}, All2 (fun v x => v = f x) (as.map f) as
  | [] => .nil
  | _ :: _ => .cons rfl all2_map
theorem All2.split {α : Type} {R : V → α → Prop} {vs : List V} {as : List α} {i : Nat} {v : V} (h : All2 R vs as) (e : vs[i]? = some v) : ∃ x, as = as.take i ++ x :: as.drop (i + 1) ∧ as.take (i + 1) = as.take i ++ [x] ∧ R v x := by
  obtain ⟨x, hx, hr⟩ := h.get e
  obtain ⟨hi, rfl⟩ := List.getElem?_eq_some_iff.mp hx
  exact ⟨_, by rw [← List.drop_eq_getElem_cons hi, List.take_append_drop], take_snoc hx, hr⟩
theorem for_al {α : Type} {K : PySem.W.Frag} {a : Addr} {xs : List V} {as : List α} {P : V → α → Prop} {g : TG} {tb : TS} {D : Ends} {σ : L2.St} {Hb H0 : Hp} (Pv : List α → L2.St → Hp → Prop) (hq : SE K Hb a xs) (hx : All2 P xs as) (h0 : Pv [] σ H0) (hl : ∀ pre σ H, Pv pre σ H → Same Hb H)
    (hs : ∀ pre x post v σ H, as = pre ++ x :: post → P v x → Pv pre σ H → g v σ H fun σ2 H2 => tb { D with nx := Pv (pre ++ [x]), ct := Pv (pre ++ [x]), bk := D.nx } σ2 H2) (hd : ∀ σ H, Pv as σ H → D.nx σ H) :
    ∃ b, V.ref a = .ref b ∧ (((∃ xs, SqL K H0 b xs) ∧ ∃ W : Nat → Nat → L2.St → Hp → Prop, (∃ m, W 0 m σ H0) ∧ ∀ i m σ H, W i m σ H →
      ((Itl K b).stop i H ∧ D.nx σ H) ∨ ((Itl K b).go i H ∧ ∃ N : L2.St → Hp → Prop, (∀ σ' H', N σ' H' → ∃ m', m' < m ∧ W (i + 1) m' σ' H') ∧ ∀ x H', (Itl K b).yld i H x H' → g x σ H' fun σ2 H2 => tb { D with nx := N, ct := N, bk := D.nx } σ2 H2)) ∨
      ((∃ xs, SqT K H0 b xs) ∧ ∃ W : Nat → Nat → L2.St → Hp → Prop, (∃ m, W 0 m σ H0) ∧ ∀ i m σ H, W i m σ H →
      ((Itt K b).stop i H ∧ D.nx σ H) ∨ ((Itt K b).go i H ∧ ∃ N : L2.St → Hp → Prop, (∀ σ' H', N σ' H' → ∃ m', m' < m ∧ W (i + 1) m' σ' H') ∧ ∀ x H', (Itt K b).yld i H x H' → g x σ H' fun σ2 H2 => tb { D with nx := N, ct := N, bk := D.nx } σ2 H2))) := by
  refine for_se (xs := xs) (fun i => Pv (as.take i)) hq (by rw [List.take_zero]; exact h0) (fun i σ H h => hl _ σ H h) ?_ ?_
  · intro i x σ H e p
    obtain ⟨y, e1, e2, r⟩ := hx.split e
    rw [e2]
    exact hs _ y _ x σ H e1 r p
  · intro σ H p
    rw [hx.len, List.take_length] at p
    exact hd σ H p
theorem lc_all {α : Type} {K : PySem.W.Frag} {a : Addr} {xs : List V} {as : List α} {P : V → α → Prop} {g : TG} {tt : TT} {te : TE} {vs : List Nat} {σ : L2.St} {H0 : Hp} {Qd : Addr → Hp → Prop} (R : Hp → V → α → Prop) (hq : SE K H0 a xs) (hx : All2 P xs as) (hl : as.length ≤ 16000000)
    (mono : ∀ H H' y x, SameT H H' → R H y x → R H' y x)
    (hs : ∀ D v x H (Nx : Hp → Prop), x ∈ as → P v x → Same H0 H → (∃ ys, H D = some (.lst ys)) → (∀ y H4, Same H H4 → R H4 y x → ∃ acc, H4 D = some (.lst acc) ∧ acc.length < sizeLine ∧ Nx (upd H4 D (.lst (acc ++ [y])))) →
      g v (wipe σ vs) H fun σ2 H2 => wipe σ2 vs = wipe σ vs ∧ tt σ2 H2 fun b H3 => if b = true then te σ2 H3 fun y H4 => ∃ acc, H4 D = some (.lst acc) ∧ acc.length < sizeLine ∧ Nx (upd H4 D (.lst (acc ++ [y]))) else Nx H3)
    (hd : ∀ D H ys, Same H0 H → H0 D = none → H D = some (.lst ys) → All2 (R H) ys as → Qd D H) :
    ∃ b, V.ref a = .ref b ∧ (((∃ xs, SqL K H0 b xs) ∧ ∀ D, H0 D = none → ∃ W : Nat → Nat → Hp → Prop, (∃ m, W 0 m (upd H0 D (.lst []))) ∧ ∀ i m H, W i m H →
      ((Itl K b).stop i H ∧ Qd D H) ∨ ((Itl K b).go i H ∧ ∃ Nx : Hp → Prop, (∀ H', Nx H' → ∃ m', m' < m ∧ W (i + 1) m' H') ∧ ∀ x H', (Itl K b).yld i H x H' → g x (wipe σ vs) H' fun σ2 H2 => wipe σ2 vs = wipe σ vs ∧ tt σ2 H2 fun b H3 =>
        if b = true then te σ2 H3 fun y H4 => ∃ acc, H4 D = some (.lst acc) ∧ acc.length < sizeLine ∧ Nx (upd H4 D (.lst (acc ++ [y]))) else Nx H3)) ∨
      ((∃ xs, SqT K H0 b xs) ∧ ∀ D, H0 D = none → ∃ W : Nat → Nat → Hp → Prop, (∃ m, W 0 m (upd H0 D (.lst []))) ∧ ∀ i m H, W i m H →
      ((Itt K b).stop i H ∧ Qd D H) ∨ ((Itt K b).go i H ∧ ∃ Nx : Hp → Prop, (∀ H', Nx H' → ∃ m', m' < m ∧ W (i + 1) m' H') ∧ ∀ x H', (Itt K b).yld i H x H' → g x (wipe σ vs) H' fun σ2 H2 => wipe σ2 vs = wipe σ vs ∧ tt σ2 H2 fun b H3 =>
        if b = true then te σ2 H3 fun y H4 => ∃ acc, H4 D = some (.lst acc) ∧ acc.length < sizeLine ∧ Nx (upd H4 D (.lst (acc ++ [y]))) else Nx H3))) := by
  refine lc_se (xs := xs) (fun i y H => ∃ x, as[i]? = some x ∧ R H y x) hq (by rw [hx.len]; exact hl) (fun i y H1 H2 ⟨x, h1, h2⟩ e => ⟨x, h1, mono _ _ _ _ e h2⟩) ?_ ?_
  · intro D i v H Nx hv e hys k
    obtain ⟨x, h1, h2⟩ := hx.get hv
    exact hs D v x H Nx (List.mem_of_getElem? h1) h2 e hys fun y H4 e4 r => k y H4 e4 ⟨x, h1, r⟩
  · intro D H ys e hD hD2 hl2 hR
    exact hd D H ys e hD hD2 (All2.of_get (by rw [hl2, hx.len]) fun i v hv => hR i v hv)
theorem lc_fil {α : Type} {K : PySem.W.Frag} {a : Addr} {xs : List V} {as : List α} {P : V → α → Prop} {g : TG} {tt : TT} {te : TE} {vs : List Nat} {σ : L2.St} {H0 : Hp} {Qd : Addr → Hp → Prop} (p : α → Bool) (R : Hp → V → α → Prop) (hq : SE K H0 a xs) (hx : All2 P xs as) (hl : as.length ≤ 16000000)
    (mono : ∀ H H' y x, SameT H H' → R H y x → R H' y x)
    (hs : ∀ D v x H (Nx : Hp → Prop), x ∈ as → P v x → Same H0 H → (∃ ys, H D = some (.lst ys)) → (p x = true → ∀ y H4, Same H H4 → R H4 y x → ∃ acc, H4 D = some (.lst acc) ∧ acc.length < sizeLine ∧ Nx (upd H4 D (.lst (acc ++ [y])))) → (p x = false → ∀ H4, Same H H4 → Nx H4) →
      g v (wipe σ vs) H fun σ2 H2 => wipe σ2 vs = wipe σ vs ∧ tt σ2 H2 fun b H3 => if b = true then te σ2 H3 fun y H4 => ∃ acc, H4 D = some (.lst acc) ∧ acc.length < sizeLine ∧ Nx (upd H4 D (.lst (acc ++ [y]))) else Nx H3)
    (hd : ∀ D H ys, Same H0 H → H0 D = none → H D = some (.lst ys) → All2 (R H) ys (as.filter p) → Qd D H) :
    ∃ b, V.ref a = .ref b ∧ (((∃ xs, SqL K H0 b xs) ∧ ∀ D, H0 D = none → ∃ W : Nat → Nat → Hp → Prop, (∃ m, W 0 m (upd H0 D (.lst []))) ∧ ∀ i m H, W i m H →
      ((Itl K b).stop i H ∧ Qd D H) ∨ ((Itl K b).go i H ∧ ∃ Nx : Hp → Prop, (∀ H', Nx H' → ∃ m', m' < m ∧ W (i + 1) m' H') ∧ ∀ x H', (Itl K b).yld i H x H' → g x (wipe σ vs) H' fun σ2 H2 => wipe σ2 vs = wipe σ vs ∧ tt σ2 H2 fun b H3 =>
        if b = true then te σ2 H3 fun y H4 => ∃ acc, H4 D = some (.lst acc) ∧ acc.length < sizeLine ∧ Nx (upd H4 D (.lst (acc ++ [y]))) else Nx H3)) ∨
      ((∃ xs, SqT K H0 b xs) ∧ ∀ D, H0 D = none → ∃ W : Nat → Nat → Hp → Prop, (∃ m, W 0 m (upd H0 D (.lst []))) ∧ ∀ i m H, W i m H →
      ((Itt K b).stop i H ∧ Qd D H) ∨ ((Itt K b).go i H ∧ ∃ Nx : Hp → Prop, (∀ H', Nx H' → ∃ m', m' < m ∧ W (i + 1) m' H') ∧ ∀ x H', (Itt K b).yld i H x H' → g x (wipe σ vs) H' fun σ2 H2 => wipe σ2 vs = wipe σ vs ∧ tt σ2 H2 fun b H3 =>
        if b = true then te σ2 H3 fun y H4 => ∃ acc, H4 D = some (.lst acc) ∧ acc.length < sizeLine ∧ Nx (upd H4 D (.lst (acc ++ [y]))) else Nx H3))) := by
  have step : ∀ D, H0 D = none → ∀ i v H, xs[i]? = some v → (Same H0 H ∧ ∃ ys, H D = some (.lst ys) ∧ All2 (R H) ys ((as.take i).filter p)) →
      g v (wipe σ vs) H fun σ2 H2 => wipe σ2 vs = wipe σ vs ∧ tt σ2 H2 fun b H3 => if b = true then te σ2 H3 fun y H4 => ∃ acc, H4 D = some (.lst acc) ∧ acc.length < sizeLine ∧
        (Same H0 (upd H4 D (.lst (acc ++ [y]))) ∧ ∃ ys, (upd H4 D (.lst (acc ++ [y]))) D = some (.lst ys) ∧ All2 (R (upd H4 D (.lst (acc ++ [y])))) ys ((as.take (i + 1)).filter p)) else (Same H0 H3 ∧ ∃ ys, H3 D = some (.lst ys) ∧ All2 (R H3) ys ((as.take (i + 1)).filter p)) := by
    rintro D hD i v H hv ⟨e, ys, hy, hR⟩
    obtain ⟨x, hxi, hp⟩ := hx.get hv
    have tk := take_snoc hxi
    refine hs D v x H (fun H3 => Same H0 H3 ∧ ∃ ys, H3 D = some (.lst ys) ∧ All2 (R H3) ys ((as.take (i + 1)).filter p)) (List.mem_of_getElem? hxi) hp e ⟨ys, hy⟩ (fun pt y H4 e4 hr => ?_) (fun pf H4 e4 => ?_)
    · have h4 := e4 D _ hy
      have sx : SameT H4 (upd H4 D (.lst (ys ++ [y]))) := SameT.upd h4 rfl
      have yl := hR.len
      have yl2 : ys.length ≤ 16000000 := by rw [yl]; exact Nat.le_trans (List.length_filter_le _ _) (Nat.le_trans (List.length_take_le' _ _) hl)
      refine ⟨ys, h4, Nat.lt_of_le_of_lt yl2 (by decide), same_mut (e.trans e4) hD, ys ++ [y], upd_same, ?_⟩
      rw [tk, List.filter_append, List.filter_cons_of_pos pt, List.filter_nil]
      exact (hR.imp fun _ _ h => mono _ _ _ _ ((SameT.of e4).trans sx) h).app (All2.one (mono _ _ _ _ sx hr))
    · refine ⟨e.trans e4, ys, e4 D _ hy, ?_⟩
      rw [tk, List.filter_append, List.filter_cons_of_neg (by rw [pf]; decide), List.filter_nil, List.append_nil]
      exact hR.imp fun _ _ h => mono _ _ _ _ (SameT.of e4) h
  have fin : ∀ D H, H0 D = none → (Same H0 H ∧ ∃ ys, H D = some (.lst ys) ∧ All2 (R H) ys ((as.take xs.length).filter p)) → Qd D H := by
    rintro D H hD ⟨e, ys, hy, hR⟩
    rw [hx.len, List.take_length] at hR
    exact hd D H ys e hD hy hR
  refine ⟨a, rfl, ?_⟩
  rcases hq with hq | hq
  · exact .inl ⟨⟨xs, hq⟩, fun D hD => lc_list (xs := xs) (fun i H => Same H0 H ∧ ∃ ys, H D = some (.lst ys) ∧ All2 (R H) ys ((as.take i).filter p)) ⟨same_new hD, [], upd_same, by rw [List.take_zero]; exact .nil⟩ (fun i H _ h => same_l h.1 hq) (step D hD) fun H h => fin D H hD h⟩
  · exact .inr ⟨⟨xs, hq⟩, fun D hD => lc_tup (xs := xs) (fun i H => Same H0 H ∧ ∃ ys, H D = some (.lst ys) ∧ All2 (R H) ys ((as.take i).filter p)) ⟨same_new hD, [], upd_same, by rw [List.take_zero]; exact .nil⟩ (fun i H _ h => same_t h.1 hq) (step D hD) fun H h => fin D H hD h⟩
def insS (x : Str) : List Str → List Str
  | [] => [x]
  | y :: r => if ltCps x.cps.toList y.cps.toList = true then x :: y :: r else y :: insS x r
theorem insS_mem (x z : Str) : ∀ ys : List Str, z ∈ insS x ys ↔ z = x ∨ z ∈ ys
  | [] => by show z ∈ [x] ↔ _; rw [List.mem_singleton]; exact ⟨.inl, fun h => h.elim id (fun h => nomatch h)⟩
  | y :: r => by
    unfold insS
    by_cases c : ltCps x.cps.toList y.cps.toList = true
    · rw [if_pos c, List.mem_cons]
    · rw [if_neg c, List.mem_cons, insS_mem x z r, List.mem_cons, ← or_assoc, ← or_assoc, or_comm (a := z = y)]
theorem insS_nd (x : Str) : ∀ ys : List Str, x ∉ ys → ys.Nodup → (insS x ys).Nodup
  | [], _, _ => List.nodup_cons.mpr ⟨List.not_mem_nil, List.nodup_nil⟩
  | y :: r, hx, nd => by
    unfold insS
    obtain ⟨n1, n2⟩ := List.nodup_cons.mp nd
    by_cases c : ltCps x.cps.toList y.cps.toList = true
    · rw [if_pos c]; exact List.nodup_cons.mpr ⟨hx, nd⟩
    · rw [if_neg c]
      refine List.nodup_cons.mpr ⟨fun h => ?_, insS_nd x r (fun h => hx (List.mem_cons_of_mem _ h)) n2⟩
      rcases (insS_mem x y r).mp h with h | h
      · exact hx (h ▸ List.mem_cons_self)
      · exact n1 h
theorem insS_ris (x : Str) : ∀ (ys : List Str) (p : Str), ltCps x.cps.toList p.cps.toList = false → risingS p ys = true → risingS p (insS x ys) = true
  | [], p, h, _ => by
    show (!ltCps x.cps.toList p.cps.toList && true) = true
    rw [h] <;> rfl
  | y :: r, p, h, hr => by
    have h2 := Bool.and_eq_true_iff.mp (show (!ltCps y.cps.toList p.cps.toList && risingS y r) = true from hr)
    unfold insS
    by_cases c : ltCps x.cps.toList y.cps.toList = true
    · rw [if_pos c]
      show (!ltCps x.cps.toList p.cps.toList && (!ltCps y.cps.toList x.cps.toList && risingS y r)) = true
      have : ltCps y.cps.toList x.cps.toList = false := by
        rw [ltCps_eq] at c ⊢
        exact decide_eq_false fun d => List.lt_irrefl _ (List.lt_trans (of_decide_eq_true c) d)
      rw [h, this, h2.2] <;> rfl
    · rw [if_neg c]
      show (!ltCps y.cps.toList p.cps.toList && risingS y (insS x r)) = true
      rw [h2.1, insS_ris x r y (by simpa using c) h2.2] <;> rfl
theorem insS_sort (x : Str) : ∀ ys : List Str, sortedS ys = true → sortedS (insS x ys) = true
  | [], _ => rfl
  | y :: r, h => by
    unfold insS
    by_cases c : ltCps x.cps.toList y.cps.toList = true
    · rw [if_pos c]
      show (!ltCps y.cps.toList x.cps.toList && risingS y r) = true
      have : ltCps y.cps.toList x.cps.toList = false := by
        rw [ltCps_eq] at c ⊢
        exact decide_eq_false fun d => List.lt_irrefl _ (List.lt_trans (of_decide_eq_true c) d)
      have h : risingS y r = true := h
      rw [this, h] <;> rfl
    · rw [if_neg c]
      exact insS_ris x r y (by simpa using c) h
theorem sort_ex : ∀ xs : List Str, ∃ ys, IsSort xs ys
  | [] => ⟨[], rfl, List.nodup_nil, fun _ => Iff.rfl⟩
  | x :: r => by
    obtain ⟨ys, h1, h2, h3⟩ := sort_ex r
    by_cases c : x ∈ ys
    · exact ⟨ys, h1, h2, fun y => (h3 y).trans ⟨List.mem_cons_of_mem _, fun h => (List.mem_cons.mp h).elim (fun e => e ▸ (h3 x).mp c) id⟩⟩
    · exact ⟨insS x ys, insS_sort x ys h1, insS_nd x ys c h2, fun y => by rw [insS_mem, h3 y, List.mem_cons]⟩
theorem sortU_ok (xs : List Str) : IsSort xs (sortU xs) := by
  obtain ⟨ys, h⟩ := sort_ex xs
  exact sortU_is h
theorem sortU_mem {xs : List Str} {y : Str} : y ∈ sortU xs ↔ y ∈ xs := (sortU_ok xs).2.2 y
local macro_rules | `(tactic| walk_at "ss.") => `(tactic| ((with_reducible refine same_mutX (H := ?M) ?a ?n ?b); (case b => with_reducible assumption); (case n => walk_at "nn"); (case a => walk_at "ss")))
local macro_rules | `(tactic| walk_at "ss.") => `(tactic| ((with_reducible refine Same.trans (H1 := ?M) ?a ?b); (case b => with_reducible assumption); (case a => walk_at "ss")))
local macro_rules | `(tactic| walk_at "ss.") => `(tactic| with_reducible exact Same.refl _)
local macro_rules | `(tactic| walk_at "ss.") => `(tactic| with_reducible assumption)
local macro_rules | `(tactic| walk_at "ss") => `(tactic| first | walk_at "ss." | fail)
local macro_rules | `(tactic| walk_at "nn.") => `(tactic| ((with_reducible refine none_of (H' := ?M) ?e ?h); (case h => with_reducible assumption); (case e => walk_at "ss")))
local macro_rules | `(tactic| walk_at "nn.") => `(tactic| with_reducible assumption)
local macro_rules | `(tactic| walk_at "nn") => `(tactic| first | walk_at "nn." | fail)
local macro_rules | `(tactic| walk_at "lk.") => `(tactic| ((with_reducible refine same_look (H := ?M) ?e ?h); (case h => with_reducible assumption); (case e => walk_at "ss")))
local macro_rules | `(tactic| walk_at "lk.") => `(tactic| with_reducible assumption)
local macro_rules | `(tactic| walk_at "lk") => `(tactic| first | walk_at "lk." | fail)
local macro_rules | `(tactic| walk_at "hp.") => `(tactic| ((with_reducible refine PrAt.mono (H := ?M) ?e ?h); (case h => with_reducible assumption); (case e => walk_at "ss")))
local macro_rules | `(tactic| walk_at "hp.") => `(tactic| ((with_reducible refine RwAt.monoS (H := ?M) ?e ?h); (case h => with_reducible assumption); (case e => walk_at "ss")))
local macro_rules | `(tactic| walk_at "hp.") => `(tactic| ((with_reducible refine BkAt.monoS (H := ?M) ?e ?h); (case h => with_reducible assumption); (case e => walk_at "ss")))
local macro_rules | `(tactic| walk_at "hp.") => `(tactic| ((with_reducible refine FmAt.mono (H := ?M) ?e ?h); (case h => with_reducible assumption); (case e => walk_at "ss")))
local macro_rules | `(tactic| walk_at "hp.") => `(tactic| ((with_reducible refine sq_l (H := ?M) ?e ?h); (case h => with_reducible assumption); (case e => walk_at "ss")))
local macro_rules | `(tactic| walk_at "hp.") => `(tactic| ((with_reducible refine sq_t (H := ?M) ?e ?h); (case h => with_reducible assumption); (case e => walk_at "ss")))
local macro_rules | `(tactic| walk_at "hp.") => `(tactic| ((with_reducible refine same_l (H := ?M) ?e ?h); (case h => with_reducible assumption); (case e => walk_at "ss")))
local macro_rules | `(tactic| walk_at "hp.") => `(tactic| ((with_reducible refine same_t (H := ?M) ?e ?h); (case h => with_reducible assumption); (case e => walk_at "ss")))
local macro_rules | `(tactic| walk_at "hp.") => `(tactic| walk_at "lk")
local macro_rules | `(tactic| walk_at "hp.") => `(tactic| with_reducible assumption)
local macro_rules | `(tactic| walk_at "hp") => `(tactic| first | walk_at "hp." | fail)
local macro_rules | `(tactic| walk_at "gx1.") => `(tactic| ((with_reducible refine w_yes ?e ?_); (case e => (simp only [eq_self_iff_true, decide_true, Bool.not_false]; done))))
local macro_rules | `(tactic| walk_at "gx1.") => `(tactic| ((with_reducible refine w_no ?e ?_); (case e => (simp only [eq_self_iff_true, decide_true, Bool.not_true]; done))))
local macro_rules | `(tactic| walk_at "gx1.") => `(tactic| walk_at "go1")
local macro_rules | `(tactic| walk_at "gx1.") => `(tactic| ((with_reducible refine w_gTup (xs := ?xs) ?h ?l ?_); (case h => walk_at "hp"); (case l => rfl)))
local macro_rules | `(tactic| walk_at "gx1.") => `(tactic| ((with_reducible refine w_lenT (xs := ?xs) ?h ?_); (case h => walk_at "hp")))
local macro_rules | `(tactic| walk_at "gx1.") => `(tactic| ((with_reducible refine w_lenL (xs := ?xs) ?h ?_); (case h => walk_at "hp")))
local macro_rules | `(tactic| walk_at "gx1.") => `(tactic| ((with_reducible refine w_bmL (xs := ?xs) ?h ?_); (case h => walk_at "hp")))
local macro_rules | `(tactic| walk_at "gx1.") => `(tactic| ((with_reducible refine w_ixL (xs := ?xs) (v := ?v) ?h ?e ?_); (case h => walk_at "hp"); (case e => rfl)))
local macro_rules | `(tactic| walk_at "gx1.") => `(tactic| ((with_reducible refine w_ixT (xs := ?xs) (v := ?v) ?h ?e ?_); (case h => walk_at "hp"); (case e => rfl)))
local macro_rules | `(tactic| walk_at "gx1.") => `(tactic| ((with_reducible refine w_nw ?z (fun p H2 hn he hp => ?_)); (case z => walk_at "sz")))
local macro_rules | `(tactic| walk_at "gx1.") => `(tactic| with_reducible refine w_tup' ?_)
local macro_rules | `(tactic| walk_at "gx1.") => `(tactic| with_reducible refine w_lst' ?_)
local macro_rules | `(tactic| walk_at "gx1") => `(tactic| first | walk_at "gx1." | fail)
local macro_rules | `(tactic| walk_at "gx") => `(tactic| repeat walk_at "gx1")
local macro_rules | `(tactic| walk_at "gxn") => `(tactic| repeat ((fail_if_success (with_reducible refine w_next ?_)); walk_at "gx1"))
theorem BkAt.take {K : PySem.W.Frag} {S : SQ} {H : Hp} : ∀ {vs : List V} {l : List Rw} (n : Nat), BkAt K S H vs l → BkAt K S H (vs.take n) (l.take n)
  | _, _, 0, _ => .nil
  | _, _, _ + 1, .nil => .nil
  | _, _, n + 1, .cons h t => .cons h (t.take n)
theorem w_slC' {K : PySem.W.Frag} {H : Hp} {Q : VK} {a : Addr} {ns : List Int} (h : SqL K H a (ns.map V.int)) (lo hi : Option Int) (q : ∀ p H' cs, H p = none → Same H H' → H' p = some (.lst (cs.map V.int)) → List.Sublist cs ns → Q (.ref p) H') : rSl K (.ref a) lo hi H Q :=
  w_slL' h fun p H' hp e hp2 => by
    obtain ⟨cs, e2, s⟩ := cut_map (f := V.int) (xs := ns) lo hi
    rw [e2] at hp2
    exact q p H' cs hp e hp2 s
theorem tell_is (r : Rw) : decide (r.word = ("tell" : Str)) = (match r with | .tell _ => true | _ => false) := by
  cases r with
  | set x f => exact (show decide (("set" : Str) = "tell") = false by decide +kernel)
  | tell f => exact (show decide (("tell" : Str) = "tell") = true by decide +kernel)
  | skip => decide +kernel
  | ite f a b => exact (show decide (("if" : Str) = "tell") = false by decide +kernel)
  | whl f a => exact (show decide (("while" : Str) = "tell") = false by decide +kernel)
theorem while_is (r : Rw) : decide (r.word = ("while" : Str)) = (match r with | .whl _ _ => true | _ => false) := by
  cases r with
  | set x f => exact (show decide (("set" : Str) = "while") = false by decide +kernel)
  | tell f => exact (show decide (("tell" : Str) = "while") = false by decide +kernel)
  | skip => decide +kernel
  | ite f a b => exact (show decide (("if" : Str) = "while") = false by decide +kernel)
  | whl f a => exact (show decide (("while" : Str) = "while") = true by decide +kernel)
theorem skip_is (r : Rw) : decide (r.word = ("skip" : Str)) = (match r with | .skip => true | _ => false) := by
  cases r with
  | set x f => exact (show decide (("set" : Str) = "skip") = false by decide +kernel)
  | tell f => exact (show decide (("tell" : Str) = "skip") = false by decide +kernel)
  | skip => decide +kernel
  | ite f a b => exact (show decide (("if" : Str) = "skip") = false by decide +kernel)
  | whl f a => exact (show decide (("while" : Str) = "skip") = false by decide +kernel)
structure MS where
  g : Str → Int
  turns : Nat
  said : List Int
def setG (g : Str → Int) (x : Str) (v : Int) : Str → Int := fun y => if y = x then v else g y
def items (k : Nat) (A : List Str) : List Rw → List Ent
  | [] => []
  | r :: l => (k, r, A) :: items (k + r.size) A l
theorem items_app (k : Nat) (A : List Str) (m : List Rw) : ∀ l : List Rw, items k A (l ++ m) = items k A l ++ items (k + szs l) A m
  | [] => by show items k A m = [] ++ items (k + 0) A m; rw [Nat.add_zero, List.nil_append]
  | r :: l => by
    show (k, r, A) :: items (k + r.size) A (l ++ m) = (k, r, A) :: (items (k + r.size) A l ++ items (k + (r.size + szs l)) A m)
    rw [items_app (k + r.size) A m l, Nat.add_assoc]
/-- one step of the row on top: what is on top then, or how the run stops -/
def stp (k : Nat) (A : List Str) (R : List Ent) (s : MS) : Rw → (List Ent × MS) ⊕ Str
  | .skip => .inl (R, s)
  | .set x f => match f.reck s.g with
    | none => .inr "nought"
    | some v => .inl (R, { s with g := setG s.g x v })
  | .tell f => match f.reck s.g with
    | none => .inr "nought"
    | some v => .inl (R, { s with said := s.said ++ [v] })
  | .ite f a b => match f.reck s.g with
    | none => .inr "nought"
    | some v => if v = 0 then .inl (items (k + 1 + szs a) (A ++ f.names) b ++ R, s) else .inl (items (k + 1) (A ++ f.names) a ++ R, s)
  | .whl f a => match f.reck s.g with
    | none => .inr "nought"
    | some v => if v = 0 then .inl (R, s) else if s.turns = 0 then .inr "tired" else .inl (items (k + 1) (A ++ f.names) a ++ (k, .whl f a, A) :: R, { s with turns := s.turns - 1 })
/-- how a run ends, in so many steps -/
inductive MvN : Nat → List Ent → MS → Str → Nat → MS → Prop where
  | done {s : MS} : MvN 0 [] s "done" 0 s
  | out {e : Ent} {R : List Ent} {s : MS} {w : Str} (h : stp e.1 e.2.2 R s e.2.1 = .inr w) : MvN 1 (e :: R) s w e.1 s
  | next {n k : Nat} {e : Ent} {R R' : List Ent} {s s' t : MS} {w : Str} (h : stp e.1 e.2.2 R s e.2.1 = .inl (R', s')) (m : MvN n R' s' w k t) : MvN (n + 1) (e :: R) s w k t
/-- from the rows I on top on: they are done, or the run stops in them -/
def Ran (I : List Ent) (s : MS) (c : Bool) (w : Str) (r : Nat) (s' : MS) : Prop :=
  (c = true ∧ w = "done" ∧ r = 0 ∧ ∀ R n w k t, MvN n R s' w k t → ∃ m, MvN m (I ++ R) s w k t) ∨ (c = false ∧ ∀ R, ∃ m, MvN m (I ++ R) s w r s')
theorem Ran.nil (s : MS) : Ran [] s true "done" 0 s := .inl ⟨rfl, rfl, rfl, fun _ n _ _ _ h => ⟨n, h⟩⟩
theorem Ran.seq {I J : List Ent} {s s1 s2 : MS} {c : Bool} {w : Str} {r : Nat} (h : Ran I s true "done" 0 s1) (h2 : Ran J s1 c w r s2) : Ran (I ++ J) s c w r s2 := by
  rcases h with ⟨_, _, _, h⟩ | ⟨h, _⟩
  · rcases h2 with ⟨a1, a2, a3, h2⟩ | ⟨a1, h2⟩
    · refine .inl ⟨a1, a2, a3, fun R n w k t m => ?_⟩
      obtain ⟨m1, g1⟩ := h2 R n w k t m
      obtain ⟨m2, g2⟩ := h (J ++ R) m1 w k t g1
      exact ⟨m2, by rw [List.append_assoc]; exact g2⟩
    · refine .inr ⟨a1, fun R => ?_⟩
      obtain ⟨m1, g1⟩ := h2 R
      obtain ⟨m2, g2⟩ := h (J ++ R) m1 _ _ _ g1
      exact ⟨m2, by rw [List.append_assoc]; exact g2⟩
  · exact nomatch h
theorem Ran.more {I J : List Ent} {s s1 : MS} {w : Str} {r : Nat} (h : Ran I s false w r s1) : Ran (I ++ J) s false w r s1 := by
  rcases h with ⟨h, _⟩ | ⟨_, h⟩
  · exact nomatch h
  · exact .inr ⟨rfl, fun R => by
      obtain ⟨m, g⟩ := h (J ++ R)
      exact ⟨m, by rw [List.append_assoc]; exact g⟩⟩
/-- one row, one step, then J -/
theorem Ran.step {e : Ent} {J : List Ent} {s s1 s2 : MS} {c : Bool} {w : Str} {r : Nat} (h : ∀ R, stp e.1 e.2.2 R s e.2.1 = .inl (J ++ R, s1)) (h2 : Ran J s1 c w r s2) : Ran [e] s c w r s2 := by
  rcases h2 with ⟨a1, a2, a3, h2⟩ | ⟨a1, h2⟩
  · refine .inl ⟨a1, a2, a3, fun R n w k t m => ?_⟩
    obtain ⟨m1, g1⟩ := h2 R n w k t m
    exact ⟨m1 + 1, .next (h R) g1⟩
  · refine .inr ⟨a1, fun R => ?_⟩
    obtain ⟨m1, g1⟩ := h2 R
    exact ⟨m1 + 1, .next (h R) g1⟩
theorem Ran.stop {e : Ent} {s : MS} {w : Str} (h : ∀ R, stp e.1 e.2.2 R s e.2.1 = .inr w) : Ran [e] s false w e.1 s := .inr ⟨rfl, fun R => ⟨1, .out (h R)⟩⟩
def kvN (ns : List Str) (g : Str → Int) : List (Key × V) := ns.map fun x => (.inr x, .int (g x))
theorem kvN_at {g : Str → Int} {x : Str} : ∀ {ns : List Str}, x ∈ ns → valV (kvN ns g) (.inr x) = some (.int (g x))
  | y :: r, h => by
    by_cases e : y = x
    · subst e
      exact valV_pos (p := (Sum.inr y, V.int (g y))) rfl
    · have hx : x ∈ r := (List.mem_cons.mp h).resolve_left fun z => e z.symm
      exact (valV_neg (p := ((Sum.inr y : Key), V.int (g y))) (fun z => e (Sum.inr.inj z))).trans (kvN_at hx)
theorem kvN_keys {g : Str → Int} {ns : List Str} : (kvN ns g).map (·.1) = ns.map Sum.inr := by
  rw [kvN, List.map_map] <;> rfl
theorem kvN_put {g : Str → Int} {ns : List Str} {x : Str} {v : Int} (h : x ∈ ns) : putK (kvN ns g) (.inr x) (.int v) = kvN ns (setG g x v) := by
  unfold putK
  have : (kvN ns g).any (fun kv => decide (kv.1 = .inr x)) = true := List.any_eq_true.mpr ⟨(.inr x, .int (g x)), List.mem_map.mpr ⟨x, h, rfl⟩, decide_eq_true rfl⟩
  rw [if_pos this]
  unfold kvN
  rw [List.map_map]
  refine List.map_congr_left fun y _ => ?_
  show (if (Sum.inr y : Key) = .inr x then ((Sum.inr y : Key), V.int v) else (.inr y, .int (g y))) = (.inr y, .int (setG g x v y))
  unfold setG
  by_cases e : y = x
  · rw [if_pos (by rw [e]), if_pos e]
  · rw [if_neg (fun z => e (Sum.inr.inj z)), if_neg e]
abbrev as_Runner : List Str := ["numbers", "turns", "said", "way", "row"]
def rnF (D : Addr) (t : Nat) (L : Addr) (w : Str) (r : Nat) : List (Str × V) := [("numbers", .ref D), ("turns", .int (t : Nat)), ("said", .ref L), ("way", .str w), ("row", .int (r : Nat))]
structure RnIn (K : PySem.W.Frag) (H : Hp) (a D L C dx : Addr) (nl : List Str) (s : MS) (w : Str) (r : Nat) : Prop where
  ha : H a = some (.ins C dx (rnF D s.turns L w r))
  cc : CC K "Runner" as_Runner C
  hD : H D = some (.dK (kvN nl s.g))
  hL : H L = some (.lst (s.said.map V.int))
def SameR (a D L : Addr) (H H' : Hp) : Prop := ∀ x u, x ≠ a → x ≠ D → x ≠ L → H x = some u → H' x = some u
theorem SameR.refl (a D L : Addr) (H : Hp) : SameR a D L H H := fun _ _ _ _ _ h => h
theorem SameR.of {a D L : Addr} {H H' : Hp} (e : Same H H') : SameR a D L H H' := fun x u _ _ _ h => e x u h
theorem SameR.trans {a D L : Addr} {H H1 H2 : Hp} (h : SameR a D L H H1) (h2 : SameR a D L H1 H2) : SameR a D L H H2 := fun x u n1 n2 n3 q => h2 x u n1 n2 n3 (h x u n1 n2 n3 q)
theorem RnIn.ne {K : PySem.W.Frag} {H : Hp} {a D L C dx : Addr} {nl : List Str} {s : MS} {w : Str} {r : Nat} (h : RnIn K H a D L C dx nl s w r) : a ≠ D ∧ a ≠ L ∧ D ≠ L :=
  ⟨fun e => by have := h.ha; rw [e, h.hD] at this; exact (nomatch this), fun e => by have := h.ha; rw [e, h.hL] at this; exact (nomatch this), fun e => by have := h.hD; rw [e, h.hL] at this; exact (nomatch this)⟩
theorem RnIn.mono {K : PySem.W.Frag} {H H' : Hp} {a D L C dx : Addr} {nl : List Str} {s : MS} {w : Str} {r : Nat} (e : Same H H') (h : RnIn K H a D L C dx nl s w r) : RnIn K H' a D L C dx nl s w r := ⟨e _ _ h.ha, h.cc, e _ _ h.hD, e _ _ h.hL⟩
theorem RnIn.dat {K : PySem.W.Frag} {H : Hp} {a D L C dx : Addr} {nl : List Str} {s : MS} {w : Str} {r : Nat} (h : RnIn K H a D L C dx nl s w r) {ns : List Str} (hn : ∀ x ∈ ns, x ∈ nl) : DAt H D ns s.g := ⟨_, h.hD, fun x hx => kvN_at (hn x hx)⟩
def sp_Runner___init__ (K : PySem.W.Frag) : Sp := fun vs H Q _ => ∃ (p D C dx : Addr) (nl : List Str) (g : Str → Int) (t : Nat), vs = [.ref p, .ref D, .int (t : Nat)] ∧ H p = some (.ins C dx []) ∧ CC K "Runner" as_Runner C ∧ H D = some (.dK (kvN nl g)) ∧
  ∀ (H' : Hp) (L : Addr), SameX p H H' → H L = none → RnIn K H' p D L C dx nl ⟨g, t, []⟩ "done" 0 → Q .non H'
def sp_Runner_stops (K : PySem.W.Frag) : Sp := fun vs H Q _ => ∃ (a D L C dx : Addr) (nl : List Str) (s : MS) (w0 w : Str) (r0 r : Nat), vs = [.ref a, .str w, .int (r : Nat)] ∧ RnIn K H a D L C dx nl s w0 r0 ∧
  ∀ H', RnIn K H' a D L C dx nl s w r → SameR a D L H H' → SameT H H' → Q (.bl false) H'
/-- what may be asked of a run ahead of rows, and what is told behind -/
structure RnPre (nl ns : List Str) (s : MS) (z : Nat) : Prop where
  sub : ∀ x ∈ ns, x ∈ nl
  in6 : ∀ x ∈ nl, In6 (s.g x)
  nll : nl.length ≤ 1000
  most : s.said.length + z + s.turns * 1000 ≤ 3000000
structure RnPost (nl : List Str) (s s' : MS) (z : Nat) : Prop where
  in6 : ∀ x ∈ nl, In6 (s'.g x)
  turns : s'.turns ≤ s.turns
  said : s'.said.length ≤ s.said.length + z + (s.turns - s'.turns) * 1000
def RnQ (K : PySem.W.Frag) (H : Hp) (a D L C dx : Addr) (nl : List Str) (s : MS) (z : Nat) (I : List Ent) (Q : VK) : Prop :=
  ∀ (H' : Hp) (c : Bool) (w : Str) (r : Nat) (s' : MS), RnIn K H' a D L C dx nl s' w r → SameR a D L H H' → SameT H H' → RnPost nl s s' z → Ran I s c w r s' → Q (.bl c) H'
def sp_gone (K : PySem.W.Frag) (n : Nat) : Sp := fun vs H Q _ => ∃ (a D L C dx bl : Addr) (xs : List V) (b : List Rw) (k : Nat) (A nl ns : List Str) (s : MS), vs = [.ref a, .ref bl, .int (k : Nat)] ∧ RnIn K H a D L C dx nl s "done" 0 ∧ SqT K H bl xs ∧ BkAt K (SqT K) H xs b ∧ oks ns b ∧
  nests b ≤ n ∧ nests b ≤ 8 ∧ szs b ≤ 1000 ∧ RnPre nl ns s (szs b) ∧ RnQ K H a D L C dx nl s (szs b) (items k A b) Q
def sp_turned (K : PySem.W.Frag) (n : Nat) : Sp := fun vs H Q _ => ∃ (a D L C dx : Addr) (v : V) (f : Fm) (b : List Rw) (k : Nat) (A nl ns : List Str) (s : MS), vs = [.ref a, v, .int (k : Nat)] ∧ RnIn K H a D L C dx nl s "done" 0 ∧ RwAt K (SqT K) H v (.whl f b) ∧ (Rw.whl f b).ok ns ∧
  (Rw.whl f b).nest ≤ n ∧ (Rw.whl f b).nest ≤ 8 ∧ (Rw.whl f b).size ≤ 1000 ∧ RnPre nl ns s 0 ∧ RnQ K H a D L C dx nl s 0 [(k, .whl f b, A)] Q
def sp_stepped (K : PySem.W.Frag) (n : Nat) : Sp := fun vs H Q _ => ∃ (a D L C dx : Addr) (v : V) (r : Rw) (k : Nat) (A nl ns : List Str) (s : MS), vs = [.ref a, v, .int (k : Nat)] ∧ RnIn K H a D L C dx nl s "done" 0 ∧ RwAt K (SqT K) H v r ∧ r.ok ns ∧
  r.nest ≤ n ∧ r.nest ≤ 8 ∧ r.size ≤ 1000 ∧ RnPre nl ns s r.size ∧ RnQ K H a D L C dx nl s r.size [(k, r, A)] Q
abbrev N_Runner___init__ : List Str := ["self", "values", "turns"]
noncomputable def t_Runner___init__ (K : PySem.W.Frag) : TS :=
  (tSeq (sFld K (tVar 0) (tVar 1) "numbers") (tSeq (sFld K (tVar 0) (tVar 2) "turns") (tSeq (sFld K (tVar 0) (tLst tNil) "said") (tSeq (sFld K (tVar 0) (tC (.str "done")) "way") (sFld K (tVar 0) (tC (.int 0)) "row")))))
abbrev N_Runner_stops : List Str := ["self", "way", "number"]
noncomputable def t_Runner_stops (K : PySem.W.Frag) : TS :=
  (tSeq (sFld K (tVar 0) (tVar 1) "way") (tSeq (sFld K (tVar 0) (tVar 2) "row") (tRet (tC (.bl false)))))
abbrev N_turned : List Str := ["runner", "row", "number", "value"]
noncomputable def t_turned (K : PySem.W.Frag) (n : Nat) : TS :=
  (tWhile (tB (tC (.bl true))) (tSeq (tAsg (tF (sp_reckoned K 18) (tCons (tOp (rIx K) (tVar 1) (tC (.int 1))) (tCons (tFld K (tVar 0) "numbers") tNil))) (gName 3)) (tSeq (tIfS (tTest (tOp (rIsN2 false) (tVar 3) (tC .non))) (tRet (tM K "Runner" as_Runner "stops" (sp_Runner_stops K) (tVar 0) (tCons (tC (.str "nought")) (tCons (tVar 2) tNil)))) tNext) (tSeq (tIfS (tTest (tOp (rEq2 K) (tVar 3) (tC (.int 0)))) (tRet (tC (.bl true))) tNext) (tSeq (tIfS (tTest (tOp (rEq2 K) (tFld K (tVar 0) "turns") (tC (.int 0)))) (tRet (tM K "Runner" as_Runner "stops" (sp_Runner_stops K) (tVar 0) (tCons (tC (.str "tired")) (tCons (tVar 2) tNil)))) tNext) (tSeq (sFld K (tVar 0) (tOp rSub (tFld K (tVar 0) "turns") (tC (.int 1))) "turns") (tIfS (tNot (tB (tF (sp_gone K n) (tCons (tVar 0) (tCons (tOp (rIx K) (tVar 1) (tC (.int 2))) (tCons (tOp (rAdd K) (tVar 2) (tC (.int 1))) tNil)))))) (tRet (tC (.bl false))) tNext)))))))
abbrev N_stepped : List Str := ["runner", "row", "number", "value"]
noncomputable def t_stepped_j1 (K : PySem.W.Frag) (n : Nat) : TS :=
  (tRet (tC (.bl true)))
noncomputable def t_stepped (K : PySem.W.Frag) (n : Nat) : TS :=
  (tSeq (tIfS (tTest (tOp (rEq2 K) (tOp (rIx K) (tVar 1) (tC (.int 0))) (tC (.str "skip")))) (tRet (tC (.bl true))) tNext) (tSeq (tIfS (tTest (tOp (rEq2 K) (tOp (rIx K) (tVar 1) (tC (.int 0))) (tC (.str "while")))) (tRet (tF (sp_turned K (n + 1)) (tCons (tVar 0) (tCons (tVar 1) (tCons (tVar 2) tNil))))) tNext) (tSeq (tAsg (tF (sp_reckoned K 18) (tCons (tF (sp_formula_of K) (tCons (tVar 1) tNil)) (tCons (tFld K (tVar 0) "numbers") tNil))) (gName 3)) (tSeq (tIfS (tTest (tOp (rIsN2 false) (tVar 3) (tC .non))) (tRet (tM K "Runner" as_Runner "stops" (sp_Runner_stops K) (tVar 0) (tCons (tC (.str "nought")) (tCons (tVar 2) tNil)))) tNext) (tSeq (tIfS (tTest (tOp (rEq2 K) (tOp (rIx K) (tVar 1) (tC (.int 0))) (tC (.str "set")))) (sDPut (tFld K (tVar 0) "numbers") (tOp (rIx K) (tVar 1) (tC (.int 1))) (tVar 3)) (tIfS (tTest (tOp (rEq2 K) (tOp (rIx K) (tVar 1) (tC (.int 0))) (tC (.str "tell")))) (tDrop (tBM K "list" rAppend (tFld K (tVar 0) "said") (tCons (tVar 3) tNil))) (tIfS (tTest (tOp (rNe2 K) (tVar 3) (tC (.int 0)))) (tRet (tF (sp_gone K n) (tCons (tVar 0) (tCons (tOp (rIx K) (tVar 1) (tC (.int 2))) (tCons (tOp (rAdd K) (tVar 2) (tC (.int 1))) tNil))))) (tRet (tF (sp_gone K n) (tCons (tVar 0) (tCons (tOp (rIx K) (tVar 1) (tC (.int 3))) (tCons (tOp (rAdd K) (tOp (rAdd K) (tVar 2) (tC (.int 1))) (tF (sp_many_in K 8) (tCons (tOp (rIx K) (tVar 1) (tC (.int 2))) tNil))) tNil)))))))) (t_stepped_j1 K n))))))
abbrev N_gone : List Str := ["runner", "block", "number", "row"]
noncomputable def t_gone (K : PySem.W.Frag) (n : Nat) : TS :=
  (tSeq (tFor (iSeq K (tVar 1)) (gName 3) (tSeq (tIfS (tNot (tB (tF (sp_stepped K n) (tCons (tVar 0) (tCons (tVar 3) (tCons (tVar 2) tNil)))))) (tRet (tC (.bl false))) tNext) (tAsg (tOp (rAdd K) (tVar 2) (tF (sp_size_of K 8) (tCons (tVar 3) tNil))) (gName 2)))) (tRet (tC (.bl true))))
theorem putF_le (f : Str) (y : V) : ∀ fs : List (Str × V), (putF f y fs).length ≤ fs.length + 1
  | [] => Nat.le_refl _
  | p :: r => by
    have := putF_le f y r
    unfold putF
    split <;> simp only [List.length_cons] <;> omega
theorem no_stepped {K : PySem.W.Frag} : ∀ vs H Q E, ¬ sp_stepped K 0 vs H Q E := by
  rintro vs H Q E ⟨a, D, L, C, dx, v, r, k, A, nl, ns, s, _, _, _, _, h, _⟩
  have := nest_pos r
  omega
theorem pl5 {n : Nat} (h : n ≤ 4) : n < 1000 := by omega
theorem pure_Runner___init__ (K : PySem.W.Frag) (vs : List V) (H : Hp) (Q : VK) (E : XK) (h : sp_Runner___init__ K vs H Q E) :
    t_Runner___init__ K { nx := fun _ H' => Q .non H', rt := Q } (start N_Runner___init__ vs) H := by
  obtain ⟨p, D, C, dx, nl, g, t, rfl, hp, cc, hD, q⟩ := h
  have pD : p ≠ D := fun e => by rw [e, hD] at hp; exact nomatch hp
  unfold t_Runner___init__
  walk_at "gx"
  refine w_sfldAt hp cc (by simp) (by simp) ?_
  have x1 : SameX p H (upd H p (.ins C dx (putF "numbers" (.ref D) []))) := SameX.upd
  have h1 : upd H p (.ins C dx (putF "numbers" (.ref D) [])) p = _ := upd_same
  generalize upd H p (.ins C dx (putF "numbers" (.ref D) [])) = H1 at x1 h1
  walk_at "gx"
  refine w_sfldAt h1 cc (by simp) (pl5 (by (repeat (refine Nat.le_trans (putF_le _ _ _) (Nat.succ_le_succ ?_))); exact Nat.zero_le _)) ?_
  have x2 := x1.trans (SameX.upd (p := p) (H := H1) (o := .ins C dx (putF "turns" (.int (t : Nat)) (putF "numbers" (.ref D) []))))
  have h2 : upd H1 p (.ins C dx (putF "turns" (.int (t : Nat)) (putF "numbers" (.ref D) []))) p = _ := upd_same
  generalize upd H1 p (.ins C dx (putF "turns" (.int (t : Nat)) (putF "numbers" (.ref D) []))) = H2 at x2 h2
  walk_at "gx"
  rename_i L H3 nL e3 hL
  have h3 := e3 _ _ h2
  have pL : p ≠ L := ne_of_none h2 nL
  have L0 : H L = none := by
    cases c : H L with
    | none => rfl
    | some u => rw [x2 L u pL.symm c] at nL; exact nomatch nL
  refine w_sfldAt h3 cc (by simp) (pl5 (by (repeat (refine Nat.le_trans (putF_le _ _ _) (Nat.succ_le_succ ?_))); exact Nat.zero_le _)) ?_
  have x4 := (x2.trans (.of e3)).trans (SameX.upd (p := p) (H := H3) (o := .ins C dx (putF "said" (.ref L) (putF "turns" (.int (t : Nat)) (putF "numbers" (.ref D) [])))))
  have h4 : upd H3 p (.ins C dx (putF "said" (.ref L) (putF "turns" (.int (t : Nat)) (putF "numbers" (.ref D) [])))) p = _ := upd_same
  have l4 : upd H3 p (.ins C dx (putF "said" (.ref L) (putF "turns" (.int (t : Nat)) (putF "numbers" (.ref D) [])))) L = some (.lst []) := by rw [upd_ne pL.symm]; exact hL
  generalize upd H3 p (.ins C dx (putF "said" (.ref L) (putF "turns" (.int (t : Nat)) (putF "numbers" (.ref D) [])))) = H4 at x4 h4 l4
  walk_at "gx"
  refine w_sfldAt h4 cc (by simp) (pl5 (by (repeat (refine Nat.le_trans (putF_le _ _ _) (Nat.succ_le_succ ?_))); exact Nat.zero_le _)) ?_
  have x5 := x4.trans (SameX.upd (p := p) (H := H4) (o := .ins C dx (putF "way" (.str "done") (putF "said" (.ref L) (putF "turns" (.int (t : Nat)) (putF "numbers" (.ref D) []))))))
  have h5 : upd H4 p (.ins C dx (putF "way" (.str "done") (putF "said" (.ref L) (putF "turns" (.int (t : Nat)) (putF "numbers" (.ref D) []))))) p = _ := upd_same
  have l5 : upd H4 p (.ins C dx (putF "way" (.str "done") (putF "said" (.ref L) (putF "turns" (.int (t : Nat)) (putF "numbers" (.ref D) []))))) L = some (.lst []) := by rw [upd_ne pL.symm]; exact l4
  generalize upd H4 p (.ins C dx (putF "way" (.str "done") (putF "said" (.ref L) (putF "turns" (.int (t : Nat)) (putF "numbers" (.ref D) []))))) = H5 at x5 h5 l5
  walk_at "gx"
  refine w_sfldAt h5 cc (by simp) (pl5 (by (repeat (refine Nat.le_trans (putF_le _ _ _) (Nat.succ_le_succ ?_))); exact Nat.zero_le _)) ?_
  have x6 := x5.trans (SameX.upd (p := p) (H := H5) (o := .ins C dx (rnF D t L "done" 0)))
  exact q _ L x6 L0 ⟨upd_same, cc, x6 _ _ pD.symm hD, by rw [upd_ne pL.symm]; exact l5⟩
theorem RnIn.seta {K : PySem.W.Frag} {H : Hp} {a D L C dx : Addr} {nl : List Str} {s : MS} {w w' : Str} {r r' : Nat} {t : Nat} (h : RnIn K H a D L C dx nl s w r) :
    RnIn K (upd H a (.ins C dx (rnF D t L w' r'))) a D L C dx nl { s with turns := t } w' r' ∧ SameR a D L H (upd H a (.ins C dx (rnF D t L w' r'))) ∧ SameT H (upd H a (.ins C dx (rnF D t L w' r'))) := by
  obtain ⟨n1, n2, _⟩ := h.ne
  exact ⟨⟨upd_same, h.cc, by rw [upd_ne n1.symm]; exact h.hD, by rw [upd_ne n2.symm]; exact h.hL⟩, fun x u nx _ _ hx => by rw [upd_ne nx]; exact hx, SameT.upd h.ha rfl⟩
theorem pure_Runner_stops (K : PySem.W.Frag) (vs : List V) (H : Hp) (Q : VK) (E : XK) (h : sp_Runner_stops K vs H Q E) :
    t_Runner_stops K { nx := fun _ H' => Q .non H', rt := Q } (start N_Runner_stops vs) H := by
  obtain ⟨a, D, L, C, dx, nl, s, w0, w, r0, r, rfl, hR, q⟩ := h
  unfold t_Runner_stops
  walk_at "gx"
  refine w_sfldAt hR.ha hR.cc (by simp) (by simp [rnF]) ?_
  have s1 := hR.seta (w' := w) (r' := r0) (t := s.turns)
  have e1 : upd H a (.ins C dx (putF "way" (.str w) (rnF D s.turns L w0 r0))) = upd H a (.ins C dx (rnF D s.turns L w r0)) := rfl
  rw [e1]
  generalize upd H a (.ins C dx (rnF D s.turns L w r0)) = H1 at s1
  walk_at "gx"
  refine w_sfldAt s1.1.ha hR.cc (by simp) (by simp [rnF]) ?_
  have s2 := s1.1.seta (w' := w) (r' := r) (t := s.turns)
  have e2 : upd H1 a (.ins C dx (putF "row" (.int (r : Nat)) (rnF D s.turns L w r0))) = upd H1 a (.ins C dx (rnF D s.turns L w r)) := rfl
  walk_at "gx"
  exact q _ s2.1 (s1.2.1.trans s2.2.1) (s1.2.2.trans s2.2.2)
theorem bk_all2 {K : PySem.W.Frag} {S : SQ} {H : Hp} : ∀ {vs : List V} {l : List Rw}, BkAt K S H vs l → All2 (RwAt K S H) vs l
  | _, _, .nil => .nil
  | _, _, .cons h t => .cons h (bk_all2 t)
theorem for_at {α : Type} {K : PySem.W.Frag} {a : Addr} {xs : List V} {as : List α} {P : V → α → Prop} {g : TG} {tb : TS} {D : Ends} {σ : L2.St} {Hb H0 : Hp} (Pv : List α → L2.St → Hp → Prop) (hq : SqT K Hb a xs) (hx : All2 P xs as) (h0 : Pv [] σ H0) (hl : ∀ pre σ H, Pv pre σ H → SameT Hb H)
    (hs : ∀ pre x post v σ H, as = pre ++ x :: post → P v x → Pv pre σ H → g v σ H fun σ2 H2 => tb { D with nx := Pv (pre ++ [x]), ct := Pv (pre ++ [x]), bk := D.nx } σ2 H2) (hd : ∀ σ H, Pv as σ H → D.nx σ H) :
    ∃ b, V.ref a = .ref b ∧ (((∃ xs, SqL K H0 b xs) ∧ ∃ W : Nat → Nat → L2.St → Hp → Prop, (∃ m, W 0 m σ H0) ∧ ∀ i m σ H, W i m σ H →
      ((Itl K b).stop i H ∧ D.nx σ H) ∨ ((Itl K b).go i H ∧ ∃ N : L2.St → Hp → Prop, (∀ σ' H', N σ' H' → ∃ m', m' < m ∧ W (i + 1) m' σ' H') ∧ ∀ x H', (Itl K b).yld i H x H' → g x σ H' fun σ2 H2 => tb { D with nx := N, ct := N, bk := D.nx } σ2 H2)) ∨
      ((∃ xs, SqT K H0 b xs) ∧ ∃ W : Nat → Nat → L2.St → Hp → Prop, (∃ m, W 0 m σ H0) ∧ ∀ i m σ H, W i m σ H →
      ((Itt K b).stop i H ∧ D.nx σ H) ∨ ((Itt K b).go i H ∧ ∃ N : L2.St → Hp → Prop, (∀ σ' H', N σ' H' → ∃ m', m' < m ∧ W (i + 1) m' σ' H') ∧ ∀ x H', (Itt K b).yld i H x H' → g x σ H' fun σ2 H2 => tb { D with nx := N, ct := N, bk := D.nx } σ2 H2))) := by
  refine ⟨a, rfl, .inr ⟨⟨xs, sameT_t (hl _ σ H0 h0) hq⟩, for_tup (xs := xs) (fun i => Pv (as.take i)) (by rw [List.take_zero]; exact h0) (fun i σ H _ p => sameT_t (hl _ σ H p) hq) ?_ ?_⟩⟩
  · intro i x σ H e p
    obtain ⟨y, e1, e2, r⟩ := hx.split e
    rw [e2]
    exact hs _ y _ x σ H e1 r p
  · intro σ H p
    rw [hx.len, List.take_length] at p
    exact hd σ H p
theorem RnPost.refl {nl : List Str} {s : MS} {z : Nat} (h : ∀ x ∈ nl, In6 (s.g x)) : RnPost nl s s z := ⟨h, Nat.le_refl _, by omega⟩
theorem pure_gone (K : PySem.W.Frag) (n : Nat) (vs : List V) (H : Hp) (Q : VK) (E : XK) (h : sp_gone K n vs H Q E) :
    t_gone K n { nx := fun _ H' => Q .non H', rt := Q } (start N_gone vs) H := by
  obtain ⟨a, D, L, C, dx, bl, xs, b, k, A, nl, ns, s, rfl, hR, hs, hb, ho, hn, hn8, hz, hP, q⟩ := h
  unfold t_gone
  walk_at "gx"
  refine for_at (as := b) (P := RwAt K (SqT K) H) (fun pre σ H' => ∃ (s1 : MS) (w3 : Option V), σ = [some (.ref a), some (.ref bl), some (.int ((k + szs pre : Nat) : Int)), w3] ∧ RnIn K H' a D L C dx nl s1 "done" 0 ∧ SameR a D L H H' ∧ SameT H H' ∧ RnPost nl s s1 (szs pre) ∧ Ran (items k A pre) s true "done" 0 s1)
    hs (bk_all2 hb) ⟨s, _, rfl, hR, SameR.refl _ _ _ _, SameT.refl _, RnPost.refl hP.in6, Ran.nil s⟩ (fun pre σ H' ⟨_, _, _, _, _, h, _⟩ => h) ?_ ?_
  · rintro pre r post v σ H1 hbe hr ⟨s1, w3, rfl, hR1, r1, t1, p1, g1⟩
    have rm : r ∈ b := by rw [hbe]; simp
    have ro := oks_mem ho r rm
    have rn := nest_mem rm
    have zz : szs pre + (r.size + szs post) = szs b := by rw [hbe, szs_app] <;> rfl
    have hpm := hP.most
    have pt := p1.turns
    have ps := p1.said
    have hr1 := hr.monoT t1
    walk_at "gx"
    refine ⟨a, D, L, C, dx, v, r, k + szs pre, A, nl, ns, s1, rfl, hR1, hr1, ro, by omega, by omega, by omega, ⟨hP.sub, p1.in6, hP.nll, by
      have := Nat.mul_le_mul_right 1000 pt
      have e : (s.turns - s1.turns) * 1000 + s1.turns * 1000 = s.turns * 1000 := by rw [← Nat.add_mul, Nat.sub_add_cancel pt]
      omega⟩, fun H2 c w rr s2 hR2 r2 t2 p2 g2 => ?_⟩
    have hk : items k A (pre ++ [r]) = items k A pre ++ [(k + szs pre, r, A)] := items_app k A [r] pre
    have post2 : RnPost nl s s2 (szs (pre ++ [r])) := ⟨p2.in6, Nat.le_trans p2.turns pt, by
      have t2' := p2.turns
      have s2' := p2.said
      rw [szs_app, show szs [r] = r.size + 0 from rfl]
      have e : (s.turns - s1.turns) * 1000 + (s1.turns - s2.turns) * 1000 = (s.turns - s2.turns) * 1000 := by rw [← Nat.add_mul]; congr 1; omega
      omega⟩
    walk_at "gx"
    cases c with
    | false =>
      walk_at "gx"
      refine q H2 false w rr s2 hR2 (r1.trans r2) (t1.trans t2) ⟨p2.in6, post2.turns, ?_⟩ ?_
      · have := post2.said
        rw [szs_app, show szs [r] = r.size + 0 from rfl] at this
        omega
      · rw [hbe, show pre ++ r :: post = (pre ++ [r]) ++ post by simp, items_app, hk]
        exact (g1.seq g2).more
    | true =>
      obtain ⟨rfl, rfl⟩ : w = "done" ∧ rr = 0 := by
        rcases g2 with ⟨_, h1, h2, _⟩ | ⟨h, _⟩
        · exact ⟨h1, h2⟩
        · exact nomatch h
      walk_at "gx"
      refine ⟨v, r, rfl, (hr1.monoT t2).toE, by omega, by omega, fun H3 e3 => ?_⟩
      walk_at "gx"
      have num : ((k + szs pre : Nat) : Int) + (r.size : Nat) = ((k + szs (pre ++ [r]) : Nat) : Int) := by
        rw [szs_app, show szs [r] = r.size + 0 from rfl]
        omega
      rw [num]
      refine ⟨s2, _, rfl, hR2.mono e3, (r1.trans r2).trans (SameR.of e3), (t1.trans t2).trans (SameT.of e3), post2, ?_⟩
      rw [hk]
      exact g1.seq g2
  · rintro σ H1 ⟨s1, w3, rfl, hR1, r1, t1, p1, g1⟩
    walk_at "gx"
    exact q H1 true "done" 0 s1 hR1 r1 t1 p1 g1
theorem pure_turned (K : PySem.W.Frag) (n : Nat) (vs : List V) (H : Hp) (Q : VK) (E : XK) (h : sp_turned K (n + 1) vs H Q E) :
    t_turned K n { nx := fun _ H' => Q .non H', rt := Q } (start N_turned vs) H := by
  obtain ⟨a, D, L, C, dx, v, f, b, k, A, nl, ns, s, rfl, hR, hr, ro, hn, hn8, hz, hP, q⟩ := h
  have nst : (Rw.whl f b).nest = 1 + nests b := rfl
  have szw : (Rw.whl f b).size = 1 + szs b := rfl
  have fo := ro.1
  have bo := ro.2
  have hpm := hP.most
  unfold t_turned
  refine w_while' (fun m σ H' => ∃ (s1 : MS) (w3 : Option V), m = s1.turns ∧ σ = [some (.ref a), some v, some (.int (k : Nat)), w3] ∧ RnIn K H' a D L C dx nl s1 "done" 0 ∧ SameR a D L H H' ∧ SameT H H' ∧ RnPost nl s s1 0 ∧
      ∀ c w r s2, Ran [(k, .whl f b, A)] s1 c w r s2 → Ran [(k, .whl f b, A)] s c w r s2)
    s.turns ⟨s, _, rfl, rfl, hR, SameR.refl _ _ _ _, SameT.refl _, RnPost.refl hP.in6, fun _ _ _ _ h => h⟩ ?_
  rintro m σ H1 ⟨s1, w3, rfl, rfl, hR1, r1, t1, p1, g1⟩
  have hr1 := hr.monoT t1
  have hr1' := hr1
  cases hr1' with
  | @whl a0 p0 u _ xs _ hrow hf hp0 hb0 =>
  have pt := p1.turns
  have ps := p1.said
  walk_at "gx"
  refine w_body ?_
  walk_at "gx"
  refine w_fldAt hR1.ha hR1.cc (by simp) rfl ?_
  walk_at "gx"
  refine ⟨u, f, D, ns, s1.g, rfl, hf, fo.1, Nat.le_trans fo.2 (by decide), hR1.dat hP.sub, fun x hx => p1.in6 x (hP.sub x hx), ?_⟩
  cases hk : f.reck s1.g with
  | none =>
    walk_at "gx"
    refine w_mAt hR1.ha hR1.cc rfl ?_
    walk_at "gx"
    refine ⟨a, D, L, C, dx, nl, s1, _, "nought", _, k, rfl, hR1, fun H2 hR2 r2 t2 => ?_⟩
    refine q H2 false "nought" k s1 hR2 (r1.trans r2) (t1.trans t2) p1 (g1 _ _ _ _ (Ran.stop (e := (k, .whl f b, A)) fun R => ?_))
    show stp k A R s1 (.whl f b) = _
    simp only [stp, hk]
  | some i =>
    walk_at "gx"
    refine w_two (fun c => ?_) (fun c => ?_)
    · have c := of_decide_eq_true c
      subst c
      walk_at "gx"
      refine q H1 true "done" 0 s1 hR1 r1 t1 p1 (g1 _ _ _ _ (Ran.step (e := (k, .whl f b, A)) (J := []) (s1 := s1) (fun R => ?_) (Ran.nil s1)))
      show stp k A R s1 (.whl f b) = _
      simp only [stp, hk, if_pos, List.nil_append]
    · have c := of_decide_eq_false c
      walk_at "gx"
      refine w_fldAt hR1.ha hR1.cc (by simp) rfl ?_
      walk_at "gx"
      refine w_two (fun d => ?_) (fun d => ?_)
      · have d : s1.turns = 0 := by have := of_decide_eq_true d; omega
        walk_at "gx"
        refine w_mAt hR1.ha hR1.cc rfl ?_
        walk_at "gx"
        refine ⟨a, D, L, C, dx, nl, s1, _, "tired", _, k, rfl, hR1, fun H2 hR2 r2 t2 => ?_⟩
        refine q H2 false "tired" k s1 hR2 (r1.trans r2) (t1.trans t2) p1 (g1 _ _ _ _ (Ran.stop (e := (k, .whl f b, A)) fun R => ?_))
        show stp k A R s1 (.whl f b) = _
        simp only [stp, hk, if_neg c, if_pos d]
      · have d : s1.turns ≠ 0 := by have := of_decide_eq_false d; omega
        walk_at "gx"
        refine w_fldAt hR1.ha hR1.cc (by simp) rfl ?_
        walk_at "gx"
        refine w_sfldAt hR1.ha hR1.cc (by simp) (by simp [rnF]) ?_
        have dd : ((s1.turns : Nat) : Int) - 1 = ((s1.turns - 1 : Nat) : Int) := by omega
        rw [dd]
        have st := hR1.seta (w' := "done") (r' := 0) (t := s1.turns - 1)
        rw [show upd H1 a (.ins C dx (putF "turns" (.int ((s1.turns - 1 : Nat) : Int)) (rnF D s1.turns L "done" 0))) = upd H1 a (.ins C dx (rnF D (s1.turns - 1) L "done" 0)) from rfl]
        generalize upd H1 a (.ins C dx (rnF D (s1.turns - 1) L "done" 0)) = H2 at st
        obtain ⟨hR2, r2, t2⟩ := st
        have hrow2 := sameT_t t2 hrow
        walk_at "gx"
        have num : ((k : Nat) : Int) + 1 = ((k + 1 : Nat) : Int) := by omega
        rw [num]
        have e1 : (s.turns - s1.turns) * 1000 + s1.turns * 1000 = s.turns * 1000 := by rw [← Nat.add_mul, Nat.sub_add_cancel pt]
        have e2 : (s1.turns - 1) * 1000 + 1000 = s1.turns * 1000 := by
          have : s1.turns = s1.turns - 1 + 1 := by omega
          rw [this, Nat.add_mul, Nat.add_sub_cancel]
        refine ⟨a, D, L, C, dx, p0, xs, b, k + 1, A ++ f.names, nl, ns, { s1 with turns := s1.turns - 1 }, rfl, hR2, sameT_t t2 hp0, hb0.monoT t2, bo, by omega, by omega, by omega, ⟨hP.sub, p1.in6, hP.nll, by show s1.said.length + szs b + (s1.turns - 1) * 1000 ≤ 3000000; omega⟩, fun H3 cc w rr s2 hR3 r3 t3 p3 g3 => ?_⟩
        have p3t : s2.turns ≤ s1.turns - 1 := p3.turns
        have p3s : s2.said.length ≤ s1.said.length + szs b + (s1.turns - 1 - s2.turns) * 1000 := p3.said
        have post3 : RnPost nl s s2 0 := ⟨p3.in6, by omega, by
          have e3 : (s.turns - s1.turns) * 1000 + 1000 + (s1.turns - 1 - s2.turns) * 1000 = (s.turns - s2.turns) * 1000 := by
            have : s.turns - s2.turns = (s.turns - s1.turns) + 1 + (s1.turns - 1 - s2.turns) := by omega
            rw [this, Nat.add_mul, Nat.add_mul, Nat.one_mul]
          omega⟩
        have rs := (r1.trans r2).trans r3
        have ts := (t1.trans t2).trans t3
        have hst : ∀ R, stp k A R s1 (.whl f b) = .inl ((items (k + 1) (A ++ f.names) b ++ [(k, .whl f b, A)]) ++ R, { s1 with turns := s1.turns - 1 }) := fun R => by
          simp only [stp, hk, if_neg c, if_neg d, List.append_assoc, List.singleton_append]
        walk_at "gx"
        cases cc with
        | false =>
          walk_at "gx"
          exact q H3 false w rr s2 hR3 rs ts post3 (g1 _ _ _ _ (Ran.step (e := (k, .whl f b, A)) hst g3.more))
        | true =>
          obtain ⟨rfl, rfl⟩ : w = "done" ∧ rr = 0 := by
            rcases g3 with ⟨_, h1, h2, _⟩ | ⟨h, _⟩
            · exact ⟨h1, h2⟩
            · exact nomatch h
          walk_at "gx"
          exact ⟨s2.turns, by omega, s2, _, rfl, rfl, hR3, rs, ts, post3, fun c w r s3 g => g1 _ _ _ _ (Ran.step (e := (k, .whl f b, A)) hst (g3.seq g))⟩
theorem pure_stepped (K : PySem.W.Frag) (n : Nat) (vs : List V) (H : Hp) (Q : VK) (E : XK) (h : sp_stepped K (n + 1) vs H Q E) :
    t_stepped K n { nx := fun _ H' => Q .non H', rt := Q } (start N_stepped vs) H := by
  obtain ⟨a, D, L, C, dx, v, r, k, A, nl, ns, s, rfl, hR, hr, ro, hn, hn8, hz, hP, q⟩ := h
  obtain ⟨ar, ws, rfl, hs, _⟩ := hr.head
  have hpm := hP.most
  unfold t_stepped
  walk_at "gx"
  refine w_ixT hs at0 ?_
  walk_at "gx"
  rw [skip_is]
  cases hf0 : r.fm with
  | none =>
    have : r = .skip := by cases r <;> first | rfl | exact nomatch hf0
    subst this
    walk_at "gx"
    refine q H true "done" 0 s hR (SameR.refl _ _ _ _) (SameT.refl _) (RnPost.refl hP.in6) (Ran.step (e := (k, .skip, A)) (J := []) (s1 := s) (fun R => rfl) (Ran.nil s))
  | some f =>
    have ff := fm_ok ro hf0
    refine w_no ?_ ?_
    · cases r <;> first | rfl | exact nomatch hf0
    walk_at "gx"
    refine w_ixT hs at0 ?_
    walk_at "gx"
    rw [while_is]
    -- behind the two, and the formula's number
    have rest : (∀ f b, r ≠ .whl f b) → (tSeq (tAsg (tF (sp_reckoned K 18) (tCons (tF (sp_formula_of K) (tCons (tVar 1) tNil)) (tCons (tFld K (tVar 0) "numbers") tNil))) (gName 3)) (tSeq (tIfS (tTest (tOp (rIsN2 false) (tVar 3) (tC .non))) (tRet (tM K "Runner" as_Runner "stops" (sp_Runner_stops K) (tVar 0) (tCons (tC (.str "nought")) (tCons (tVar 2) tNil)))) tNext) (tSeq (tIfS (tTest (tOp (rEq2 K) (tOp (rIx K) (tVar 1) (tC (.int 0))) (tC (.str "set")))) (sDPut (tFld K (tVar 0) "numbers") (tOp (rIx K) (tVar 1) (tC (.int 1))) (tVar 3)) (tIfS (tTest (tOp (rEq2 K) (tOp (rIx K) (tVar 1) (tC (.int 0))) (tC (.str "tell")))) (tDrop (tBM K "list" rAppend (tFld K (tVar 0) "said") (tCons (tVar 3) tNil))) (tIfS (tTest (tOp (rNe2 K) (tVar 3) (tC (.int 0)))) (tRet (tF (sp_gone K n) (tCons (tVar 0) (tCons (tOp (rIx K) (tVar 1) (tC (.int 2))) (tCons (tOp (rAdd K) (tVar 2) (tC (.int 1))) tNil))))) (tRet (tF (sp_gone K n) (tCons (tVar 0) (tCons (tOp (rIx K) (tVar 1) (tC (.int 3))) (tCons (tOp (rAdd K) (tOp (rAdd K) (tVar 2) (tC (.int 1))) (tF (sp_many_in K 8) (tCons (tOp (rIx K) (tVar 1) (tC (.int 2))) tNil))) tNil)))))))) (t_stepped_j1 K n))))
        { nx := fun _ H' => Q .non H', rt := Q } [some (.ref a), some (.ref ar), some (.int (k : Nat)), none] H := by
      intro nw
      walk_at "gx"
      refine ⟨_, r, rfl, hr.toE, fun u hu => ?_⟩
      rw [hf0] at hu
      walk_at "gx"
      refine w_fldAt hR.ha hR.cc (by simp) rfl ?_
      walk_at "gx"
      refine ⟨u, f, D, ns, s.g, rfl, hu, ff.1, Nat.le_trans ff.2 (by decide), hR.dat hP.sub, fun x hx => hP.in6 x (hP.sub x hx), ?_⟩
      cases hk : f.reck s.g with
      | none =>
        walk_at "gx"
        refine w_mAt hR.ha hR.cc rfl ?_
        walk_at "gx"
        refine ⟨a, D, L, C, dx, nl, s, _, "nought", _, k, rfl, hR, fun H2 hR2 r2 t2 => ?_⟩
        refine q H2 false "nought" k s hR2 r2 t2 (RnPost.refl hP.in6) (Ran.stop (e := (k, r, A)) fun R => ?_)
        cases r with
        | skip => exact nomatch hf0
        | set x g => obtain rfl : g = f := Option.some.inj hf0; show stp k A R s (.set x g) = _; simp only [stp, hk]
        | tell g => obtain rfl : g = f := Option.some.inj hf0; show stp k A R s (.tell g) = _; simp only [stp, hk]
        | ite g b1 b2 => obtain rfl : g = f := Option.some.inj hf0; show stp k A R s (.ite g b1 b2) = _; simp only [stp, hk]
        | whl g b1 => exact absurd rfl (nw g b1)
      | some i =>
        have i6 : In6 i := Fm.reck_in (fun x hx => hP.in6 x (hP.sub x hx)) ff.1 hk
        walk_at "gx"
        refine w_ixT hs at0 ?_
        walk_at "gx"
        rw [set_is]
        cases r with
        | skip => exact nomatch hf0
        | whl g b1 => exact absurd rfl (nw g b1)
        | set x g =>
          obtain rfl : g = f := Option.some.inj hf0
          cases hr with
          | set hrow hg =>
          clear hs
          have xn : x ∈ nl := hP.sub x ro.1
          walk_at "gx"
          refine w_fldAt hR.ha hR.cc (by simp) rfl ?_
          walk_at "gx"
          obtain ⟨n1, n2, n3⟩ := hR.ne
          have hnl := hP.nll
          have kl : (kvN nl s.g).length < sizeLine := lt_line (by unfold kvN; rw [List.length_map]; omega)
          refine w_dputAt (y := .int i) hR.hD kl ?_
          rw [kvN_put xn]
          have hR2 : RnIn K (upd H D (.dK (kvN nl (setG s.g x i)))) a D L C dx nl { s with g := setG s.g x i } "done" 0 := ⟨by rw [upd_ne n1]; exact hR.ha, hR.cc, upd_same, by rw [upd_ne n3.symm]; exact hR.hL⟩
          have r2 : SameR a D L H (upd H D (.dK (kvN nl (setG s.g x i)))) := fun y u _ ny _ hy => by rw [upd_ne ny]; exact hy
          have t2 : SameT H (upd H D (.dK (kvN nl (setG s.g x i)))) := SameT.upd hR.hD rfl
          generalize upd H D (.dK (kvN nl (setG s.g x i))) = H2 at hR2 r2 t2
          unfold t_stepped_j1
          walk_at "gx"
          refine q H2 true "done" 0 _ hR2 r2 t2 ⟨fun y hy => ?_, Nat.le_refl _, by show s.said.length ≤ _; omega⟩ (Ran.step (e := (k, .set x g, A)) (J := []) (fun R => ?_) (Ran.nil _))
          · show In6 (setG s.g x i y)
            unfold setG
            split
            · exact i6
            · exact hP.in6 y hy
          · show stp k A R s (.set x g) = _
            simp only [stp, hk, List.nil_append]
        | tell g =>
          obtain rfl : g = f := Option.some.inj hf0
          walk_at "gx"
          try (refine w_ixT hs at0 ?_)
          walk_at "gx"
          try rw [tell_is]
          walk_at "gx"
          obtain ⟨n1, n2, n3⟩ := hR.ne
          refine w_fldAt hR.ha hR.cc (by simp) rfl ?_
          refine w_bmL (SqL.of hR.hL) ?_
          walk_at "gx"
          have sz1 : (Rw.tell g).size = 1 := rfl
          refine w_app hR.hL (lt_line (by rw [List.length_map]; omega)) ?_
          have hR2 : RnIn K (upd H L (.lst (s.said.map V.int ++ [OV (some i)]))) a D L C dx nl { s with said := s.said ++ [i] } "done" 0 := ⟨by rw [upd_ne n2]; exact hR.ha, hR.cc, by rw [upd_ne n3]; exact hR.hD, by rw [upd_same]; show _ = some (HO.lst ((s.said ++ [i]).map V.int)); rw [List.map_append] <;> rfl⟩
          have r2 : SameR a D L H (upd H L (.lst (s.said.map V.int ++ [OV (some i)]))) := fun y u _ _ ny hy => by rw [upd_ne ny]; exact hy
          have t2 : SameT H (upd H L (.lst (s.said.map V.int ++ [OV (some i)]))) := SameT.upd hR.hL rfl
          generalize upd H L (.lst (s.said.map V.int ++ [OV (some i)])) = H2 at hR2 r2 t2
          unfold t_stepped_j1
          walk_at "gx"
          refine q H2 true "done" 0 _ hR2 r2 t2 ⟨hP.in6, Nat.le_refl _, by show (s.said ++ [i]).length ≤ _; rw [List.length_append, List.length_singleton]; omega⟩ (Ran.step (e := (k, .tell g, A)) (J := []) (fun R => ?_) (Ran.nil _))
          show stp k A R s (.tell g) = _
          simp only [stp, hk, List.nil_append]
        | ite g b1 b2 =>
          obtain rfl : g = f := Option.some.inj hf0
          cases hr with
          | ite hrow hg hp0 hb1 hq0 hb2 =>
          walk_at "gx"
          have nst : (Rw.ite g b1 b2).nest = 1 + max (nests b1) (nests b2) := rfl
          have szi : (Rw.ite g b1 b2).size = 1 + (szs b1 + szs b2) := rfl
          refine w_two (fun c => ?_) (fun c => ?_)
          · have c : i ≠ 0 := fun e => by rw [e] at c; exact nomatch c
            walk_at "gx"
            have num : ((k : Nat) : Int) + 1 = ((k + 1 : Nat) : Int) := by omega
            rw [num]
            refine ⟨a, D, L, C, dx, _, _, b1, k + 1, A ++ g.names, nl, ns, s, rfl, hR, hp0, hb1, ro.2.1, by omega, by omega, by omega, ⟨hP.sub, hP.in6, hP.nll, by omega⟩, fun H2 c2 w rr s2 hR2 r2 t2 p2 g2 => ?_⟩
            refine q H2 c2 w rr s2 hR2 r2 t2 ⟨p2.in6, p2.turns, by have := p2.said; omega⟩ (Ran.step (e := (k, .ite g b1 b2, A)) (fun R => ?_) g2)
            show stp k A R s (.ite g b1 b2) = _
            simp only [stp, hk, if_neg c]
          · have c : i = 0 := Decidable.byContradiction fun e => by rw [decide_eq_false e] at c; exact nomatch c
            subst c
            walk_at "gx"
            refine ⟨_, _, b1, rfl, .inr hp0, hb1.toE, by omega, by omega, fun H1 e1 => ?_⟩
            walk_at "gx"
            have num : ((k : Nat) : Int) + 1 + ((szs b1 : Nat) : Int) = ((k + 1 + szs b1 : Nat) : Int) := by omega
            rw [num]
            have hR1 := hR.mono e1
            refine ⟨a, D, L, C, dx, _, _, b2, k + 1 + szs b1, A ++ g.names, nl, ns, s, rfl, hR1, same_t e1 hq0, hb2.monoS e1, ro.2.2, by omega, by omega, by omega, ⟨hP.sub, hP.in6, hP.nll, by omega⟩, fun H2 c2 w rr s2 hR2 r2 t2 p2 g2 => ?_⟩
            refine q H2 c2 w rr s2 hR2 ((SameR.of e1).trans r2) ((SameT.of e1).trans t2) ⟨p2.in6, p2.turns, by have := p2.said; omega⟩ (Ran.step (e := (k, .ite g b1 b2, A)) (fun R => ?_) g2)
            show stp k A R s (.ite g b1 b2) = _
            simp only [stp, hk, if_pos]
    cases r with
    | skip => exact nomatch hf0
    | set x g => walk_at "gxn"; exact rest (fun _ _ h => nomatch h)
    | tell g => walk_at "gxn"; exact rest (fun _ _ h => nomatch h)
    | ite g b1 b2 => walk_at "gxn"; exact rest (fun _ _ h => nomatch h)
    | whl g b1 =>
      walk_at "gx"
      refine ⟨a, D, L, C, dx, _, g, b1, k, A, nl, ns, s, rfl, hR, hr, ro, hn, hn8, hz, ⟨hP.sub, hP.in6, hP.nll, by omega⟩, fun H2 c w rr s2 hR2 r2 t2 p2 g2 => q H2 c w rr s2 hR2 r2 t2 ⟨p2.in6, p2.turns, by have := p2.said; omega⟩ g2⟩
end Hu
namespace HuV
open PySem PySem.Spec PyProof.Rows L2 RT
section
variable {prog : Program} {w : World} {A : Around} {E : Value → Shared → Prop} {s : Shared}
theorem extend_rev {R : Result → Shared → Prop} {it l : Addr} {items : Array Value} (hh : A.handled = none) (hit : s.heap.IsRevIter it l ((items.size : Int) - 1)) (hl : s.heap.IsList l items) (hne : l ≠ it) (hn : items.size ≤ sizeLine) (S : Addr) (hSi : S ≠ it) (hSl : S ≠ l) (res : Value) (c₀ : Nat)
    (hS : s.heap.get? S = some { cls := .type "list", data := .seq #[] c₀ })
    (hR : ∀ h' tk acc' c', (∀ b o, b ≠ S → b ≠ it → s.heap.get? b = some o → h'.get? b = some o) → h'.get? S = some { cls := .type "list", dict := none, data := .seq acc' c', slots := #[] } → ItemsOf (fun i v => items[items.size - 1 - i]? = some v) acc' items.size → R (.ok (.ret res)) { s with heap := h', toks := tk }) :
    wpAny (model prog w) A.in1 (Builtin.List.listExtendWith (.ref S) (.ref it) res)
      (fun fin s' => match fin with | .done f => R (.ok f) s' | .again c' => c'.quiet = true ∧ codeAny (model prog w) A c' R s') (fun e s' => R (.error e) s') s := by
  have W := (Walks.listRev (prog := prog) (w := w) (A := A.in1) hh it l hne items).toS
  have hSf : S ∉ [it, l] := by simp only [List.mem_cons, List.not_mem_nil, or_false, not_or]; exact ⟨hSi, hSl⟩
  have hT : s.TypeIs (.ref it) "list_reverseiterator" := hit.typeIs
  have h1 : Builtin.List.listSameRef (.ref S) (.ref it) = false := by simp [Builtin.List.listSameRef, hSi]
  unfold Builtin.List.listExtendWith
  refine wpAny_bind (wpAny_typeOf hT ?_)
  rw [if_neg (by rw [h1]; decide)]
  refine wpAny_bind (wpAny_pyIter_revIter hit ?_)
  refine wpAny_bind (wpAny_holding ?_)
  unfold Builtin.List.listLengthHint
  refine wpAny_bind (wpAny_specialOf hT nolen_lri ?_)
  show wpAny _ A.in1 (specialOf (Value.ref it) (Str.ofString "__length_hint__") >>= _) _ _ _
  refine wpAny_bind (wpAny_specialOf hT hint_lri ?_)
  generalize hid : ("list_reverseiterator.__length_hint__" : String) = id0
  wp_delta
  rw [show splitId id0 = some ("list_reverseiterator", "__length_hint__") from by subst hid; decide +kernel]
  subst hid
  refine wpAny_bind (wpAny_isInstance (b := true) hT (by rw [isSubtype_type]; kernel_rfl) ?_)
  refine wpAny_pure ?_
  rw [if_neg (by decide)]
  have e0 : ((items.size : Nat) : Int) - 1 - ((0 : Nat) : Int) = (items.size : Int) - 1 := by omega
  refine wpAny_pure ⟨plainId_quiet F.plain_extend_loop _, codeAny_extend_loopS W hn _ hSf _ items.size 0 _ _ _ rfl (Nat.zero_le _) ⟨Nat.zero_le _, by rw [e0]; exact hit, hl⟩ hS (ItemsOf.nil _) fun s' acc' c' hm hS' hacc => ?_⟩
  rw [Moved.eq_with hm]
  refine hR s'.heap s'.toks acc' c' (fun b o hb hb2 e => hm.heap b o (fun hmem => ?_) e) hS' hacc
  rcases List.mem_cons.mp hmem with e' | hmem
  · exact hb e'
  · exact hb2 (List.mem_singleton.mp hmem)
theorem init_rev {R : Result → Shared → Prop} {it l : Addr} {items : Array Value} (hh : A.handled = none) (hit : s.heap.IsRevIter it l ((items.size : Int) - 1)) (hl : s.heap.IsList l items) (hne : l ≠ it) (hn : items.size ≤ sizeLine) (S : Addr) (hSi : S ≠ it) (hSl : S ≠ l)
    (hS : s.heap.get? S = some { cls := .type "list", data := .seq #[] })
    (hR : ∀ h' tk acc' c', (∀ b o, b ≠ S → b ≠ it → s.heap.get? b = some o → h'.get? b = some o) → h'.get? S = some { cls := .type "list", dict := none, data := .seq acc' c', slots := #[] } → ItemsOf (fun i v => items[items.size - 1 - i]? = some v) acc' items.size → R (.ok (.ret .none)) { s with heap := h', toks := tk }) :
    wpAny (model prog w) A.in1 (Builtin.«list.__init__» ⟨[.ref S, .ref it], []⟩)
      (fun fin s' => match fin with | .done f => R (.ok f) s' | .again c' => c'.quiet = true ∧ codeAny (model prog w) A c' R s') (fun e s' => R (.error e) s') s := by
  show wpAny _ _ (do let old ← Builtin.List.listItems (.ref S); Builtin.List.listUpdate (.ref S) (fun _ => #[]); letGo old.toList.reverse; Builtin.List.listExtendWith (.ref S) (.ref it) .none) _ _ s
  refine wpAny_bind ?_
  unfold Builtin.List.listItems
  refine wpAny_bind (wpAny_seqItems hS rfl (wpAny_pure ?_))
  show wpAny _ _ (updateSeq S (fun _ => #[]) >>= fun _ => letGo (#[] : Array Value).toList.reverse >>= fun _ => Builtin.List.listExtendWith (.ref S) (.ref it) .none) _ _ s
  refine wpAny_bind (wpAny_updateSeq hS rfl ?_)
  have hS₂ := Heap.get?_update_self (Obj.mapSeq (fun _ => (#[] : Array Value))) hS rfl
  have oth : ∀ b o, b ≠ S → s.heap.get? b = some o → (s.heap.update S (Obj.mapSeq (fun _ => (#[] : Array Value)))).get? b = some o :=
    fun b o hb e => (Heap.get?_update_other _ _ (Ne.symm hb)).trans e
  refine wpAny_bind (wpAny_letGo ?_)
  obtain ⟨ol, hol, hol2⟩ := id hl
  refine extend_rev (s := { s with heap := s.heap.update S (Obj.mapSeq (fun _ => (#[] : Array Value))) }) hh (hit.at fun o e => oth it o (Ne.symm hSi) e) ⟨ol, oth l ol (Ne.symm hSl) hol, hol2⟩ hne hn S hSi hSl .none _ hS₂ fun h' tk acc' c' hk hS' hacc => ?_
  exact hR h' tk acc' c' (fun b o hb hb2 e => hk b o hb hb2 (oth b o hb e)) hS' hacc
theorem call_list_rev {Q : Value → Shared → Prop} {it l : Addr} {items : Array Value} (hh : A.handled = none) (hit : s.heap.IsRevIter it l ((items.size : Int) - 1)) (hl : s.heap.IsList l items) (hne : l ≠ it) (hn : items.size ≤ sizeLine)
    (hQ : ∀ h' tk acc' c', (∀ b o, b ≠ it → s.heap.get? b = some o → h'.get? b = some o) → h'.get? s.heap.objs.size = some { cls := .type "list", dict := none, data := .seq acc' c', slots := #[] } → ItemsOf (fun i v => items[items.size - 1 - i]? = some v) acc' items.size →
      Q (.ref s.heap.objs.size) { s with heap := h', toks := tk }) :
    wpAny (model prog w) A (call (.type "list") [.ref it]) Q E s := by
  refine callType_codes (Q₁ := fun obj s₁ => obj = .ref s.heap.objs.size ∧ s₁ = { s with heap := s.heap.push { cls := .type "list", data := .seq #[] } }) F.called_list (F.typeCall_list_1 _) F.entry_list_init
    (code_list_new _ ⟨rfl, rfl⟩) fun obj s₁ h₁ => ?_
  obtain ⟨rfl, rfl⟩ := h₁
  have hS : (s.heap.push { cls := .type "list", data := .seq #[] }).get? s.heap.objs.size = some { cls := .type "list", data := .seq #[] } := Heap.get?_push_size _ rfl
  obtain ⟨oi, hoi, _⟩ := id hit
  obtain ⟨ol, hol, _⟩ := id hl
  have hSi : s.heap.objs.size ≠ it := Nat.ne_of_gt (Heap.lt_size hoi)
  have hSl : s.heap.objs.size ≠ l := Nat.ne_of_gt (Heap.lt_size hol)
  refine ⟨⟨_, hS, rfl⟩, F.args_list_init_2 _ _, init_rev (A := A.in1) (s := { s with heap := s.heap.push { cls := .type "list", data := .seq #[] } }) hh (hit.at fun o e => Heap.get?_push_of_some _ e) (hl.push _) hne hn _ hSi hSl hS fun h' tk acc' c' hk hS' hacc => ?_⟩
  exact ⟨rfl, hQ h' tk acc' c' (fun b o hb e => hk b o (Nat.ne_of_lt (Heap.lt_size e)) hb (Heap.get?_push_of_some _ e)) hS' hacc⟩
end
def tListRev (K : PySem.W.Frag) (te : TE) : TE := fun σ H Q => te σ H fun v H1 => ∃ (a : Addr) (xs : List V), v = .ref a ∧ SqL K H1 a xs ∧ ∀ q, H1 q = none → Q (.ref q) (upd H1 q (.lst xs.reverse))
section
variable {X : Cx}
theorem pe_listRev {e : Expr} {te : TE} {p p2 pos pos2 : Pos} (hc : X.calm = true) (hg : Gl X "list") (hm : X.mg "list" = none) (hg2 : Gl X "reversed") (hm2 : X.mg "reversed" = none) (he : PE X e te)
    (hs : starEach [e] X.env = (false, eval e X.env) :: starEach [] X.env := by rfl)
    (hs2 : starEach [.Call (.Name "reversed" p2) [e] [] pos2] X.env = (false, eval (.Call (.Name "reversed" p2) [e] [] pos2) X.env) :: starEach [] X.env := by rfl) :
    PE X (.Call (.Name "list" p) [.Call (.Name "reversed" p2) [e] [] pos2] [] pos) (tListRev X.K te) := by
  refine ⟨fun pins s σ H Q I h => ?_⟩
  refine Call_ (ld_blt I hg hm (show bootBuiltins "list" = some (.type "list") by decide +kernel) (PyProof.Rows.callWith_type1 (args_cons (Call_ (ld_blt I hg2 hm2 PyProof.Rows.boot_reversed (PyProof.Rows.callWith_type1 (args_cons (thn (he.run pins s σ H _ I h) fun u s1 ⟨v, H1, I1, r1, q1⟩ => args_nil ?_) hs) hs rfl))) hs2) hs2 rfl))
  obtain ⟨a, xs, ev, hq, q⟩ := q1
  subst ev
  obtain rfl : u = Value.ref a := r1
  obtain ⟨its, rv, p', hz⟩ := I1.list hq
  refine call_reversed_list p'.isList (args_nil ?_)
  have k0 : ∀ b o, s1.heap.get? b = some o → (s1.heap.push (revObj a ((its.toArray.size : Int) - 1))).get? b = some o := fun b o e => Heap.get?_push_of_some _ e
  have I2 : Inv X pins σ H1 { s1 with heap := s1.heap.push (revObj a ((its.toArray.size : Int) - 1)) } := I1.kept (t' := s1.toks) k0
  have fp := I1.fpOk (H' := H1) (b := s1.heap.objs.size) (Nat.le_refl _) (I1.hok.fresh (Nat.le_refl _))
  have hl := p'.isList
  obtain ⟨ol, hol, _⟩ := id hl
  have hne : a ≠ s1.heap.objs.size := Nat.ne_of_lt (Heap.lt_size hol)
  have hn : its.toArray.size ≤ sizeLine := by rw [List.size_toArray, ← rv.length]; exact hz
  refine call_list_rev (s := { s1 with heap := s1.heap.push (revObj a ((its.toArray.size : Int) - 1)) }) (I1.ok.hd hc) ⟨_, Heap.get?_push_size _ rfl, rfl, rfl⟩ (hl.push _) hne hn fun h' tk acc c' hk hS hi => ?_
  refine ⟨.ref (s1.heap.push (revObj a ((its.toArray.size : Int) - 1))).objs.size, upd H1 (s1.heap.push (revObj a ((its.toArray.size : Int) - 1))).objs.size (.lst xs.reverse), ?_, rfl, q _ (I2.hok.fresh (Nat.le_refl _))⟩
  refine I2.turnedNew (t' := tk) (ch := [s1.heap.objs.size]) (fun b o hb e => hk b o (fun z => hb (List.mem_singleton.mpr z)) e) (fun b hb => by rw [List.mem_singleton.mp hb]; exact fp) (Nat.le_refl _) ?_
  exact ⟨by rw [List.length_reverse]; exact hz, acc.toList, c', vals_rev rv hi, by rw [Array.toArray_toList]; exact hS⟩
end
end HuV
namespace Hu
open PySem PySem.Spec PyProof.Rows L2 HuS
local macro_rules | `(tactic| walk_at "sm.") => `(tactic| (refine Same.trans (H1 := ?M) ?a ?b; (case b => with_reducible assumption); (case a => walk_at "sm")))
local macro_rules | `(tactic| walk_at "sm.") => `(tactic| (refine same_mut ?_ (by with_reducible assumption); walk_at "sm"))
local macro_rules | `(tactic| walk_at "sm.") => `(tactic| (refine Same.trans ?_ (same_new (by with_reducible assumption)); walk_at "sm"))
local macro_rules | `(tactic| walk_at "sm.") => `(tactic| exact Same.refl _)
local macro_rules | `(tactic| walk_at "sm.") => `(tactic| with_reducible assumption)
local macro_rules | `(tactic| walk_at "sm") => `(tactic| first | walk_at "sm." | fail)
local macro_rules | `(tactic| walk_at "sq.") => `(tactic| (refine SqT.of (Eq.trans (upd_ne ?n) ?h); (case h => with_reducible assumption); (case n => walk_at "ne")))
local macro_rules | `(tactic| walk_at "sq.") => `(tactic| (refine SqL.of (Eq.trans (upd_ne ?n) ?h); (case h => with_reducible assumption); (case n => walk_at "ne")))
local macro_rules | `(tactic| walk_at "sq.") => `(tactic| exact SqT.of (by with_reducible assumption))
local macro_rules | `(tactic| walk_at "sq.") => `(tactic| exact SqL.of (by with_reducible assumption))
local macro_rules | `(tactic| walk_at "sq.") => `(tactic| exact SqL.of upd_same)
local macro_rules | `(tactic| walk_at "sq.") => `(tactic| exact SqT.of upd_same)
local macro_rules | `(tactic| walk_at "sq.") => `(tactic| (refine same_l (H := ?M) ?e ?h; (case h => with_reducible assumption); (case e => walk_at "sm")))
local macro_rules | `(tactic| walk_at "sq.") => `(tactic| (refine same_t (H := ?M) ?e ?h; (case h => with_reducible assumption); (case e => walk_at "sm")))
local macro_rules | `(tactic| walk_at "sq.") => `(tactic| with_reducible assumption)
local macro_rules | `(tactic| walk_at "sq") => `(tactic| first | walk_at "sq." | fail)
local macro_rules | `(tactic| walk_at "ne.") => `(tactic| exact (ne_of_none (by with_reducible assumption) (by with_reducible assumption)).symm)
local macro_rules | `(tactic| walk_at "ne.") => `(tactic| exact ne_of_none (by with_reducible assumption) (by with_reducible assumption))
local macro_rules | `(tactic| walk_at "ne.") => `(tactic| with_reducible assumption)
local macro_rules | `(tactic| walk_at "ne") => `(tactic| first | walk_at "ne." | fail)
local macro_rules | `(tactic| walk_at "sz.") => `(tactic| (refine sz ?_; first | omega | (simp only [List.length_cons, List.length_nil, List.length_map]; omega) | (simp only [cs_len]; omega)))
local macro_rules | `(tactic| walk_at "sz.") => `(tactic| with_reducible assumption)
local macro_rules | `(tactic| walk_at "sz") => `(tactic| first | walk_at "sz." | fail)
set_option hygiene false in
local macro_rules | `(tactic| walk_at "new") => `(tactic| (refine w_new ?_ (fun p hp => ?_); (walk_at "sz")))
local macro_rules | `(tactic| walk_at "tr.") => `(tactic| exact decide_eq_false (by with_reducible assumption))
local macro_rules | `(tactic| walk_at "tr.") => `(tactic| exact decide_eq_true (by with_reducible assumption))
local macro_rules | `(tactic| walk_at "tr.") => `(tactic| decide +kernel)
local macro_rules | `(tactic| walk_at "tr.") => `(tactic| with_reducible rfl)
local macro_rules | `(tactic| walk_at "tr.") => `(tactic| with_reducible assumption)
local macro_rules | `(tactic| walk_at "tr") => `(tactic| first | walk_at "tr." | fail)
local macro_rules | `(tactic| walk_at "go1.") => `(tactic| with_reducible refine w_tup ?_)
local macro_rules | `(tactic| walk_at "go1.") => `(tactic| with_reducible refine w_lst ?_)
local macro_rules | `(tactic| walk_at "go1.") => `(tactic| ((with_reducible refine w_lenT (xs := ?xs) ?h ?_); (case h => walk_at "sq")))
local macro_rules | `(tactic| walk_at "go1.") => `(tactic| ((with_reducible refine w_lenL (xs := ?xs) ?h ?_); (case h => walk_at "sq")))
local macro_rules | `(tactic| walk_at "go1.") => `(tactic| ((with_reducible refine w_addT ?z ?_); (case z => walk_at "sz")))
local macro_rules | `(tactic| walk_at "go1.") => `(tactic| ((with_reducible refine w_lenS ?z ?_); (case z => walk_at "sz")))
local macro_rules | `(tactic| walk_at "go1.") => `(tactic| ((with_reducible refine w_slS ?z ?_); (case z => walk_at "sz")))
local macro_rules | `(tactic| walk_at "go1.") => `(tactic| with_reducible refine w_find ?_)
local macro_rules | `(tactic| walk_at "go1.") => `(tactic| ((with_reducible refine w_bmL (xs := ?xs) ?h ?_); (case h => walk_at "sq")))
local macro_rules | `(tactic| walk_at "go1.") => `(tactic| with_reducible refine w_bmS ?_)
local macro_rules | `(tactic| walk_at "go1.") => `(tactic| with_reducible refine w_bm0 ?_)
local macro_rules | `(tactic| walk_at "go1.") => `(tactic| with_reducible refine w_bm ?_)
local macro_rules | `(tactic| walk_at "go1.") => `(tactic| with_reducible refine w_exI ?_)
local macro_rules | `(tactic| walk_at "go1.") => `(tactic| with_reducible refine w_part ?_)
local macro_rules | `(tactic| walk_at "go1.") => `(tactic| with_reducible refine w_cont ?_)
local macro_rules | `(tactic| walk_at "go1.") => `(tactic| with_reducible refine w_retN ?_)
local macro_rules | `(tactic| walk_at "go1.") => `(tactic| with_reducible refine w_istr ?_)
local macro_rules | `(tactic| walk_at "go1.") => `(tactic| with_reducible refine w_chain ?_)
local macro_rules | `(tactic| walk_at "go1.") => `(tactic| with_reducible refine w_glt ?_)
local macro_rules | `(tactic| walk_at "go1.") => `(tactic| with_reducible refine w_mk ?_)
local macro_rules | `(tactic| walk_at "go1.") => `(tactic| with_reducible refine w_m ?_)
local macro_rules | `(tactic| walk_at "go1.") => `(tactic| with_reducible refine w_sfld ?_)
local macro_rules | `(tactic| walk_at "go1.") => `(tactic| with_reducible refine w_fld ?_)
local macro_rules | `(tactic| walk_at "go1.") => `(tactic| with_reducible refine w_dnew ?_)
local macro_rules | `(tactic| walk_at "go1.") => `(tactic| with_reducible refine w_dput ?_)
local macro_rules | `(tactic| walk_at "go1.") => `(tactic| with_reducible refine w_dget ?_)
local macro_rules | `(tactic| walk_at "go1.") => `(tactic| with_reducible refine w_notNnon ?_)
local macro_rules | `(tactic| walk_at "go1.") => `(tactic| with_reducible refine w_isNnon ?_)
local macro_rules | `(tactic| walk_at "go1.") => `(tactic| with_reducible refine w_notNint ?_)
local macro_rules | `(tactic| walk_at "go1.") => `(tactic| with_reducible refine w_isNint ?_)
local macro_rules | `(tactic| walk_at "go1.") => `(tactic| with_reducible refine w_notNref ?_)
local macro_rules | `(tactic| walk_at "go1.") => `(tactic| with_reducible refine w_isNref ?_)
local macro_rules | `(tactic| walk_at "go1.") => `(tactic| with_reducible refine w_rng2 ?_)
local macro_rules | `(tactic| walk_at "go1.") => `(tactic| with_reducible refine w_enum ?_)
local macro_rules | `(tactic| walk_at "go1.") => `(tactic| with_reducible refine w_gNil ?_)
local macro_rules | `(tactic| walk_at "go1.") => `(tactic| with_reducible refine w_gCons ?_)
local macro_rules | `(tactic| walk_at "go1.") => `(tactic| ((with_reducible refine w_gTup (xs := ?xs) ?h ?l ?_); (case h => walk_at "sq"); (case l => rfl)))
local macro_rules | `(tactic| walk_at "go1.") => `(tactic| ((with_reducible refine w_gTupN ?l ?_); (case l => rfl)))
local macro_rules | `(tactic| walk_at "go1.") => `(tactic| with_reducible refine w_gN ?_)
local macro_rules | `(tactic| walk_at "go1.") => `(tactic| with_reducible refine w_tYes ?_)
local macro_rules | `(tactic| walk_at "go1.") => `(tactic| with_reducible refine w_noP ?_)
local macro_rules | `(tactic| walk_at "go1.") => `(tactic| with_reducible refine w_sl ?_)
local macro_rules | `(tactic| walk_at "go1.") => `(tactic| with_reducible refine w_iseq ?_)
local macro_rules | `(tactic| walk_at "go1.") => `(tactic| with_reducible refine w_rng1 ?_)
local macro_rules | `(tactic| walk_at "go1.") => `(tactic| with_reducible refine w_for ?_)
local macro_rules | `(tactic| walk_at "go1.") => `(tactic| ((with_reducible refine w_no ?e ?_); (case e => walk_at "tr")))
local macro_rules | `(tactic| walk_at "go1.") => `(tactic| ((with_reducible refine w_yes ?e ?_); (case e => walk_at "tr")))
local macro_rules | `(tactic| walk_at "go1.") => `(tactic| with_reducible refine w_intI ?_)
local macro_rules | `(tactic| walk_at "go1.") => `(tactic| with_reducible refine w_intB ?_)
local macro_rules | `(tactic| walk_at "go1.") => `(tactic| with_reducible refine w_neg ?_)
local macro_rules | `(tactic| walk_at "go1.") => `(tactic| with_reducible refine w_un ?_)
local macro_rules | `(tactic| walk_at "go1.") => `(tactic| with_reducible refine w_notV ?_)
local macro_rules | `(tactic| walk_at "go1.") => `(tactic| with_reducible refine w_orV ?_)
local macro_rules | `(tactic| walk_at "go1.") => `(tactic| with_reducible refine w_andV ?_)
local macro_rules | `(tactic| walk_at "go1.") => `(tactic| with_reducible refine w_not ?_)
local macro_rules | `(tactic| walk_at "go1.") => `(tactic| with_reducible refine w_or ?_)
local macro_rules | `(tactic| walk_at "go1.") => `(tactic| with_reducible refine w_and ?_)
local macro_rules | `(tactic| walk_at "go1.") => `(tactic| with_reducible refine w_ge ?_)
local macro_rules | `(tactic| walk_at "go1.") => `(tactic| with_reducible refine w_gt ?_)
local macro_rules | `(tactic| walk_at "go1.") => `(tactic| with_reducible refine w_le ?_)
local macro_rules | `(tactic| walk_at "go1.") => `(tactic| with_reducible refine w_lt ?_)
local macro_rules | `(tactic| walk_at "go1.") => `(tactic| ((with_reducible refine w_div ?c ?_); (case c => (first | exact ⟨by decide, by decide⟩ | exact ⟨by omega, by omega⟩))))
local macro_rules | `(tactic| walk_at "go1.") => `(tactic| ((with_reducible refine w_mod ?c ?_); (case c => (first | decide | omega))))
local macro_rules | `(tactic| walk_at "go1.") => `(tactic| with_reducible refine w_sub ?_)
local macro_rules | `(tactic| walk_at "go1.") => `(tactic| with_reducible refine w_addI ?_)
local macro_rules | `(tactic| walk_at "go1.") => `(tactic| with_reducible refine w_neS ?_)
local macro_rules | `(tactic| walk_at "go1.") => `(tactic| with_reducible refine w_neI ?_)
local macro_rules | `(tactic| walk_at "go1.") => `(tactic| with_reducible refine w_eqS ?_)
local macro_rules | `(tactic| walk_at "go1.") => `(tactic| with_reducible refine w_eqI ?_)
local macro_rules | `(tactic| walk_at "go1.") => `(tactic| ((with_reducible refine w_ixL (xs := ?xs) (v := ?v) ?h ?e ?_); (case h => walk_at "sq"); (case e => rfl)))
local macro_rules | `(tactic| walk_at "go1.") => `(tactic| ((with_reducible refine w_ixT (xs := ?xs) (v := ?v) ?h ?e ?_); (case h => walk_at "sq"); (case e => rfl)))
local macro_rules | `(tactic| walk_at "go1.") => `(tactic| with_reducible refine w_bl ?_)
local macro_rules | `(tactic| walk_at "go1.") => `(tactic| with_reducible refine w_cb ?_)
local macro_rules | `(tactic| walk_at "go1.") => `(tactic| with_reducible refine w_f ?_)
local macro_rules | `(tactic| walk_at "go1.") => `(tactic| with_reducible refine w_nil ?_)
local macro_rules | `(tactic| walk_at "go1.") => `(tactic| with_reducible refine w_cons ?_)
local macro_rules | `(tactic| walk_at "go1.") => `(tactic| ((with_reducible refine w_var (v := ?v) ?h ?_); (case h => rfl)))
local macro_rules | `(tactic| walk_at "go1.") => `(tactic| with_reducible refine w_c ?_)
local macro_rules | `(tactic| walk_at "go1.") => `(tactic| with_reducible refine w_op ?_)
local macro_rules | `(tactic| walk_at "go1.") => `(tactic| with_reducible refine w_tB ?_)
local macro_rules | `(tactic| walk_at "go1.") => `(tactic| with_reducible refine w_test ?_)
local macro_rules | `(tactic| walk_at "go1.") => `(tactic| with_reducible refine w_drop ?_)
local macro_rules | `(tactic| walk_at "go1.") => `(tactic| with_reducible refine w_next ?_)
local macro_rules | `(tactic| walk_at "go1.") => `(tactic| with_reducible refine w_ret ?_)
local macro_rules | `(tactic| walk_at "go1.") => `(tactic| with_reducible refine w_asgT ?_)
local macro_rules | `(tactic| walk_at "go1.") => `(tactic| with_reducible refine w_asg ?_)
local macro_rules | `(tactic| walk_at "go1.") => `(tactic| with_reducible refine w_if ?_)
local macro_rules | `(tactic| walk_at "go1.") => `(tactic| with_reducible refine w_seq ?_)
local macro_rules | `(tactic| walk_at "go1") => `(tactic| first | walk_at "go1." | fail)
local macro_rules | `(tactic| walk_at "go") => `(tactic| repeat walk_at "go1")
local macro_rules | `(tactic| walk_at "gn") => `(tactic| repeat ((fail_if_success (with_reducible refine w_next ?_)); walk_at "go1"))
local macro_rules | `(tactic| walk_at "sz1") => `(tactic| (simp only [List.length_cons, List.length_nil, List.length_map]; omega))
local macro_rules | `(tactic| walk_at "ss.") => `(tactic| ((with_reducible refine same_mutX (H := ?M) ?a ?n ?b); (case b => with_reducible assumption); (case n => walk_at "nn"); (case a => walk_at "ss")))
local macro_rules | `(tactic| walk_at "ss.") => `(tactic| ((with_reducible refine Same.trans (H1 := ?M) ?a ?b); (case b => with_reducible assumption); (case a => walk_at "ss")))
local macro_rules | `(tactic| walk_at "ss.") => `(tactic| with_reducible exact Same.refl _)
local macro_rules | `(tactic| walk_at "ss.") => `(tactic| with_reducible assumption)
local macro_rules | `(tactic| walk_at "ss") => `(tactic| first | walk_at "ss." | fail)
local macro_rules | `(tactic| walk_at "nn.") => `(tactic| ((with_reducible refine none_of (H' := ?M) ?e ?h); (case h => with_reducible assumption); (case e => walk_at "ss")))
local macro_rules | `(tactic| walk_at "nn.") => `(tactic| with_reducible assumption)
local macro_rules | `(tactic| walk_at "nn") => `(tactic| first | walk_at "nn." | fail)
local macro_rules | `(tactic| walk_at "lk.") => `(tactic| ((with_reducible refine same_look (H := ?M) ?e ?h); (case h => with_reducible assumption); (case e => walk_at "ss")))
local macro_rules | `(tactic| walk_at "lk.") => `(tactic| with_reducible assumption)
local macro_rules | `(tactic| walk_at "lk") => `(tactic| first | walk_at "lk." | fail)
local macro_rules | `(tactic| walk_at "hp.") => `(tactic| ((with_reducible refine PrAt.mono (H := ?M) ?e ?h); (case h => with_reducible assumption); (case e => walk_at "ss")))
local macro_rules | `(tactic| walk_at "hp.") => `(tactic| ((with_reducible refine RwAt.monoS (H := ?M) ?e ?h); (case h => with_reducible assumption); (case e => walk_at "ss")))
local macro_rules | `(tactic| walk_at "hp.") => `(tactic| ((with_reducible refine BkAt.monoS (H := ?M) ?e ?h); (case h => with_reducible assumption); (case e => walk_at "ss")))
local macro_rules | `(tactic| walk_at "hp.") => `(tactic| ((with_reducible refine FmAt.mono (H := ?M) ?e ?h); (case h => with_reducible assumption); (case e => walk_at "ss")))
local macro_rules | `(tactic| walk_at "hp.") => `(tactic| ((with_reducible refine sq_l (H := ?M) ?e ?h); (case h => with_reducible assumption); (case e => walk_at "ss")))
local macro_rules | `(tactic| walk_at "hp.") => `(tactic| ((with_reducible refine sq_t (H := ?M) ?e ?h); (case h => with_reducible assumption); (case e => walk_at "ss")))
local macro_rules | `(tactic| walk_at "hp.") => `(tactic| ((with_reducible refine same_l (H := ?M) ?e ?h); (case h => with_reducible assumption); (case e => walk_at "ss")))
local macro_rules | `(tactic| walk_at "hp.") => `(tactic| ((with_reducible refine same_t (H := ?M) ?e ?h); (case h => with_reducible assumption); (case e => walk_at "ss")))
local macro_rules | `(tactic| walk_at "hp.") => `(tactic| walk_at "lk")
local macro_rules | `(tactic| walk_at "hp.") => `(tactic| with_reducible assumption)
local macro_rules | `(tactic| walk_at "hp") => `(tactic| first | walk_at "hp." | fail)
local macro_rules | `(tactic| walk_at "gx1.") => `(tactic| ((with_reducible refine w_yes ?e ?_); (case e => (simp only [eq_self_iff_true, decide_true, Bool.not_false]; done))))
local macro_rules | `(tactic| walk_at "gx1.") => `(tactic| ((with_reducible refine w_no ?e ?_); (case e => (simp only [eq_self_iff_true, decide_true, Bool.not_true]; done))))
local macro_rules | `(tactic| walk_at "gx1.") => `(tactic| walk_at "go1")
local macro_rules | `(tactic| walk_at "gx1.") => `(tactic| ((with_reducible refine w_gTup (xs := ?xs) ?h ?l ?_); (case h => walk_at "hp"); (case l => rfl)))
local macro_rules | `(tactic| walk_at "gx1.") => `(tactic| ((with_reducible refine w_lenT (xs := ?xs) ?h ?_); (case h => walk_at "hp")))
local macro_rules | `(tactic| walk_at "gx1.") => `(tactic| ((with_reducible refine w_lenL (xs := ?xs) ?h ?_); (case h => walk_at "hp")))
local macro_rules | `(tactic| walk_at "gx1.") => `(tactic| ((with_reducible refine w_bmL (xs := ?xs) ?h ?_); (case h => walk_at "hp")))
local macro_rules | `(tactic| walk_at "gx1.") => `(tactic| ((with_reducible refine w_ixL (xs := ?xs) (v := ?v) ?h ?e ?_); (case h => walk_at "hp"); (case e => rfl)))
local macro_rules | `(tactic| walk_at "gx1.") => `(tactic| ((with_reducible refine w_ixT (xs := ?xs) (v := ?v) ?h ?e ?_); (case h => walk_at "hp"); (case e => rfl)))
local macro_rules | `(tactic| walk_at "gx1.") => `(tactic| ((with_reducible refine w_nw ?z (fun p H2 hn he hp => ?_)); (case z => walk_at "sz")))
local macro_rules | `(tactic| walk_at "gx1.") => `(tactic| with_reducible refine w_tup' ?_)
local macro_rules | `(tactic| walk_at "gx1.") => `(tactic| with_reducible refine w_lst' ?_)
local macro_rules | `(tactic| walk_at "gx1") => `(tactic| first | walk_at "gx1." | fail)
local macro_rules | `(tactic| walk_at "gx") => `(tactic| repeat walk_at "gx1")
local macro_rules | `(tactic| walk_at "gxn") => `(tactic| repeat ((fail_if_success (with_reducible refine w_next ?_)); walk_at "gx1"))
def rLenDk : List V → Hp → VK → Prop := fun xs H Q => ∃ (a : Addr) (kvs : List (Key × V)), xs = [V.ref a] ∧ H a = some (.dK kvs) ∧ Q (.int kvs.length) H
def rSortDk : List V → Hp → VK → Prop := fun xs H Q => ∃ (a : Addr) (kvs : List (Key × V)) (ks : List Str), xs = [.ref a] ∧ Rd H a (.dK kvs) ∧ kvs.map (·.1) = ks.map Sum.inr ∧ ks.length < 64 ∧
    ∀ ys p, ys.Perm ks → sortedS ys = true → H p = none → Q (.ref p) (upd H p (.lst (ys.map V.str)))
def begG (l : List Str) (g : Str → Int) : Str → Int := fun x => if x ∈ l then g x else 0
def NmAt (K : PySem.W.Frag) (H : Hp) (g : Str → Int) (v : V) (x : Str) : Prop := ∃ t, v = .ref t ∧ SqT K H t [.str x, .int (g x)]
theorem NmAt.monoT {K : PySem.W.Frag} {H H' : Hp} {g : Str → Int} (e : SameT H H') {v : V} {x : Str} (h : NmAt K H g v x) : NmAt K H' g v x := by
  obtain ⟨t, h1, h2⟩ := h
  exact ⟨t, h1, sameT_t e h2⟩
/-- what a run is asked with -/
structure RunPre (K : PySem.W.Frag) (H : Hp) (a D : Addr) (os ss ns : List Str) (b : List Rw) (g : Str → Int) : Prop where
  pr : PrAt K H a os ss b
  hD : H D = some (.dK (kvN (os ++ ss) g))
  in6 : ∀ x ∈ os ++ ss, In6 (g x)
  told : Told os ss
  ok : oks ns b
  nl : ns.length ≤ 200
  nest : nests b ≤ 8
  size : szs b ≤ 900
/-- the tuple that is told of a run -/
structure RunAt (K : PySem.W.Frag) (H : Hp) (T P L : Addr) (nl : List Str) (w : Str) (r : Nat) (s : MS) : Prop where
  ht : SqT K H T [.str w, .int (r : Nat), .ref P, .ref L]
  hp : ∃ us, H P = some (.lst us) ∧ All2 (NmAt K H s.g) us nl
  hl : H L = some (.lst (s.said.map V.int))
noncomputable def namesP (os ss : List Str) (b : List Rw) : List Str := sortU ((os ++ ss) ++ bnms b)
def sp_need_values (K : PySem.W.Frag) : Sp := fun vs H Q _ => ∃ (a D : Addr) (os ss ns : List Str) (b : List Rw) (g : Str → Int), vs = [.ref a, .ref D] ∧ RunPre K H a D os ss ns b g ∧ ∀ H', Same H H' → Q .non H'
noncomputable def sp_run (K : PySem.W.Frag) : Sp := fun vs H Q _ => ∃ (a D : Addr) (os ss ns : List Str) (b : List Rw) (g : Str → Int) (t : Nat), vs = [.ref a, .ref D, .int (t : Nat)] ∧ RunPre K H a D os ss ns b g ∧ t ≤ 1000 ∧
  ∀ (T P L : Addr) (H' : Hp) (w : Str) (r n : Nat) (s : MS), Same H H' → H P = none → H L = none → P ≠ L → RunAt K H' T P L (namesP os ss b) w r s → MvN n (items 1 [] b) ⟨begG (os ++ ss) g, t, []⟩ w r s →
    (∀ x ∈ namesP os ss b, In6 (s.g x)) → s.said.length ≤ 2000000 → Q (.ref T) H'
abbrev N_need_values : List Str := ["program", "values", "told", "name"]
noncomputable def t_need_values_j1 (K : PySem.W.Frag) : TS :=
  (tFor (iSeq K (tOp (rAdd K) (tOp (rIx K) (tVar 2) (tC (.int 0))) (tOp (rIx K) (tVar 2) (tC (.int 1))))) (gName 3) (tIfS (tOr (tTest (tOp (rDIn true) (tVar 3) (tVar 1))) (tNot (tB (tF (sp_is_number K) (tCons (tDGet (tVar 1) (tVar 3)) tNil))))) tNever tNext))
noncomputable def t_need_values (K : PySem.W.Frag) : TS :=
  (tSeq (tAsg (tM K "Program" as_Program "told" (sp_Program_told K) (tVar 0) tNil) (gName 2)) (tSeq (tIfS (tOr (tNot (tB (tCB (rIsi2 K) (tCons (tVar 1) (tCons (tC (.ty "dict")) tNil))))) (tTest (tOp (rNe2 K) (tCB rLenDk (tCons (tVar 1) tNil)) (tOp (rAdd K) (tCB (rLenA K) (tCons (tOp (rIx K) (tVar 2) (tC (.int 0))) tNil)) (tCB (rLenA K) (tCons (tOp (rIx K) (tVar 2) (tC (.int 1))) tNil)))))) tNever tNext) (t_need_values_j1 K)))
abbrev N_run : List Str := ["program", "values", "turns", "begun", "name", "runner", "pairs"]
noncomputable def t_run_j1 (K : PySem.W.Frag) : TS :=
  (tSeq (tAsg (tCB (rDictP K) (tCons (tLc (iSeq K (tM K "Program" as_Program "names" (sp_Program_names K) (tVar 0) tNil)) (gName 4) tYes (tTup (tCons (tVar 4) (tCons (tDGet2 (tVar 1) (tVar 4) (tC (.int 0))) tNil))) [4]) tNil)) (gName 3)) (tSeq (tAsg (tMk K "Runner" as_Runner (sp_Runner___init__ K) (tCons (tVar 3) (tCons (tVar 2) tNil))) (gName 5)) (tSeq (tDrop (tF (sp_gone K 8) (tCons (tVar 5) (tCons (tM K "Program" as_Program "block" (sp_Program_block K) (tVar 0) tNil) (tCons (tC (.int 1)) tNil))))) (tSeq (tAsg (tLc (iSeq K (tM K "Program" as_Program "names" (sp_Program_names K) (tVar 0) tNil)) (gName 4) tYes (tTup (tCons (tVar 4) (tCons (tDGet (tFld K (tVar 5) "numbers") (tVar 4)) tNil))) [4]) (gName 6)) (tRet (tTup (tCons (tFld K (tVar 5) "way") (tCons (tFld K (tVar 5) "row") (tCons (tVar 6) (tCons (tFld K (tVar 5) "said") tNil))))))))))
noncomputable def t_run (K : PySem.W.Frag) : TS :=
  (tSeq (tDrop (tF (sp_need_values K) (tCons (tVar 0) (tCons (tVar 1) tNil)))) (tSeq (tIfS (tOr (tNot (tB (tF (sp_is_whole K) (tCons (tVar 2) tNil)))) (tNot (tTest (tChain rLe rLe (tC (.int 0)) (tVar 2) (tC (.int 1000)))))) tNever tNext) (t_run_j1 K)))
theorem w_dictP {K : PySem.W.Frag} {H : Hp} {Q : VK} {a : Addr} {vs : List V} {kvs : List (Key × V)} (h : SqL K H a vs) (hA : All2 (fun v (kv : Key × V) => ∃ t, v = .ref t ∧ SqT K H t [kV kv.1, kv.2]) vs kvs) (nd : (kvs.map (·.1)).Nodup) (q : ∀ p H', H p = none → Same H H' → H' p = some (.dK kvs) → Q (.ref p) H') : rDictP K [.ref a] H Q := by
  have build : ∀ {vs : List V} {kvs : List (Key × V)}, All2 (fun v (kv : Key × V) => ∃ t, v = .ref t ∧ SqT K H t [kV kv.1, kv.2]) vs kvs → ∃ ps : List Addr, vs = ps.map V.ref ∧ Paired (fun p kv => SqT K H p [kV kv.1, kv.2]) ps kvs := by
    intro vs kvs h
    induction h with
    | nil => exact ⟨[], rfl, .nil⟩
    | cons h t ih =>
      obtain ⟨a, rfl, h⟩ := h
      obtain ⟨ps, e, i⟩ := ih
      exact ⟨a :: ps, by rw [e] <;> rfl, .cons h i⟩
  obtain ⟨ps, rfl, hp⟩ := build hA
  refine ⟨a, ps, kvs, rfl, h, hp, fun p hp => ?_⟩
  rw [merge_nd (acc := []) (by rw [List.map_nil, List.nil_append]; exact nd), List.nil_append]
  exact q p _ hp (same_new hp) upd_same
mutual
theorem ok_own {ns ms : List Str} : ∀ {r : Rw}, r.ok ns → (∀ x ∈ r.nms, x ∈ ms) → r.ok ms
  | .set x f, h, q => ⟨q x List.mem_cons_self, fm_own h.2 fun y hy => q y (List.mem_cons_of_mem _ hy)⟩
  | .tell f, h, q => fm_own h q
  | .skip, _, _ => trivial
  | .ite f a b, h, q => ⟨fm_own h.1 fun y hy => q y (List.mem_append_left _ hy), oks_own h.2.1 fun y hy => q y (List.mem_append_right _ (List.mem_append_left _ hy)), oks_own h.2.2 fun y hy => q y (List.mem_append_right _ (List.mem_append_right _ hy))⟩
  | .whl f a, h, q => ⟨fm_own h.1 fun y hy => q y (List.mem_append_left _ hy), oks_own h.2 fun y hy => q y (List.mem_append_right _ hy)⟩
theorem oks_own {ns ms : List Str} : ∀ {l : List Rw}, oks ns l → (∀ x ∈ bnms l, x ∈ ms) → oks ms l
  | [], _, _ => trivial
  | _ :: _, h, q => ⟨ok_own h.1 fun y hy => q y (List.mem_append_left _ hy), oks_own h.2 fun y hy => q y (List.mem_append_right _ hy)⟩
theorem fm_own {ns ms : List Str} {f : Fm} (h : f.fine ns) (q : ∀ x ∈ f.names, x ∈ ms) : f.fine ms := by
  refine ⟨?_, h.2⟩
  have : ∀ {f : Fm}, f.ok ns → (∀ x ∈ f.names, x ∈ ms) → f.ok ms := by
    intro f
    induction f with
    | num n => exact fun h _ => h
    | nam x => exact fun _ q => q x (List.mem_singleton.mpr rfl)
    | op s a b ia ib => exact fun h q => ⟨ia h.1 fun y hy => q y (List.mem_append_left _ hy), ib h.2 fun y hy => q y (List.mem_append_right _ hy)⟩
  exact this h.1 q
end
theorem RunPre.mono {K : PySem.W.Frag} {H H' : Hp} {a D : Addr} {os ss ns : List Str} {b : List Rw} {g : Str → Int} (e : Same H H') (h : RunPre K H a D os ss ns b g) : RunPre K H' a D os ss ns b g := ⟨h.pr.mono e, e _ _ h.hD, h.in6, h.told, h.ok, h.nl, h.nest, h.size⟩
theorem w_lenDk {H : Hp} {Q : VK} {a : Addr} {kvs : List (Key × V)} (h : H a = some (.dK kvs)) (q : Q (.int kvs.length) H) : rLenDk [.ref a] H Q := ⟨a, kvs, rfl, h, q⟩
theorem kvN_len {ns : List Str} {g : Str → Int} : (kvN ns g).length = ns.length := List.length_map _
theorem kvN_has {ns : List Str} {g : Str → Int} {x : Str} : (valV (kvN ns g) (.inr x)).isSome = decide (x ∈ ns) := by
  by_cases c : x ∈ ns
  · rw [kvN_at c, decide_eq_true c] <;> rfl
  · rw [decide_eq_false c, valV_none (by rw [kvN_keys]; exact fun q => by obtain ⟨y, hy, e⟩ := List.mem_map.mp q; exact c (Sum.inr.inj e ▸ hy))] <;> rfl
theorem kvN_none {ns : List Str} {g : Str → Int} {x : Str} (c : x ∉ ns) : valV (kvN ns g) (.inr x) = none := valV_none (by rw [kvN_keys]; exact fun q => by obtain ⟨y, hy, e⟩ := List.mem_map.mp q; exact c (Sum.inr.inj e ▸ hy))
theorem kvN_nd {ns : List Str} {g : Str → Int} (h : ns.Nodup) : ((kvN ns g).map (·.1)).Nodup := by rw [kvN_keys]; exact nodup_inr h
theorem pure_need_values (K : PySem.W.Frag) (vs : List V) (H : Hp) (Q : VK) (E : XK) (h : sp_need_values K vs H Q E) :
    t_need_values K { nx := fun _ H' => Q .non H', rt := Q } (start N_need_values vs) H := by
  obtain ⟨a, D, os, ss, ns, b, g, rfl, hR, q⟩ := h
  have hP := hR.pr
  have hP' := hP
  obtain ⟨C, dx, o, hh, q', ys0, hI⟩ := hP'
  unfold t_need_values
  walk_at "gx"
  refine w_mAt hI.ha hI.cc rfl ?_
  walk_at "gx"
  refine ⟨a, os, ss, b, rfl, hP, fun pt x y H1 e1 nx ny nxy hpt hx hy => ?_⟩
  have hD1 := e1 _ _ hR.hD
  have l1 := hR.told.l1
  have l2 := hR.told.l2
  walk_at "gx"
  refine w_isi (.base (.dK hD1)) rfl ?_
  walk_at "gx"
  refine w_lenDk hD1 ?_
  walk_at "gx"
  refine w_no (show (!decide (((kvN (os ++ ss) g).length : Int) = ((os.map V.str).length : Nat) + ((ss.map V.str).length : Nat))) = false by rw [kvN_len, List.length_append, List.length_map, List.length_map, decide_eq_true (by omega)] <;> rfl) ?_
  walk_at "gx"
  unfold t_need_values_j1
  walk_at "gx"
  refine w_addL' hx hy (sz (by rw [List.length_map, List.length_map]; omega)) (fun p2 H2 n2 e2 hp2 => ?_)
  rw [← List.map_append] at hp2
  have e12 := e1.trans e2
  refine for_al (as := os ++ ss) (P := fun v x => v = .str x) (fun pre σ H' => Same H2 H' ∧ ∃ w3 : Option V, σ = [some (.ref a), some (.ref D), some (.ref pt), w3]) (.inl (SqL.of hp2)) all2_map ⟨Same.refl _, _, rfl⟩ (fun _ _ _ h => h.1) ?_ ?_
  · rintro pre z post v σ H3 hz rfl ⟨e3, w3, rfl⟩
    have zm : z ∈ os ++ ss := by rw [hz]; simp
    have hD3 := (e2.trans e3) _ _ hD1
    have z6 := hR.in6 z zm
    walk_at "gx"
    refine w_din hD3 ?_
    rw [kvN_has, decide_eq_true zm]
    walk_at "gx"
    refine w_dgetAt hD3 (kvN_at zm) ?_
    walk_at "gx"
    refine ⟨_, rfl, ?_⟩
    rw [decide_eq_true z6.1, decide_eq_true z6.2]
    walk_at "gx"
    exact ⟨e3, _, rfl⟩
  · rintro σ H3 ⟨e3, w3, rfl⟩
    walk_at "gx"
    exact q H3 (e12.trans e3)
theorem w_dget2 {td ty tx : TE} {σ : L2.St} {H : Hp} {Q : VK} (q : td σ H fun x H1 => ∃ a, x = .ref a ∧ IsD H1 a ∧ ty σ H1 fun y H2 => tx σ H2 fun z H3 => ∃ o, DGet H3 a y o ∧ Q (o.getD z) H3) : tDGet2 td ty tx σ H Q := q
theorem kvN_begG {l : List Str} {g : Str → Int} {x : Str} : (valV (kvN l g) (.inr x)).getD (.int 0) = .int (begG l g x) := by
  unfold begG
  by_cases c : x ∈ l
  · rw [kvN_at c, if_pos c] <;> rfl
  · rw [kvN_none c, if_neg c] <;> rfl
theorem run_j1 (K : PySem.W.Frag) (Q : VK) {H H1 : Hp} {a D : Addr} {os ss ns : List Str} {b : List Rw} {g : Str → Int} {t : Nat} (hR : RunPre K H a D os ss ns b g) (ht : t ≤ 1000) (e1 : Same H H1)
    (q : ∀ (T P L : Addr) (H' : Hp) (w : Str) (r n : Nat) (s : MS), Same H H' → H P = none → H L = none → P ≠ L → RunAt K H' T P L (namesP os ss b) w r s → MvN n (items 1 [] b) ⟨begG (os ++ ss) g, t, []⟩ w r s →
      (∀ x ∈ namesP os ss b, In6 (s.g x)) → s.said.length ≤ 2000000 → Q (.ref T) H') :
    t_run_j1 K { nx := fun _ H' => Q .non H', rt := Q } [some (.ref a), some (.ref D), some (.int (t : Nat)), none, none, none, none] H1 := by
  have l1 := hR.told.l1
  have l2 := hR.told.l2
  have nl := hR.nl
  have bz := hR.size
  unfold t_run_j1
  have hP1 := hR.pr.mono e1
  have hP1' := hP1
  obtain ⟨C, dx, o, hh, q', ys0, hI⟩ := hP1'
  walk_at "gx"
  refine w_lc ?_
  walk_at "gx"
  refine w_mAt hI.ha hI.cc rfl ?_
  walk_at "gx"
  refine ⟨a, os, ss, ns, b, rfl, hP1, hR.ok, by omega, by omega, by omega, hR.nest, by omega, fun pn H2 e2 npn hpn is => ?_⟩
  have e02 := e1.trans e2
  have Nsub : ∀ z ∈ namesP os ss b, z ∈ (os ++ ss) ++ ns := fun z hz => by
    rcases List.mem_append.mp ((is.2.2 z).mp hz) with h | h
    · exact List.mem_append_left _ h
    · exact List.mem_append_right _ (bnms_ok hR.ok z h)
  have Nl := nodup_le is.2.1 Nsub
  rw [List.length_append, List.length_append] at Nl
  have Nnd : (namesP os ss b).Nodup := is.2.1
  have bN : ∀ x ∈ bnms b, x ∈ namesP os ss b := fun x hx => (is.2.2 x).mpr (List.mem_append_right _ hx)
  have hpn : H2 pn = some (.lst ((namesP os ss b).map V.str)) := hpn
  have Nl : (namesP os ss b).length ≤ os.length + ss.length + ns.length := Nl
  have hD2 := e02 _ _ hR.hD
  generalize hN : namesP os ss b = N at *
  refine lc_all (as := N) (P := fun v x => v = .str x) (fun H v x => ∃ T, v = .ref T ∧ SqT K H T [.str x, .int (begG (os ++ ss) g x)]) (.inl (SqL.of hpn)) all2_map (by omega) (fun _ _ _ _ e ⟨T, h1, h2⟩ => ⟨T, h1, sameT_t e h2⟩) ?_ ?_
  · rintro D3 v x H3 Nx hx rfl e3 ⟨_, _⟩ kk
    have hD3 := e3 _ _ hD2
    refine ⟨rfl, ?_⟩
    walk_at "gx"
    refine w_dget2 ?_
    walk_at "gx"
    refine ⟨D, rfl, .inl ⟨_, .inl hD3⟩, ?_⟩
    walk_at "gx"
    refine ⟨_, DGet.k (k := .inr x) hD3, ?_⟩
    rw [kvN_begG]
    walk_at "gx"
    rename_i p4 H4 n4 e4 hp4
    exact kk _ _ e4 ⟨p4, rfl, SqT.of hp4⟩
  · intro D3 H3 us e3 nD3 hD3 hA
    have hA2 : All2 (fun v (kv : Key × V) => ∃ T, v = .ref T ∧ SqT K H3 T [kV kv.1, kv.2]) us (kvN N (begG (os ++ ss) g)) := by
      clear hD3 nD3 is Nsub Nl Nnd bN hpn q hN
      induction hA with
      | nil => exact .nil
      | cons h t ih => exact .cons h ih
    have e03 := e02.trans e3
    walk_at "gx"
    refine w_dictP (SqL.of hD3) hA2 (kvN_nd Nnd) (fun B H4 nB e4 hB => ?_)
    have e04 := e03.trans e4
    walk_at "gx"
    intro rn C2 dx2 cc2 nrn ndx ndx2
    have e5 := (same_new (o := .own rn) ndx).trans (same_new (o := .ins C2 dx2 []) (by rw [upd_ne ndx2.symm]; exact nrn))
    have hrn5 : upd (upd H4 dx2 (.own rn)) rn (.ins C2 dx2 []) rn = _ := upd_same
    generalize upd (upd H4 dx2 (.own rn)) rn (.ins C2 dx2 []) = H5 at e5 hrn5
    have hB5 := e5 _ _ hB
    refine ⟨rn, B, C2, dx2, N, begG (os ++ ss) g, t, rfl, hrn5, cc2, hB5, fun H6 L x6 nL hR6 => ⟨rfl, ?_⟩⟩
    have e46 : Same H4 H6 := SameX.same e5 nrn x6
    have e06 := e04.trans e46
    have L0 : H4 L = none := none_of e5 nL
    have hP6 := hR.pr.mono e06
    have hP6' := hP6
    obtain ⟨C3, dx3, o3, hh3, q3, ys3, hI3⟩ := hP6'
    walk_at "gx"
    refine w_mAt hI3.ha hI3.cc rfl ?_
    walk_at "gx"
    refine ⟨a, os, ss, b, rfl, hP6, fun qb ys hqb hys => ?_⟩
    walk_at "gx"
    have g6 : ∀ x, In6 (begG (os ++ ss) g x) := fun x => by
      unfold begG
      by_cases c : x ∈ os ++ ss
      · rw [if_pos c]; exact hR.in6 x c
      · rw [if_neg c]; exact ⟨by decide, by decide⟩
    refine ⟨rn, B, L, C2, dx2, qb, ys, b, 1, [], N, bnms b, ⟨begG (os ++ ss) g, t, []⟩, rfl, hR6, hqb, hys, oks_own hR.ok (fun _ h => h), hR.nest, hR.nest, by omega, ⟨bN, fun x _ => g6 x, by omega, by simp only [List.length_nil]; omega⟩, fun H7 c w r s hR7 r7 t7 p7 g7 => ?_⟩
    have rn0 : H rn = none := none_of e04 nrn
    have B0 : H B = none := none_of e03 nB
    have L00 : H L = none := none_of e04 L0
    have e07 : Same H H7 := fun x u hx => r7 x u (ne_of_none hx rn0) (ne_of_none hx B0) (ne_of_none hx L00) (e06 x u hx)
    obtain ⟨n, run⟩ : ∃ n, MvN n (items 1 [] b) ⟨begG (os ++ ss) g, t, []⟩ w r s := by
      rcases g7 with ⟨_, rfl, rfl, g7⟩ | ⟨_, g7⟩
      · obtain ⟨m, g8⟩ := g7 [] 0 "done" 0 s .done
        rw [List.append_nil] at g8
        exact ⟨m, g8⟩
      · obtain ⟨m, g8⟩ := g7 []
        rw [List.append_nil] at g8
        exact ⟨m, g8⟩
    have sl : s.said.length ≤ 2000000 := by
      have h1 : s.said.length ≤ 0 + szs b + (t - s.turns) * 1000 := p7.said
      have h2 : (t - s.turns) * 1000 ≤ 1000 * 1000 := Nat.mul_le_mul_right _ (by omega)
      omega
    have hP7 := hR.pr.mono e07
    have hP7' := hP7
    obtain ⟨C4, dx4, o4, hh4, q4, ys4, hI4⟩ := hP7'
    walk_at "gx"
    refine w_lc ?_
    walk_at "gx"
    refine w_mAt hI4.ha hI4.cc rfl ?_
    walk_at "gx"
    refine ⟨a, os, ss, ns, b, rfl, hP7, hR.ok, by omega, by omega, by omega, hR.nest, by omega, fun pn8 H8 e8 npn8 hpn8 is8 => ?_⟩
    have hpn8 : H8 pn8 = some (.lst ((namesP os ss b).map V.str)) := hpn8
    rw [hN] at hpn8
    have hR8 := hR7.mono e8
    refine lc_all (as := N) (P := fun v x => v = .str x) (fun H v x => NmAt K H s.g v x) (.inl (SqL.of hpn8)) all2_map (by omega) (fun _ _ _ _ e h => h.monoT e) ?_ ?_
    · rintro D9 v x H9 Nx hx rfl e9 ⟨_, _⟩ kk
      have hR9 := hR8.mono e9
      refine ⟨rfl, ?_⟩
      walk_at "gx"
      refine w_fldAt hR9.ha hR9.cc (by simp) rfl ?_
      walk_at "gx"
      refine w_dgetAt hR9.hD (kvN_at hx) ?_
      walk_at "gx"
      rename_i p4 H10 n10 e10 hp10
      exact kk _ _ e10 ⟨p4, rfl, SqT.of hp10⟩
    · intro P H9 us9 e9 nP hP9 hA9
      have hR9 := hR8.mono e9
      walk_at "gx"
      refine w_fldAt hR9.ha hR9.cc (by simp) rfl ?_
      walk_at "gx"
      refine w_fldAt hR9.ha hR9.cc (by simp) rfl ?_
      walk_at "gx"
      refine w_fldAt hR9.ha hR9.cc (by simp) rfl ?_
      walk_at "gx"
      rename_i T H10 n10 e10 hT10
      have e710 := e8.trans (e9.trans e10)
      exact q T P L H10 w r n s (e07.trans e710) (none_of (e07.trans e8) nP) L00 (ne_of_none hR8.hL nP).symm ⟨SqT.of hT10, ⟨us9, e10 _ _ hP9, hA9.imp fun _ _ h => h.monoT (SameT.of e10)⟩, e10 _ _ hR9.hL⟩ run p7.in6 sl
theorem pure_run (K : PySem.W.Frag) (vs : List V) (H : Hp) (Q : VK) (E : XK) (h : sp_run K vs H Q E) :
    t_run K { nx := fun _ H' => Q .non H', rt := Q } (start N_run vs) H := by
  obtain ⟨a, D, os, ss, ns, b, g, t, rfl, hR, ht, q⟩ := h
  have l1 := hR.told.l1
  have l2 := hR.told.l2
  have nl := hR.nl
  have bz := hR.size
  unfold t_run
  walk_at "gx"
  refine ⟨a, D, os, ss, ns, b, g, rfl, hR, fun H1 e1 => ?_⟩
  walk_at "gx"
  refine ⟨_, rfl, ?_⟩
  walk_at "gx"
  refine w_yes (decide_eq_true (by omega)) ?_
  walk_at "gx"
  refine w_no (show (!decide (((t : Nat) : Int) ≤ 1000)) = false by rw [decide_eq_true (by omega)] <;> rfl) ?_
  walk_at "gx"
  exact run_j1 K Q hR ht e1 q
def sp_law_value (K : PySem.W.Frag) (n : Nat) : Sp := fun vs H Q _ => ∃ (v : V) (f : Fm) (a : Addr) (ns : List Str) (g : Str → Int), vs = [v, .ref a] ∧ FmAt K H v f ∧ f.ok ns ∧ f.depth ≤ n ∧ DAt H a ns g ∧ (∀ x ∈ ns, In6 (g x)) ∧ ∀ H', Same H H' → Q (OV (f.reck g)) H'
def sp_law_values (K : PySem.W.Frag) : Sp := fun vs H Q _ => ∃ (a l : Addr) (cs : List Int) (i0 : Int) (ns : List Str), vs = [.ref a, .int i0, .ref l] ∧ SqL K H a (cs.map V.int) ∧ 0 ≤ i0 ∧ SqL K H l (ns.map V.str) ∧ ns.Nodup ∧ ns.length ≤ 1000 ∧
  ∀ (D : Addr) (H' : Hp) (g : Str → Int), Same H H' → H D = none → H' D = some (.dK (kvN ns g)) → (∀ x ∈ ns, In6 (g x)) → Q (.ref D) H'
abbrev N_law_value : List Str := ["_law_formula", "_law_values_here", "_law_one", "_law_other"]
noncomputable def t_law_value (K : PySem.W.Frag) (n : Nat) : TS :=
  (tSeq (tIfS (tTest (tOp (rEq2 K) (tOp (rIx K) (tVar 0) (tC (.int 0))) (tC (.str "number")))) (tRet (tOp (rIx K) (tVar 0) (tC (.int 1)))) tNext) (tSeq (tIfS (tTest (tOp (rEq2 K) (tOp (rIx K) (tVar 0) (tC (.int 0))) (tC (.str "name")))) (tRet (tDGet (tVar 1) (tOp (rIx K) (tVar 0) (tC (.int 1))))) tNext) (tSeq (tAsg (tF (sp_law_value K n) (tCons (tOp (rIx K) (tVar 0) (tC (.int 1))) (tCons (tVar 1) tNil))) (gName 2)) (tSeq (tAsg (tF (sp_law_value K n) (tCons (tOp (rIx K) (tVar 0) (tC (.int 2))) (tCons (tVar 1) tNil))) (gName 3)) (tSeq (tIfS (tOr (tTest (tOp (rIsN2 false) (tVar 2) (tC .non))) (tOr (tTest (tOp (rIsN2 false) (tVar 3) (tC .non))) (tAnd (tTest (tOp (rEq2 K) (tOp (rIx K) (tVar 0) (tC (.int 0))) (tC (.str "/")))) (tTest (tOp (rEq2 K) (tVar 3) (tC (.int 0))))))) (tRet (tC .non)) tNext) (tSeq (tIfS (tTest (tOp (rEq2 K) (tOp (rIx K) (tVar 0) (tC (.int 0))) (tC (.str "/")))) (tRet (tOp rDiv (tVar 2) (tVar 3))) tNext) (tSeq (tIfS (tOr (tTest (tOp (rEq2 K) (tOp (rIx K) (tVar 0) (tC (.int 0))) (tC (.str "<")))) (tTest (tOp (rEq2 K) (tOp (rIx K) (tVar 0) (tC (.int 0))) (tC (.str "="))))) (tRet (tCB rInt (tCons (tOrV (tAndV (tOp rLt (tVar 2) (tVar 3)) (tOp (rEq2 K) (tOp (rIx K) (tVar 0) (tC (.int 0))) (tC (.str "<")))) (tAndV (tOp (rEq2 K) (tVar 2) (tVar 3)) (tOp (rEq2 K) (tOp (rIx K) (tVar 0) (tC (.int 0))) (tC (.str "="))))) tNil))) tNext) (tSeq (tIfS (tTest (tOp (rEq2 K) (tOp (rIx K) (tVar 0) (tC (.int 0))) (tC (.str "*")))) (tRet (tOp rMod (tOp rMul (tVar 2) (tVar 3)) (tOp rPow (tC (.int 10)) (tC (.int 6))))) tNext) (tRet (tOp rMod (tOp (rAdd K) (tVar 2) (tOp (rIx K) (tLst (tCons (tVar 3) (tCons (tUn rNeg (tVar 3)) tNil))) (tCB rInt (tCons (tOp (rEq2 K) (tOp (rIx K) (tVar 0) (tC (.int 0))) (tC (.str "-"))) tNil)))) (tOp rPow (tC (.int 10)) (tC (.int 6)))))))))))))
theorem pure_law_value (K : PySem.W.Frag) (n : Nat) (vs : List V) (H : Hp) (Q : VK) (E : XK) (h : sp_law_value K (n + 1) vs H Q E) :
    t_law_value K n { nx := fun _ H' => Q .non H', rt := Q } (start N_law_value vs) H := by
  obtain ⟨v, f, a, ns, g, rfl, hf, ho, hd, hA, hg, q⟩ := h
  unfold t_law_value
  cases hf with
  | num h =>
    walk_at "go"
    exact q _ (Same.refl _)
  | nam h =>
    obtain ⟨kvs, hk, hv⟩ := hA
    walk_at "go"
    exact w_dgetAt hk (hv _ ho) (q _ (Same.refl _))
  | @op p s u v f f2 h h1 h2 =>
    have e1 := sg_num s
    have e2 := sg_nam s
    have l1 : f.depth ≤ n := by simp only [Fm.depth] at hd; omega
    have l2 : f2.depth ≤ n := by simp only [Fm.depth] at hd; omega
    walk_at "go"
    refine ⟨_, f, a, ns, g, rfl, h1, ho.1, l1, hA, hg, fun H1 e3 => ?_⟩
    walk_at "go"
    refine ⟨_, f2, a, ns, g, rfl, h2.mono e3, ho.2, l2, hA.mono e3, hg, fun H2 e4 => ?_⟩
    have h := same_t (e3.trans e4) h
    walk_at "go"
    cases c1 : f.reck g with
    | none =>
      walk_at "go"
      simp only [Fm.reck, c1] at q
      exact q _ (e3.trans e4)
    | some i =>
      cases c2 : f2.reck g with
      | none =>
        walk_at "go"
        simp only [Fm.reck, c1, c2] at q
        exact q _ (e3.trans e4)
      | some j =>
        simp only [Fm.reck, c1, c2] at q
        have hi := Fm.reck_in hg ho.1 c1
        have hj := Fm.reck_in hg ho.2 c2
        have p6 : (10 : Int) ^ (6 : Int).toNat = 1000000 := by decide
        cases s with
        | add =>
          walk_at "go"
          refine w_new (by walk_at "sz") (fun p1 hp1 => ?_)
          walk_at "go"
          refine w_ixL (SqL.of upd_same) (v := .int j) rfl ?_
          walk_at "go"
          refine w_pow ⟨by decide, by decide, by decide⟩ ?_
          rw [p6]
          refine w_mod (by decide) ?_
          exact q _ ((e3.trans e4).trans (same_new hp1))
        | sub =>
          walk_at "go"
          refine w_new (by walk_at "sz") (fun p1 hp1 => ?_)
          walk_at "go"
          refine w_ixL (SqL.of upd_same) (v := .int (-j)) rfl ?_
          walk_at "go"
          refine w_pow ⟨by decide, by decide, by decide⟩ ?_
          rw [p6, show i + -j = i - j from rfl]
          refine w_mod (by decide) ?_
          exact q _ ((e3.trans e4).trans (same_new hp1))
        | mul =>
          walk_at "go"
          refine w_mulI (.inl ⟨by have := hi.1; omega, by have := hi.2; omega⟩) ?_
          walk_at "go"
          refine w_pow ⟨by decide, by decide, by decide⟩ ?_
          rw [p6]
          refine w_mod (by decide) ?_
          exact q _ (e3.trans e4)
        | lt =>
          walk_at "go"
          refine w_two (fun e => ?_) (fun e => ?_)
          · walk_at "go"
            rw [Sg.put, e] at q
            exact q _ (e3.trans e4)
          · walk_at "go"
            refine w_two (fun e' => ?_) (fun e' => ?_)
            · walk_at "go"
              rw [Sg.put, e] at q
              exact q _ (e3.trans e4)
            · walk_at "go"
              rw [Sg.put, e] at q
              exact q _ (e3.trans e4)
        | eq =>
          walk_at "go"
          refine w_two (fun e => ?_) (fun e => ?_)
          · walk_at "go"
            refine w_two (fun e' => ?_) (fun e' => ?_)
            · walk_at "go"
              rw [Sg.put, e'] at q
              exact q _ (e3.trans e4)
            · walk_at "go"
              rw [Sg.put, e'] at q
              exact q _ (e3.trans e4)
          · walk_at "go"
            refine w_two (fun e' => ?_) (fun e' => ?_)
            · walk_at "go"
              rw [Sg.put, e'] at q
              exact q _ (e3.trans e4)
            · walk_at "go"
              rw [Sg.put, e'] at q
              exact q _ (e3.trans e4)
        | div =>
          walk_at "go"
          refine w_two (fun e => ?_) (fun e => ?_)
          · have e := of_decide_eq_true e
            walk_at "go"
            rw [Sg.put, if_pos e] at q
            exact q _ (e3.trans e4)
          · have e := of_decide_eq_false e
            have z1 := hj.1
            have z2 := hj.2
            walk_at "go"
            rw [Sg.put, if_neg e] at q
            exact q _ (e3.trans e4)
theorem no_law_value {K : PySem.W.Frag} : ∀ vs H Q E, ¬ sp_law_value K 0 vs H Q E := by
  rintro vs H Q E ⟨v, f, _, _, _, _, _, _, h, _⟩
  have := f.depth_pos
  omega
abbrev N_law_values : List Str := ["_law_script", "_law_at", "_law_names_here", "_law_values_here", "_law_k", "_law_name", "_law_cell"]
noncomputable def t_law_values (K : PySem.W.Frag) : TS :=
  (tSeq (tAsg tDNewK (gName 3)) (tSeq (tFor (iEnum K (tCons (tVar 2) tNil)) (gTup K 2 (gCons (gName 4) (gCons (gName 5) gNil))) (tSeq (tAsg (tF (sp_law_mixed K) (tCons (tF (sp_law_cell_at K) (tCons (tVar 0) (tCons (tOp (rAdd K) (tVar 1) (tVar 4)) tNil))) tNil)) (gName 6)) (sDPut (tVar 3) (tVar 5) (tOp (rIx K) (tLst (tCons (tOp rMod (tOp rDiv (tVar 6) (tC (.int 8))) (tC (.int 4))) (tCons (tOp rMod (tOp rDiv (tVar 6) (tC (.int 8))) (tOp rPow (tC (.int 10)) (tC (.int 6)))) tNil))) (tCB rInt (tCons (tOp rGt (tOp rMod (tVar 6) (tC (.int 8))) (tC (.int 5))) tNil)))))) (tRet (tVar 3))))
theorem kvN_snoc {ns : List Str} {g : Str → Int} {x : Str} {v : Int} (h : x ∉ ns) : kvN (ns ++ [x]) (setG g x v) = kvN ns g ++ [(.inr x, .int v)] := by
  unfold kvN
  rw [List.map_append]
  congr 1
  · refine List.map_congr_left fun y hy => ?_
    unfold setG
    rw [if_neg (fun e : y = x => h (e ▸ hy))]
  · show [((Sum.inr x : Key), V.int (setG g x v x))] = _
    unfold setG
    rw [if_pos rfl]
theorem pure_law_values (K : PySem.W.Frag) (vs : List V) (H : Hp) (Q : VK) (E : XK) (h : sp_law_values K vs H Q E) :
    t_law_values K { nx := fun _ H' => Q .non H', rt := Q } (start N_law_values vs) H := by
  obtain ⟨a, l, cs, i0, ns, rfl, hS, h0, hl, nd, nl, q⟩ := h
  unfold t_law_values
  walk_at "gx"
  intro D nD
  have e1 := same_new (o := .dK []) nD
  have hD1 : upd H D (.dK []) D = some (.dK []) := upd_same
  generalize upd H D (.dK []) = H1 at e1 hD1
  walk_at "gx"
  refine ⟨l, ns.map V.str, rfl, same_l e1 hl, for_enum (xs := ns.map V.str) (fun i σ H' => Same H H' ∧ ∃ (g : Str → Int) (w4 w5 w6 : Option V), σ = [some (.ref a), some (.int i0), some (.ref l), some (.ref D), w4, w5, w6] ∧ H' D = some (.dK (kvN (ns.take i) g)) ∧ (∀ x ∈ ns.take i, In6 (g x)))
    ⟨e1, fun _ => 0, _, _, _, rfl, hD1, fun x h => nomatch h⟩ (fun i σ H' _ h => same_l h.1 hl) ?_ ?_⟩
  · rintro i v σ H2 T hv hT0 ⟨e2, g, w4, w5, w6, rfl, hD2, hg⟩
    obtain ⟨x, hx, rfl⟩ : ∃ x, ns[i]? = some x ∧ V.str x = v := by
      rw [List.getElem?_map] at hv
      cases d : ns[i]? with
      | none => rw [d] at hv; exact nomatch hv
      | some y => rw [d] at hv; exact ⟨y, rfl, Option.some.inj hv⟩
    have tk := take_snoc hx
    have hi : i < ns.length := (List.getElem?_eq_some_iff.mp hx).1
    have xn : x ∉ ns.take i := fun h => by
      have nd2 : (ns.take (i + 1)).Nodup := (List.take_sublist _ _).nodup nd
      rw [tk, List.nodup_append] at nd2
      exact nd2.2.2 x h x (List.mem_singleton.mpr rfl) rfl
    have eT := same_new (o := .tup [.int (i : Nat), .str x]) hT0
    have hT := SqT.of (K := K) (upd_same (H := H2) (a := T) (o := .tup [.int (i : Nat), .str x]))
    refine w_gTup hT rfl ?_
    generalize upd H2 T (.tup [.int (i : Nat), .str x]) = H3 at eT hT
    have e03 := e2.trans eT
    have hD3 := eT _ _ hD2
    have kl : (kvN (ns.take i) g).length < sizeLine := lt_line (by rw [kvN_len]; exact Nat.le_trans (List.length_take_le' _ _) (by omega))
    walk_at "gx"
    refine ⟨a, cs, _, rfl, same_l e03 hS, by omega, fun c0 => ?_⟩
    walk_at "gx"
    refine ⟨_, rfl, fun c c1 c2 => ?_⟩
    have m4 := mod_in (c / 8) (show (0 : Int) < 4 by decide)
    have m6 := mod_in (c / 8) (show (0 : Int) < 1000000 by decide)
    walk_at "gx"
    refine w_pow ⟨by decide, by decide, by decide⟩ ?_
    walk_at "gx"
    rename_i p4 H4 n4 e4 hp4
    have hp4 : H4 p4 = some (.lst [.int (c / 8 % 4), .int (c / 8 % 1000000)]) := hp4
    have hD4 := e4 _ _ hD3
    have fin : ∀ v : Int, In6 v → (∃ b H5, V.ref D = .ref b ∧ DPut H4 b (.str x) (.int v) H5 ∧ ({ nx := fun σ H' => Same H H' ∧ ∃ (g : Str → Int) (w4 w5 w6 : Option V), σ = [some (.ref a), some (.int i0), some (.ref l), some (.ref D), w4, w5, w6] ∧ H' D = some (.dK (kvN (ns.take (i + 1)) g)) ∧ (∀ x ∈ ns.take (i + 1), In6 (g x)), rt := Q } : Ends).nx [some (.ref a), some (.int i0), some (.ref l), some (.ref D), some (.int (i : Nat)), some (.str x), some (.int c)] H5) := by
      intro v v6
      refine w_dputAt (y := .int v) hD4 kl ?_
      rw [putK_new' (by rw [kvN_keys]; exact fun q => by obtain ⟨y, hy, e⟩ := List.mem_map.mp q; exact xn (Sum.inr.inj e ▸ hy)), ← kvN_snoc xn]
      refine ⟨same_mut (e03.trans e4) nD, setG g x v, _, _, _, rfl, by rw [tk]; exact upd_same, fun y hy => ?_⟩
      unfold setG
      by_cases e : y = x
      · rw [if_pos e]; exact v6
      · rw [if_neg e]
        rw [tk] at hy
        exact hg y ((List.mem_append.mp hy).resolve_right fun h => e (List.mem_singleton.mp h))
    by_cases d : c % 8 > 5
    · rw [decide_eq_true d]
      refine w_ixL (SqL.of hp4) (atI_nat (j := 1) rfl) ?_
      walk_at "gx"
      exact fin _ m6
    · rw [decide_eq_false d]
      refine w_ixL (SqL.of hp4) (atI_nat (j := 0) rfl) ?_
      walk_at "gx"
      exact fin _ ⟨m4.1, by omega⟩
  · rintro σ H2 ⟨e2, g, w4, w5, w6, rfl, hD2, hg⟩
    rw [List.length_map, List.take_length] at hD2 hg
    walk_at "gx"
    exact q D H2 g e2 nD hD2 hg
mutual
inductive SzAt (K : PySem.W.Frag) (H : Hp) : V → Nat → Rw → Prop where
  | one {t : Addr} {v : V} {k : Nat} {r : Rw} (h : SqT K H t [.int (k : Nat), v]) (hr : RwAt K (SqT K) H v r) (hp : r.parts = []) : SzAt K H (.ref t) k r
  | ite {t l m : Addr} {v : V} {k : Nat} {f : Fm} {a b : List Rw} {xs ys : List V} (h : SqT K H t [.int (k : Nat), v, .ref l, .ref m]) (hr : RwAt K (SqT K) H v (.ite f a b)) (hl : H l = some (.lst xs)) (ha : SzL K H xs (k + 1) a) (hm : H m = some (.lst ys)) (hb : SzL K H ys (k + 1 + szs a) b) : SzAt K H (.ref t) k (.ite f a b)
  | whl {t l : Addr} {v : V} {k : Nat} {f : Fm} {a : List Rw} {xs : List V} (h : SqT K H t [.int (k : Nat), v, .ref l]) (hr : RwAt K (SqT K) H v (.whl f a)) (hl : H l = some (.lst xs)) (ha : SzL K H xs (k + 1) a) : SzAt K H (.ref t) k (.whl f a)
inductive SzL (K : PySem.W.Frag) (H : Hp) : List V → Nat → List Rw → Prop where
  | nil {k : Nat} : SzL K H [] k []
  | cons {v : V} {vs : List V} {k : Nat} {r : Rw} {l : List Rw} (h : SzAt K H v k r) (t : SzL K H vs (k + r.size) l) : SzL K H (v :: vs) k (r :: l)
end
/-- tuples and these lists stay -/
def SameK (H H' : Hp) : Prop := SameT H H' ∧ ∀ l xs, H l = some (.lst xs) → H' l = some (.lst xs)
theorem SameK.of {H H' : Hp} (e : Same H H') : SameK H H' := ⟨SameT.of e, fun l xs h => e l _ h⟩
mutual
theorem SzAt.go {K : PySem.W.Frag} {H H' : Hp} (e : SameK H H') : ∀ {v : V} {k : Nat} {r : Rw}, SzAt K H v k r → SzAt K H' v k r
  | _, _, _, .one h hr hp => .one (sameT_t e.1 h) (hr.monoT e.1) hp
  | _, _, _, .ite h hr hl ha hm hb => .ite (sameT_t e.1 h) (hr.monoT e.1) (e.2 _ _ hl) (ha.go e) (e.2 _ _ hm) (hb.go e)
  | _, _, _, .whl h hr hl ha => .whl (sameT_t e.1 h) (hr.monoT e.1) (e.2 _ _ hl) (ha.go e)
theorem SzL.go {K : PySem.W.Frag} {H H' : Hp} (e : SameK H H') : ∀ {vs : List V} {k : Nat} {l : List Rw}, SzL K H vs k l → SzL K H' vs k l
  | _, _, _, .nil => .nil
  | _, _, _, .cons h t => .cons (h.go e) (t.go e)
end
theorem SzL.snoc {K : PySem.W.Frag} {H : Hp} {v : V} {r : Rw} : ∀ {vs : List V} {k : Nat} {l : List Rw}, SzL K H vs k l → SzAt K H v (k + szs l) r → SzL K H (vs ++ [v]) k (l ++ [r])
  | _, _, _, .nil, h => .cons h .nil
  | _, _, _, .cons (k := k) (r := q) (l := l) h t, h2 => .cons h (t.snoc (by rw [Nat.add_assoc]; exact h2))
theorem SzL.len {K : PySem.W.Frag} {H : Hp} : ∀ {vs : List V} {k : Nat} {l : List Rw}, SzL K H vs k l → vs.length = l.length
  | _, _, _, .nil => rfl
  | _, _, _, .cons _ t => congrArg (· + 1) t.len
/-- the lists behind a row's tuple -/
inductive SzP (K : PySem.W.Frag) (H : Hp) : List V → List (List Rw) → Prop where
  | nil : SzP K H [] []
  | cons {l : Addr} {xs : List V} {k : Nat} {b : List Rw} {vs : List V} {bs : List (List Rw)} (hl : H l = some (.lst xs)) (h : SzL K H xs k b) (t : SzP K H vs bs) : SzP K H (.ref l :: vs) (b :: bs)
theorem SzAt.parts {K : PySem.W.Frag} {H : Hp} {v : V} {k : Nat} {r : Rw} (h : SzAt K H v k r) : ∃ t u vs, v = .ref t ∧ SqT K H t (.int (k : Nat) :: u :: vs) ∧ RwAt K (SqT K) H u r ∧ SzP K H vs r.parts := by
  cases h with
  | one h hr hp => exact ⟨_, _, [], rfl, h, hr, by rw [hp]; exact .nil⟩
  | ite h hr hl ha hm hb => exact ⟨_, _, _, rfl, h, hr, .cons hl ha (.cons hm hb .nil)⟩
  | whl h hr hl ha => exact ⟨_, _, _, rfl, h, hr, .cons hl ha .nil⟩
theorem SzP.all2 {K : PySem.W.Frag} {H : Hp} : ∀ {vs : List V} {bs : List (List Rw)}, SzP K H vs bs → All2 (fun v b => ∃ l xs k, v = .ref l ∧ H l = some (.lst xs) ∧ SzL K H xs k b) vs bs
  | _, _, .nil => .nil
  | _, _, .cons hl h t => .cons ⟨_, _, _, rfl, hl, h⟩ t.all2
theorem SzL.all2 {K : PySem.W.Frag} {H : Hp} : ∀ {vs : List V} {k : Nat} {l : List Rw}, SzL K H vs k l → All2 (fun v r => ∃ k, SzAt K H v k r) vs l
  | _, _, _, .nil => .nil
  | _, _, _, .cons h t => .cons ⟨_, h⟩ t.all2
def sp_law_count (K : PySem.W.Frag) (n : Nat) : Sp := fun vs H Q _ => ∃ (l : Addr) (xs : List V) (k : Nat) (b : List Rw), vs = [.ref l] ∧ H l = some (.lst xs) ∧ SzL K H xs k b ∧ nests b < n ∧ szs b ≤ 100000 ∧ ∀ H', Same H H' → Q (.int (szs b : Nat)) H'
/-- a heap without the lists of an earlier one -/
def Del (H H' : Hp) : Hp := fun a => match H a with
  | some (.lst _) => none
  | _ => H' a
theorem del_same {H H' : Hp} : Same (Del H H') H' := fun a o h => by
  unfold Del at h
  split at h
  · exact nomatch h
  · exact h
theorem del_new {H H' : Hp} {a : Addr} {o : HO} (n : H a = none) (h : H' a = some o) : Del H H' a = some o := by
  unfold Del
  rw [n]
  exact h
theorem del_T {H H' : Hp} (e : ∀ a xs, H a = some (.lst xs) → ∃ ys, H' a = some (.lst ys)) : SameT H' (Del H H') := fun a o h f => by
  unfold Del
  split
  · rename_i xs hx
    obtain ⟨ys, hy⟩ := e a xs hx
    rw [hy] at h
    rw [← Option.some.inj h] at f
    exact nomatch f
  · exact h
theorem del_mono {H1 H2 H' H'' : Hp} (e : ∀ a xs, H1 a = some (.lst xs) → ∃ ys, H2 a = some (.lst ys)) (s : ∀ a o, (∀ xs, H1 a ≠ some (.lst xs)) → H' a = some o → H'' a = some o) : Same (Del H2 H') (Del H1 H'') := fun a o h => by
  unfold Del at h ⊢
  split at h
  · exact nomatch h
  · rename_i c
    split
    · rename_i xs hx
      obtain ⟨ys, hy⟩ := e a xs hx
      exact absurd hy (c ys)
    · rename_i c2
      exact s a o (fun xs q => c2 xs q) h
theorem ll_same {H H' : Hp} (e : Same H H') : ∀ a xs, H a = some (.lst xs) → ∃ ys, H' a = some (.lst ys) := fun a xs h => ⟨xs, e _ _ h⟩
theorem ll_x {p : Addr} {H H' : Hp} {zs : List V} (e : SameX p H H') (h : H' p = some (.lst zs)) : ∀ a xs, H a = some (.lst xs) → ∃ ys, H' a = some (.lst ys) := fun a xs ha => by
  by_cases c : a = p
  · exact ⟨zs, c ▸ h⟩
  · exact ⟨xs, e _ _ c ha⟩
theorem none_x {p a : Addr} {H H' : Hp} {o : HO} (e : SameX p H H') (h : H' p = some o) (n : H' a = none) : H a = none := by
  cases d : H a with
  | none => rfl
  | some u =>
    by_cases c : a = p
    · rw [c, h] at n
      exact nomatch n
    · rw [e _ _ c d] at n
      exact nomatch n
def sp_law_sized (K : PySem.W.Frag) (n : Nat) : Sp := fun vs H Q _ => ∃ (a : Addr) (xs : List V) (b : List Rw) (k : Nat), vs = [.ref a, .int (k : Nat)] ∧ SE K H a xs ∧ BkAt K (SqT K) H xs b ∧ nests b < n ∧ nests b ≤ 8 ∧ szs b ≤ 100000 ∧
  ∀ (t l : Addr) (H' : Hp) (ys : List V), Same H H' → SqT K H' t [.ref l, .int (szs b : Nat)] → H l = none → H' l = some (.lst ys) → SzL K (Del H H') ys k b → Q (.ref t) H'
abbrev N_law_count : List Str := ["_law_rows", "_law_one", "_law_inner"]
noncomputable def t_law_count (K : PySem.W.Frag) (n : Nat) : TS :=
  (tRet (tCB (rSum K) (tCons (tLc (iSeq K (tVar 0)) (gName 1) tYes (tOp (rAdd K) (tC (.int 1)) (tCB (rSum K) (tCons (tLc (iSeq K (tSl (rSl K) (tVar 1) (tPart (tC (.int 2))) tNoPart)) (gName 2) tYes (tF (sp_law_count K n) (tCons (tVar 2) tNil)) [2]) tNil))) [1]) tNil)))
abbrev N_law_sized : List Str := ["_law_block", "_law_number", "_law_rows", "_law_row", "_law_first", "_law_second", "_law_one", "_law_inner"]
noncomputable def t_law_sized (K : PySem.W.Frag) (n : Nat) : TS :=
  (tSeq (tAsg (tLst tNil) (gName 2)) (tSeq (tFor (iSeq K (tVar 0)) (gName 3) (tIfS (tTest (tOp (rEq2 K) (tOp (rIx K) (tVar 3) (tC (.int 0))) (tC (.str "if")))) (tSeq (tAsg (tF (sp_law_sized K n) (tCons (tOp (rIx K) (tVar 3) (tC (.int 2))) (tCons (tOp (rAdd K) (tVar 1) (tC (.int 1))) tNil))) (gName 4)) (tSeq (tAsg (tF (sp_law_sized K n) (tCons (tOp (rIx K) (tVar 3) (tC (.int 3))) (tCons (tOp (rAdd K) (tOp (rAdd K) (tVar 1) (tC (.int 1))) (tOp (rIx K) (tVar 4) (tC (.int 1)))) tNil))) (gName 5)) (tSeq (tDrop (tBM K "list" rAppend (tVar 2) (tCons (tTup (tCons (tVar 1) (tCons (tVar 3) (tCons (tOp (rIx K) (tVar 4) (tC (.int 0))) (tCons (tOp (rIx K) (tVar 5) (tC (.int 0))) tNil))))) tNil))) (tAsg (tOp (rAdd K) (tOp (rAdd K) (tOp (rAdd K) (tVar 1) (tC (.int 1))) (tOp (rIx K) (tVar 4) (tC (.int 1)))) (tOp (rIx K) (tVar 5) (tC (.int 1)))) (gName 1))))) (tIfS (tTest (tOp (rEq2 K) (tOp (rIx K) (tVar 3) (tC (.int 0))) (tC (.str "while")))) (tSeq (tAsg (tF (sp_law_sized K n) (tCons (tOp (rIx K) (tVar 3) (tC (.int 2))) (tCons (tOp (rAdd K) (tVar 1) (tC (.int 1))) tNil))) (gName 4)) (tSeq (tDrop (tBM K "list" rAppend (tVar 2) (tCons (tTup (tCons (tVar 1) (tCons (tVar 3) (tCons (tOp (rIx K) (tVar 4) (tC (.int 0))) tNil)))) tNil))) (tAsg (tOp (rAdd K) (tOp (rAdd K) (tVar 1) (tC (.int 1))) (tOp (rIx K) (tVar 4) (tC (.int 1)))) (gName 1)))) (tSeq (tDrop (tBM K "list" rAppend (tVar 2) (tCons (tTup (tCons (tVar 1) (tCons (tVar 3) tNil))) tNil))) (tAsg (tOp (rAdd K) (tVar 1) (tC (.int 1))) (gName 1)))))) (tRet (tTup (tCons (tVar 2) (tCons (tCB (rSum K) (tCons (tLc (iSeq K (tVar 2)) (gName 6) tYes (tOp (rAdd K) (tC (.int 1)) (tCB (rSum K) (tCons (tLc (iSeq K (tSl (rSl K) (tVar 6) (tPart (tC (.int 2))) tNoPart)) (gName 7) tYes (tF (sp_law_count K 9) (tCons (tVar 7) tNil)) [7]) tNil))) [6]) tNil)) tNil))))))
theorem no_law_count {K : PySem.W.Frag} : ∀ vs H Q E, ¬ sp_law_count K 0 vs H Q E := by
  rintro vs H Q E ⟨_, _, _, _, _, _, _, h, _⟩
  omega
theorem no_law_sized {K : PySem.W.Frag} : ∀ vs H Q E, ¬ sp_law_sized K 0 vs H Q E := by
  rintro vs H Q E ⟨_, _, _, _, _, _, _, h, _⟩
  omega
theorem all2_ints {α : Type} {f : α → Nat} : ∀ {vs : List V} {as : List α}, All2 (fun v x => v = .int ((f x : Nat) : Int)) vs as → vs = (as.map fun x => ((f x : Nat) : Int)).map V.int
  | _, _, .nil => rfl
  | _, _, .cons h t => by rw [h, all2_ints t] <;> rfl
theorem sum_ints {α : Type} {f : α → Nat} : ∀ as : List α, (as.map fun x => ((f x : Nat) : Int)).sum = (((as.map f).sum : Nat) : Int)
  | [] => rfl
  | x :: r => by
    rw [List.map_cons, List.sum_cons, sum_ints r, List.map_cons, List.sum_cons]
    omega
theorem w_sumA {K : PySem.W.Frag} {H : Hp} {Q : VK} {α : Type} {f : α → Nat} {as : List α} {a : Addr} {vs : List V} (h : SqL K H a vs) (hA : All2 (fun v x => v = .int ((f x : Nat) : Int)) vs as) (q : Q (.int (((as.map f).sum : Nat) : Int)) H) : rSum K [.ref a] H Q := by
  refine ⟨a, as.map fun x => ((f x : Nat) : Int), rfl, by rw [← all2_ints hA]; exact h, ?_⟩
  rw [sum_ints]
  exact q
theorem pure_law_count (K : PySem.W.Frag) (n : Nat) (vs : List V) (H : Hp) (Q : VK) (E : XK) (h : sp_law_count K (n + 1) vs H Q E) :
    t_law_count K n { nx := fun _ H' => Q .non H', rt := Q } (start N_law_count vs) H := by
  obtain ⟨l, xs, k, b, rfl, hl, hz, hn, hs, q⟩ := h
  have xl := hz.len
  have bl := szs_len b
  unfold t_law_count
  walk_at "gx"
  refine w_lc ?_
  walk_at "gx"
  refine lc_all (as := b) (P := fun v r => ∃ k, SzAt K H v k r) (fun _ v r => v = .int ((r.size : Nat) : Int)) (.inl (SqL.of hl)) hz.all2 (by omega) (fun _ _ _ _ _ h => h) ?_ ?_
  · rintro D v r H1 Nx hr ⟨k', hk⟩ e1 ⟨_, _⟩ kk
    obtain ⟨t, u, ws, rfl, ht, hu, hp⟩ := (hk.go (SameK.of e1)).parts
    have rn := nest_mem hr
    have rz := sz_mem hr
    have ps := parts_size (r := r)
    refine ⟨rfl, ?_⟩
    walk_at "gx"
    refine w_lc ?_
    walk_at "gx"
    refine w_slT2 ht (fun p hp' => ?_)
    have e2 := same_new (o := .tup ws) hp'
    refine lc_all (as := r.parts) (P := fun v b => ∃ l xs k, v = .ref l ∧ H1 l = some (.lst xs) ∧ SzL K H1 xs k b) (fun _ v c => v = .int ((szs c : Nat) : Int)) (.inr (SqT.of upd_same)) hp.all2 (by cases r <;> simp [Rw.parts]) (fun _ _ _ _ _ h => h) ?_ ?_
    · rintro D2 v c H2 Nx2 hc ⟨l2, ys, k2, rfl, hl2, hz2⟩ e3 ⟨_, _⟩ kk2
      have pn := parts_nest c hc
      have pz := part_size hc
      refine ⟨rfl, ?_⟩
      walk_at "gx"
      exact ⟨l2, ys, k2, c, rfl, (e2.trans e3) _ _ hl2, hz2.go (SameK.of (e2.trans e3)), by omega, by omega, fun H' e' => kk2 _ _ e' rfl⟩
    · intro D2 H2 ys e3 nD2 hD2 hA
      walk_at "gx"
      refine w_sumA (f := szs) (SqL.of hD2) hA ?_
      walk_at "gx"
      refine kk _ _ (e2.trans e3) ?_
      rw [ps]
      congr 1
  · intro D H1 ys e1 nD hD hA
    walk_at "gx"
    refine w_sumA (f := Rw.size) (SqL.of hD) hA ?_
    rw [← szs_sum]
    exact q H1 e1
theorem BkAt.all2 {K : PySem.W.Frag} {S : SQ} {H : Hp} : ∀ {vs : List V} {l : List Rw}, BkAt K S H vs l → All2 (RwAt K S H) vs l
  | _, _, .nil => .nil
  | _, _, .cons h t => .cons h t.all2
theorem pure_law_sized (K : PySem.W.Frag) (n : Nat) (vs : List V) (H : Hp) (Q : VK) (E : XK) (h : sp_law_sized K (n + 1) vs H Q E) :
    t_law_sized K n { nx := fun _ H' => Q .non H', rt := Q } (start N_law_sized vs) H := by
  obtain ⟨a, xs, b, k, rfl, hs, hb, hn, h8, hz, q⟩ := h
  have bl := szs_len b
  unfold t_law_sized
  walk_at "gx"
  rename_i l H1 nl e1 hl1
  have hl1 : H1 l = some (.lst []) := hl1
  refine for_al (as := b) (P := RwAt K (SqT K) H) (fun pre σ H' => Same H H' ∧ ∃ (ys : List V) (w3 w4 w5 w6 w7 : Option V), σ = [some (.ref a), some (.int ((k + szs pre : Nat) : Nat)), some (.ref l), w3, w4, w5, w6, w7] ∧ H' l = some (.lst ys) ∧ SameX l H1 H' ∧ SzL K (Del H1 H') ys k pre)
    hs hb.all2 ⟨e1, [], _, _, _, _, _, rfl, hl1, SameX.of (Same.refl _), .nil⟩ (fun _ _ _ h => h.1) ?_ ?_
  · rintro pre x post v σ H2 eb hv ⟨e2, ys, w3, w4, w5, w6, w7, rfl, hl2, x2, hz2⟩
    have hr := hv.monoT (SameT.of e2)
    have hx : x ∈ b := eb ▸ List.mem_append_right _ (List.mem_cons_self ..)
    have rn := nest_mem hx
    have rz := sz_mem hx
    have yl : ys.length < sizeLine := lt_line (by
      have := hz2.len
      have := congrArg List.length eb
      rw [List.length_append] at this
      omega)
    have fin : ∀ (t : Addr) (H3 H4 : Hp), Same H2 H3 → SameX l H3 H4 → H4 l = some (.lst (ys ++ [.ref t])) → (SzAt K (Del H1 H3) (.ref t) (k + szs pre) x) →
        Same H H4 ∧ H4 l = some (.lst (ys ++ [.ref t])) ∧ SameX l H1 H4 ∧ SzL K (Del H1 H4) (ys ++ [.ref t]) k (pre ++ [x]) := by
      intro t H3 H4 e3 x4 hl4 ht
      have d34 : Same (Del H1 H3) (Del H1 H4) := del_mono (fun a xs h => ⟨xs, h⟩) fun a o c h => x4 a o (fun e => c [] (e ▸ hl1)) h
      have d23 : Same (Del H1 H2) (Del H1 H3) := del_mono (fun a xs h => ⟨xs, h⟩) fun a o _ h => e3 a o h
      exact ⟨SameX.same (e2.trans e3) nl x4, hl4, (x2.trans (SameX.of e3)).trans x4, (hz2.go (SameK.of (d23.trans d34))).snoc (ht.go (SameK.of d34))⟩
    have sx : szs (pre ++ [x]) = szs pre + x.size := by rw [szs_app] <;> rfl
    cases hr with
    | set h hf =>
      walk_at "gx"
      rename_i p H3 n3 e3 hp3
      refine w_app' (H := H3) (e3 _ _ hl2) yl (fun H4 x4 t4 h4 => ?_)
      walk_at "gx"
      obtain ⟨g1, g2, g3, g4⟩ := fin _ _ _ e3 x4 h4 (.one (SqT.of (del_new (none_x x2 hl2 n3) hp3)) (hv.monoT ((SameT.of (e2.trans e3)).trans (del_T (ll_x (x2.trans (SameX.of e3)) (e3 _ _ hl2))))) rfl)
      exact ⟨g1, _, _, _, _, _, _, by rw [sx] <;> rfl, g2, g3, g4⟩
    | tell h hf =>
      walk_at "gx"
      rename_i p H3 n3 e3 hp3
      refine w_app' (H := H3) (e3 _ _ hl2) yl (fun H4 x4 t4 h4 => ?_)
      walk_at "gx"
      obtain ⟨g1, g2, g3, g4⟩ := fin _ _ _ e3 x4 h4 (.one (SqT.of (del_new (none_x x2 hl2 n3) hp3)) (hv.monoT ((SameT.of (e2.trans e3)).trans (del_T (ll_x (x2.trans (SameX.of e3)) (e3 _ _ hl2))))) rfl)
      exact ⟨g1, _, _, _, _, _, _, by rw [sx] <;> rfl, g2, g3, g4⟩
    | skip h =>
      walk_at "gx"
      rename_i p H3 n3 e3 hp3
      refine w_app' (H := H3) (e3 _ _ hl2) yl (fun H4 x4 t4 h4 => ?_)
      walk_at "gx"
      obtain ⟨g1, g2, g3, g4⟩ := fin _ _ _ e3 x4 h4 (.one (SqT.of (del_new (none_x x2 hl2 n3) hp3)) (hv.monoT ((SameT.of (e2.trans e3)).trans (del_T (ll_x (x2.trans (SameX.of e3)) (e3 _ _ hl2))))) rfl)
      exact ⟨g1, _, _, _, _, _, _, by rw [sx] <;> rfl, g2, g3, g4⟩
    | ite h hf hp hb1 hq hc =>
      rename_i a0 p0 q0 u0 f0 xs0 ys0 b0 c0
      have rn' : 1 + max (nests b0) (nests c0) ≤ nests b := rn
      have rz' : 1 + (szs b0 + szs c0) ≤ szs b := rz
      walk_at "gx"
      refine ⟨_, _, _, k + szs pre + 1, rfl, .inr hp, hb1, by omega, by omega, by omega, fun t1 l1 H3 ys1 e3 ht1 n1 hl1' hz1 => ?_⟩
      walk_at "gx"
      refine ⟨_, _, _, k + szs pre + 1 + szs b0, rfl, .inr (same_t e3 hq), hc.monoS e3, by omega, by omega, by omega, fun t2 l2 H4 ys2 e4 ht2 n2 hl2' hz2' => ?_⟩
      walk_at "gx"
      rename_i p H5 n5 e5 hp5
      have e35 := e4.trans e5
      have e25 := e3.trans e35
      refine w_app' (H := H5) (e25 _ _ hl2) yl (fun H6 x6 t6 h6 => ?_)
      have ht1' := sameT_t t6 (same_t e35 ht1)
      have ht2' := sameT_t t6 (same_t e5 ht2)
      walk_at "gx"
      have x3 := x2.trans (SameX.of e3)
      have x4 := x3.trans (SameX.of e4)
      have hl3 := e3 _ _ hl2
      obtain ⟨g1, g2, g3, g4⟩ := fin _ _ _ e25 x6 h6 (.ite (SqT.of (del_new (none_x x4 (e4 _ _ hl3) n5) hp5)) (hv.monoT ((SameT.of (e2.trans e25)).trans (del_T (ll_x (x2.trans (SameX.of e25)) (e25 _ _ hl2)))))
        (del_new (none_x x2 hl2 n1) (e35 _ _ hl1')) (hz1.go (SameK.of (del_mono (ll_x x2 hl2) fun a o _ h => e35 a o h)))
        (del_new (none_x x3 hl3 n2) (e5 _ _ hl2')) (hz2'.go (SameK.of (del_mono (ll_x x3 hl3) fun a o _ h => e5 a o h))))
      have en : ((k + szs (pre ++ [Rw.ite f0 b0 c0]) : Nat) : Int) = ((k + szs pre : Nat) : Int) + 1 + (szs b0 : Nat) + (szs c0 : Nat) := by
        rw [sx]
        simp only [Rw.size]
        omega
      exact ⟨g1, _, _, _, _, _, _, by rw [en] <;> rfl, g2, g3, g4⟩
    | whl h hf hp hb1 =>
      rename_i a0 p0 u0 f0 xs0 b0
      have rn' : 1 + nests b0 ≤ nests b := rn
      have rz' : 1 + szs b0 ≤ szs b := rz
      walk_at "gx"
      refine ⟨_, _, _, k + szs pre + 1, rfl, .inr hp, hb1, by omega, by omega, by omega, fun t1 l1 H3 ys1 e3 ht1 n1 hl1' hz1 => ?_⟩
      walk_at "gx"
      rename_i p H5 n5 e5 hp5
      have e25 := e3.trans e5
      refine w_app' (H := H5) (e25 _ _ hl2) yl (fun H6 x6 t6 h6 => ?_)
      have ht1' := sameT_t t6 (same_t e5 ht1)
      walk_at "gx"
      have x3 := x2.trans (SameX.of e3)
      have hl3 := e3 _ _ hl2
      obtain ⟨g1, g2, g3, g4⟩ := fin _ _ _ e25 x6 h6 (.whl (SqT.of (del_new (none_x x3 hl3 n5) hp5)) (hv.monoT ((SameT.of (e2.trans e25)).trans (del_T (ll_x (x2.trans (SameX.of e25)) (e25 _ _ hl2)))))
        (del_new (none_x x2 hl2 n1) (e5 _ _ hl1')) (hz1.go (SameK.of (del_mono (ll_x x2 hl2) fun a o _ h => e5 a o h))))
      have en : ((k + szs (pre ++ [Rw.whl f0 b0]) : Nat) : Int) = ((k + szs pre : Nat) : Int) + 1 + (szs b0 : Nat) := by
        rw [sx]
        simp only [Rw.size]
        omega
      exact ⟨g1, _, _, _, _, _, _, by rw [en] <;> rfl, g2, g3, g4⟩
  · rintro σ H2 ⟨e2, ys, w3, w4, w5, w6, w7, rfl, hl2, x2, hz2⟩
    have hz3 := hz2.go (SameK.of del_same)
    have xl := hz3.len
    walk_at "gx"
    refine w_lc ?_
    walk_at "gx"
    refine lc_all (as := b) (P := fun v r => ∃ k, SzAt K H2 v k r) (fun _ v r => v = .int ((r.size : Nat) : Int)) (.inl (SqL.of hl2)) hz3.all2 (by omega) (fun _ _ _ _ _ h => h) ?_ ?_
    · rintro D v r H3 Nx hr ⟨k', hk⟩ e3 ⟨_, _⟩ kk
      obtain ⟨t, u, ws, rfl, ht, hu, hp⟩ := (hk.go (SameK.of e3)).parts
      have rn := nest_mem hr
      have rz := sz_mem hr
      have ps := parts_size (r := r)
      refine ⟨rfl, ?_⟩
      walk_at "gx"
      refine w_lc ?_
      walk_at "gx"
      refine w_slT2 ht (fun p hp' => ?_)
      have e4 := same_new (o := .tup ws) hp'
      refine lc_all (as := r.parts) (P := fun v b => ∃ l xs k, v = .ref l ∧ H3 l = some (.lst xs) ∧ SzL K H3 xs k b) (fun _ v c => v = .int ((szs c : Nat) : Int)) (.inr (SqT.of upd_same)) hp.all2 (by cases r <;> simp [Rw.parts]) (fun _ _ _ _ _ h => h) ?_ ?_
      · rintro D2 v c H4 Nx2 hc ⟨l2, ys, k2, rfl, hl2, hz2⟩ e5 ⟨_, _⟩ kk2
        have pn := parts_nest c hc
        have pz := part_size hc
        refine ⟨rfl, ?_⟩
        walk_at "gx"
        exact ⟨l2, ys, k2, c, rfl, (e4.trans e5) _ _ hl2, hz2.go (SameK.of (e4.trans e5)), by omega, by omega, fun H' e' => kk2 _ _ e' rfl⟩
      · intro D2 H4 ys e5 nD2 hD2 hA
        walk_at "gx"
        refine w_sumA (f := szs) (SqL.of hD2) hA ?_
        walk_at "gx"
        refine kk _ _ (e4.trans e5) ?_
        rw [ps]
        congr 1
    · intro D H3 ys2 e3 nD hD hA
      walk_at "gx"
      refine w_sumA (f := Rw.size) (SqL.of hD) hA ?_
      rw [← szs_sum]
      walk_at "gx"
      rename_i p H4 n4 e4 hp4
      exact q _ _ _ ys (e2.trans (e3.trans e4)) (SqT.of hp4) nl (e4 _ _ (e3 _ _ hl2)) (hz2.go (SameK.of (del_mono (ll_same e1) fun a o _ h => (e3.trans e4) a o h)))
mutual
theorem SzAt.dp {K : PySem.W.Frag} {H : Hp} {ns : List Str} (hn : ∀ x ∈ ns, Nm x) : ∀ {v : V} {k : Nat} {r : Rw}, SzAt K H v k r → r.ok ns → ∃ d, Dp K H v d ∧ Dk d (2 * r.nest + 12)
  | _, _, _, .one h hr hp, ho => ⟨_, .tup h (.cons (.int _) (.cons (RwAt.dp tupB hr) .nil)), Dk.tup (dk_cons Dk.int (dk_cons (Rw.dk hn tupD ho) dk_nil))⟩
  | _, _, _, .ite (f := f) (a := a) (b := b) h hr hl ha hm hb, ho => by
    obtain ⟨d1, e1, k1⟩ := SzL.dp hn ha ho.2.1
    obtain ⟨d2, e2, k2⟩ := SzL.dp hn hb ho.2.2
    have e : (Rw.ite f a b).nest = 1 + max (nests a) (nests b) := rfl
    have k0 := Rw.dk hn tupD (r := .ite f a b) ho
    exact ⟨_, .tup h (.cons (.int _) (.cons (RwAt.dp tupB hr) (.cons (.lst (SqL.of hl) e1) (.cons (.lst (SqL.of hm) e2) .nil)))), Dk.tup (dk_cons Dk.int (dk_cons k0 (dk_cons ((Dk.list k1).mono (by omega)) (dk_cons ((Dk.list k2).mono (by omega)) dk_nil))))⟩
  | _, _, _, .whl (f := f) (a := a) h hr hl ha, ho => by
    obtain ⟨d1, e1, k1⟩ := SzL.dp hn ha ho.2
    have e : (Rw.whl f a).nest = 1 + nests a := rfl
    have k0 := Rw.dk hn tupD (r := .whl f a) ho
    exact ⟨_, .tup h (.cons (.int _) (.cons (RwAt.dp tupB hr) (.cons (.lst (SqL.of hl) e1) .nil))), Dk.tup (dk_cons Dk.int (dk_cons k0 (dk_cons ((Dk.list k1).mono (by omega)) dk_nil)))⟩
theorem SzL.dp {K : PySem.W.Frag} {H : Hp} {ns : List Str} (hn : ∀ x ∈ ns, Nm x) : ∀ {vs : List V} {k : Nat} {l : List Rw}, SzL K H vs k l → oks ns l → ∃ ds, DpAll K H vs ds ∧ ∀ d ∈ ds, Dk d (2 * nests l + 12)
  | _, _, _, .nil, _ => ⟨[], .nil, dk_nil⟩
  | _, _, _, .cons (r := r) (l := l) h t, ho => by
    obtain ⟨d, e, k⟩ := SzAt.dp hn h ho.1
    obtain ⟨ds, e2, k2⟩ := SzL.dp hn t ho.2
    have q : nests (r :: l) = max r.nest (nests l) := rfl
    exact ⟨d :: ds, .cons e e2, dk_cons (k.mono (by omega)) fun x hx => (k2 x hx).mono (by omega)⟩
end
/-- what waits to be done, as it stands -/
abbrev DuAt (K : PySem.W.Frag) (H : Hp) (vs : List V) (es : List Ent) : Prop := All2 (fun v (e : Ent) => SzAt K H v e.1 e.2.1) vs es
theorem SzL.items {K : PySem.W.Frag} {H : Hp} {A : List Str} : ∀ {vs : List V} {k : Nat} {l : List Rw}, SzL K H vs k l → DuAt K H vs (items k A l)
  | _, _, _, .nil => .nil
  | _, _, _, .cons h t => .cons h t.items
theorem DuAt.go {K : PySem.W.Frag} {H H' : Hp} (e : SameK H H') : ∀ {vs : List V} {es : List Ent}, DuAt K H vs es → DuAt K H' vs es
  | _, _, .nil => .nil
  | _, _, .cons h t => .cons (h.go e) (DuAt.go e t)
theorem DuAt.dp {K : PySem.W.Frag} {H : Hp} {ns : List Str} (hn : ∀ x ∈ ns, Nm x) : ∀ {vs : List V} {es : List Ent}, DuAt K H vs es → (∀ e ∈ es, e.2.1.ok ns ∧ e.2.1.nest ≤ 8) → ∃ ds, DpAll K H vs ds ∧ ∀ d ∈ ds, Dk d 28
  | _, _, .nil, _ => ⟨[], .nil, dk_nil⟩
  | _, _, .cons h t, ho => by
    obtain ⟨h1, h2⟩ := ho _ (List.mem_cons_self ..)
    obtain ⟨d, g, k⟩ := h.dp hn h1
    obtain ⟨ds, g2, k2⟩ := DuAt.dp hn t fun e he => ho e (List.mem_cons_of_mem _ he)
    exact ⟨d :: ds, .cons g g2, dk_cons (k.mono (by omega)) k2⟩
theorem dpAll_app {K : PySem.W.Frag} {H : Hp} : ∀ {xs ys : List V} {ds es : List PyData}, DpAll K H xs ds → DpAll K H ys es → DpAll K H (xs ++ ys) (ds ++ es)
  | _, _, _, _, .nil, h => h
  | _, _, _, _, .cons a t, h => .cons a (dpAll_app t h)
theorem dpAll_rev {K : PySem.W.Frag} {H : Hp} : ∀ {xs : List V} {ds : List PyData}, DpAll K H xs ds → DpAll K H xs.reverse ds.reverse
  | _, _, .nil => .nil
  | _, _, .cons a t => by
    rw [List.reverse_cons, List.reverse_cons]
    exact dpAll_app (dpAll_rev t) (.cons a .nil)
/-- the waiting is never long -/
def Bd (B : Nat) : List Ent → Prop
  | [] => True
  | e :: R => e.2.1.size + R.length ≤ B ∧ Bd B R
theorem bd_len {B : Nat} : ∀ {es : List Ent}, Bd B es → es.length ≤ B
  | [], _ => Nat.zero_le _
  | e :: R, h => by
    have := size_pos e.2.1
    have := h.1
    show R.length + 1 ≤ B
    omega
theorem bd_items {B : Nat} {A : List Str} {R : List Ent} (h : Bd B R) : ∀ {l : List Rw} {k : Nat}, szs l + R.length ≤ B → Bd B (items k A l ++ R)
  | [], _, _ => h
  | r :: l, k, z => by
    have e : szs (r :: l) = r.size + szs l := rfl
    have len : (items (k + r.size) A l).length = l.length := by
      clear h z e
      generalize k + r.size = j
      induction l generalizing j with
      | nil => rfl
      | cons q l ih => exact congrArg (· + 1) (ih _)
    have := szs_len l
    refine ⟨?_, bd_items h (by omega)⟩
    show r.size + (items (k + r.size) A l ++ R).length ≤ B
    rw [List.length_append, len]
    omega
theorem items_ok {ns : List Str} {A : List Str} : ∀ {l : List Rw} {k : Nat}, oks ns l → nests l ≤ 8 → ∀ e ∈ items k A l, e.2.1.ok ns ∧ e.2.1.nest ≤ 8
  | [], _, _, _, _, he => nomatch he
  | r :: l, k, ho, hn, e, he => by
    have q : nests (r :: l) = max r.nest (nests l) := rfl
    rcases List.mem_cons.mp he with rfl | he
    · exact ⟨ho.1, by show r.nest ≤ 8; omega⟩
    · exact items_ok ho.2 (by omega) e he
theorem mv_said {n k : Nat} {es : List Ent} {s t : MS} {w : Str} (h : MvN n es s w k t) : s.said.length ≤ t.said.length := by
  induction h with
  | done => exact Nat.le_refl _
  | out _ => exact Nat.le_refl _
  | next h m ih =>
    rename_i e R R' s s' t w
    refine Nat.le_trans ?_ ih
    obtain ⟨k0, r, A0⟩ := e
    cases r with
    | skip => cases h; exact Nat.le_refl _
    | set x f =>
      simp only [stp] at h
      split at h
      · exact nomatch h
      · cases h; exact Nat.le_refl _
    | tell f =>
      simp only [stp] at h
      split at h
      · exact nomatch h
      · cases h; show s.said.length ≤ (s.said ++ [_]).length; rw [List.length_append]; omega
    | ite f a b =>
      simp only [stp] at h
      split at h
      · exact nomatch h
      · split at h <;> (cases h; exact Nat.le_refl _)
    | whl f a =>
      simp only [stp] at h
      split at h
      · exact nomatch h
      · split at h
        · cases h; exact Nat.le_refl _
        · split at h
          · exact nomatch h
          · cases h; exact Nat.le_refl _
theorem mv_next {n k : Nat} {e : Ent} {R R' : List Ent} {s s1 t : MS} {w : Str} (h : MvN n (e :: R) s w k t) (q : stp e.1 e.2.2 R s e.2.1 = .inl (R', s1)) : ∃ m, m < n ∧ MvN m R' s1 w k t := by
  cases h with
  | out h => rw [q] at h; exact nomatch h
  | next h m =>
    rw [q] at h
    cases h
    exact ⟨_, Nat.lt_succ_self _, m⟩
theorem mv_out {n k : Nat} {e : Ent} {R : List Ent} {s t : MS} {w w0 : Str} (h : MvN n (e :: R) s w k t) (q : stp e.1 e.2.2 R s e.2.1 = .inr w0) : w = w0 ∧ k = e.1 ∧ t = s := by
  cases h with
  | out h => rw [q] at h; cases h; exact ⟨rfl, rfl, rfl⟩
  | next h m => rw [q] at h; exact nomatch h
theorem eqv_snoc (ds : List PyData) (d : PyData) : PyData.eqv (.list (ds ++ [d])) (.list []) = false := by cases ds <;> rfl
def sp_law_walked (K : PySem.W.Frag) : Sp := fun vs H Q _ => ∃ (l D : Addr) (xs : List V) (k : Nat) (b : List Rw) (A nl ns : List Str) (g : Str → Int) (t n r : Nat) (w : Str) (s' : MS), vs = [.ref l, .ref D, .int (t : Nat)] ∧ H l = some (.lst xs) ∧ SzL K H xs k b ∧ H D = some (.dK (kvN nl g)) ∧
  oks ns b ∧ nests b ≤ 8 ∧ szs b ≤ 100000 ∧ (∀ x ∈ ns, x ∈ nl) ∧ (∀ x ∈ nl, In6 (g x)) ∧ (∀ x ∈ ns, Nm x) ∧ nl.length ≤ 1000 ∧ MvN n (items k A b) ⟨g, t, []⟩ w r s' ∧ s'.said.length ≤ 3000000 ∧
  ∀ (p L : Addr) (H' : Hp), SameX D H H' → SameT H H' → H L = none → H' p = some (.tup [.str w, .int (r : Nat), .ref L]) → H' L = some (.lst (s'.said.map V.int)) → H' D = some (.dK (kvN nl s'.g)) → Q (.ref p) H'
abbrev N_law_walked : List Str := ["_law_rows", "_law_values_here", "_law_turns", "_law_due_here", "_law_said", "_law_one", "_law_row", "_law_value_here"]
noncomputable def t_law_walked (K : PySem.W.Frag) : TS :=
  (tSeq (tAsg (HuV.tListRev K (tVar 0)) (gName 3)) (tSeq (tAsg (tLst tNil) (gName 4)) (tSeq (tWhile (tTest (tOp (rNe2 K) (tVar 3) (tLst tNil))) (tSeq (tAsg (tBM0 K "list" rPop (tVar 3)) (gName 5)) (tSeq (tAsg (tOp (rIx K) (tVar 5) (tC (.int 1))) (gName 6)) (tSeq (tIfS (tTest (tOp (rEq2 K) (tOp (rIx K) (tVar 6) (tC (.int 0))) (tC (.str "skip")))) tCont tNext) (tSeq (tAsg (tF (sp_law_value K 18) (tCons (tOp (rIx K) (tVar 6) (tOp (rAdd K) (tC (.int 1)) (tCB rInt (tCons (tOp (rEq2 K) (tOp (rIx K) (tVar 6) (tC (.int 0))) (tC (.str "set"))) tNil)))) (tCons (tVar 1) tNil))) (gName 7)) (tSeq (tIfS (tTest (tOp (rIsN2 false) (tVar 7) (tC .non))) (tRet (tTup (tCons (tC (.str "nought")) (tCons (tOp (rIx K) (tVar 5) (tC (.int 0))) (tCons (tVar 4) tNil))))) tNext) (tIfS (tTest (tOp (rEq2 K) (tOp (rIx K) (tVar 6) (tC (.int 0))) (tC (.str "set")))) (sDPut (tVar 1) (tOp (rIx K) (tVar 6) (tC (.int 1))) (tVar 7)) (tIfS (tTest (tOp (rEq2 K) (tOp (rIx K) (tVar 6) (tC (.int 0))) (tC (.str "tell")))) (tDrop (tBM K "list" rAppend (tVar 4) (tCons (tVar 7) tNil))) (tIfS (tTest (tOp (rEq2 K) (tOp (rIx K) (tVar 6) (tC (.int 0))) (tC (.str "if")))) (tAsg (tOp (rAdd K) (tVar 3) (HuV.tListRev K (tOp (rIx K) (tVar 5) (tOp rSub (tC (.int 3)) (tCB rInt (tCons (tOp (rNe2 K) (tVar 7) (tC (.int 0))) tNil)))))) (gName 3)) (tIfS (tTest (tOp (rNe2 K) (tVar 7) (tC (.int 0)))) (tSeq (tIfS (tTest (tOp (rEq2 K) (tVar 2) (tC (.int 0)))) (tRet (tTup (tCons (tC (.str "tired")) (tCons (tOp (rIx K) (tVar 5) (tC (.int 0))) (tCons (tVar 4) tNil))))) tNext) (tSeq (tAsg (tOp rSub (tVar 2) (tC (.int 1))) (gName 2)) (tAsg (tOp (rAdd K) (tOp (rAdd K) (tVar 3) (tLst (tCons (tVar 5) tNil))) (HuV.tListRev K (tOp (rIx K) (tVar 5) (tC (.int 2))))) (gName 3)))) tNext)))))))))) (tRet (tTup (tCons (tC (.str "done")) (tCons (tC (.int 0)) (tCons (tVar 4) tNil))))))))
theorem SameX.more {D l : Addr} {H H1 H2 : Hp} (h : SameX D H H1) (n : H l = none) (h2 : SameX l H1 H2) : SameX D H H2 := fun a u c ha => h2 a u (fun e => by rw [e, n] at ha; exact nomatch ha) (h a u c ha)
theorem sameK_x {D : Addr} {H H' : Hp} {kvs : List (Key × V)} (h : SameX D H H') (hD : H D = some (.dK kvs)) : SameK H H' :=
  ⟨fun a o ha f => h a o (fun e => by rw [e, hD] at ha; rw [← Option.some.inj ha] at f; exact nomatch f) ha, fun l xs hl => h l _ (fun e => by rw [e, hD] at hl; exact nomatch hl) hl⟩
theorem w_listRev {K : PySem.W.Frag} {σ : L2.St} {H : Hp} {te : TE} {Q : VK} (h : te σ H fun v H1 => ∃ (a : Addr) (xs : List V), v = .ref a ∧ SqL K H1 a xs ∧ ∀ q, H1 q = none → Q (.ref q) (upd H1 q (.lst xs.reverse))) : HuV.tListRev K te σ H Q := h
theorem pure_law_walked (K : PySem.W.Frag) (vs : List V) (H : Hp) (Q : VK) (E : XK) (h : sp_law_walked K vs H Q E) :
    t_law_walked K { nx := fun _ H' => Q .non H', rt := Q } (start N_law_walked vs) H := by
  obtain ⟨l, D, xs, k, b, A, nl, ns, g, t, n, r, w, s', rfl, hl, hz, hD, ob, nb, zb, hsub, h6, hnm, nll, m0, sd, q⟩ := h
  have xl := hz.len
  have bl := szs_len b
  unfold t_law_walked
  walk_at "gx"
  refine w_listRev ?_
  walk_at "gx"
  refine ⟨l, xs, rfl, SqL.of hl, fun ld nld => ?_⟩
  have e1 := same_new (o := .lst xs.reverse) nld
  have hd1 : upd H ld (.lst xs.reverse) ld = some (.lst xs.reverse) := upd_same
  generalize upd H ld (.lst xs.reverse) = H1 at e1 hd1
  walk_at "gx"
  rename_i L H2 nL e2 hL2
  have nL0 := none_of e1 nL
  refine w_while' (fun m σ H' => ∃ (es : List Ent) (vs : List V) (g : Str → Int) (t : Nat) (said : List Int) (ld : Addr) (w5 w6 w7 : Option V), MvN m es ⟨g, t, said⟩ w r s' ∧ σ = [some (.ref l), some (.ref D), some (.int (t : Nat)), some (.ref ld), some (.ref L), w5, w6, w7] ∧ H' ld = some (.lst vs.reverse) ∧ H ld = none ∧ ld ≠ L ∧
    DuAt K H vs es ∧ (∀ e ∈ es, e.2.1.ok ns ∧ e.2.1.nest ≤ 8) ∧ Bd 100000 es ∧ H' L = some (.lst (said.map V.int)) ∧ H' D = some (.dK (kvN nl g)) ∧ (∀ x ∈ nl, In6 (g x)) ∧ SameX D H H') n
    ⟨_, xs, g, t, [], ld, _, _, _, m0, rfl, e2 _ _ hd1, nld, (fun e => by rw [e, nL] at hd1; exact nomatch hd1), hz.items, items_ok ob nb, by rw [← List.append_nil (items k A b)]; exact bd_items (R := []) trivial zb, hL2, (e1.trans e2) _ _ hD, h6, SameX.of (e1.trans e2)⟩ ?_
  rintro m σ2 H3 ⟨es, vs, g, t, said, ld, w5, w6, w7, hm, rfl, hd, nd, ldL, hdu, hok, hbd, hL, hD3, g6, x3⟩
  have k3 := sameK_x x3 hD
  walk_at "gx"
  rename_i p4 H4 n4 e4 hp4
  have k4 := sameK_x (x3.trans (SameX.of e4)) hD
  obtain ⟨ds, dp, dk⟩ := DuAt.dp hnm (hdu.go k4) hok
  cases hdu with
  | nil =>
    cases hm
    refine w_neD (.lst (SqL.of (e4 _ _ hd)) .nil) (.lst (SqL.of hp4) .nil) (Dk.shaped (Dk.list (k := 0) dk_nil) (by omega)) (Dk.shaped (Dk.list (k := 0) dk_nil) (by omega)) ?_
    refine ⟨_, rfl, w_no rfl ?_⟩
    walk_at "gx"
    rename_i p5 H5 n5 e5 hp5
    have x5 := x3.trans (SameX.of (e4.trans e5))
    exact q _ L _ x5 (sameK_x x5 hD).1 nL0 hp5 ((e4.trans e5) _ _ hL) ((e4.trans e5) _ _ hD3)
  | cons hv hdu =>
    rename_i v e vs R
    cases dp with
    | cons d1 d2 =>
    rename_i d ds
    have dr := dpAll_rev (DpAll.cons d1 d2)
    rw [List.reverse_cons, List.reverse_cons] at dr
    rw [List.reverse_cons] at hd
    refine w_neD (.lst (SqL.of (e4 _ _ hd)) dr) (.lst (SqL.of hp4) .nil) (Dk.shaped (Dk.list (k := 28) (fun x hx => dk x (by rcases List.mem_append.mp hx with h | h; exact List.mem_cons_of_mem _ (List.mem_reverse.mp h); rw [List.mem_singleton.mp h]; exact List.mem_cons_self ..))) (by omega)) (Dk.shaped (Dk.list (k := 0) dk_nil) (by omega)) ?_
    rw [eqv_snoc]
    refine ⟨_, rfl, w_yes rfl (w_body ?_)⟩
    walk_at "gx"
    have x4 := x3.trans (SameX.of e4)
    have nDl : D ≠ ld := fun c => by rw [c, nd] at hD; exact nomatch hD
    refine w_pop (e4 _ _ hd) (by rw [List.length_append, List.length_singleton, Nat.add_sub_cancel]; exact List.getElem?_concat_length) ?_
    rw [List.dropLast_concat]
    have x5 : SameX D H (upd H4 ld (.lst vs.reverse)) := x4.more nd SameX.upd
    have hd5 : upd H4 ld (.lst vs.reverse) ld = some (.lst vs.reverse) := upd_same
    have hL5 : upd H4 ld (.lst vs.reverse) L = some (.lst (said.map V.int)) := by rw [upd_ne ldL.symm]; exact e4 _ _ hL
    have hD5 : upd H4 ld (.lst vs.reverse) D = some (.dK (kvN nl g)) := by rw [upd_ne nDl]; exact e4 _ _ hD3
    generalize upd H4 ld (.lst vs.reverse) = H5 at x5 hd5 hL5 hD5
    have k5 := sameK_x x5 hD
    clear hd d1 d2 dk dr hp4 k4 n4 hL hD3 k3
    have hdl := hdu.len
    have bdl := bd_len hbd.2
    have nxt : ∀ (s1 : MS) (es' : List Ent) (vs' : List V) (ld' : Addr) (H7 : Hp) (w5 w6 w7 : Option V), stp e.1 e.2.2 R ⟨g, t, said⟩ e.2.1 = .inl (es', s1) → H7 ld' = some (.lst vs'.reverse) → H ld' = none → ld' ≠ L → DuAt K H vs' es' → (∀ e ∈ es', e.2.1.ok ns ∧ e.2.1.nest ≤ 8) → Bd 100000 es' → H7 L = some (.lst (s1.said.map V.int)) → H7 D = some (.dK (kvN nl s1.g)) → (∀ x ∈ nl, In6 (s1.g x)) → SameX D H H7 →
        ∃ m', m' < m ∧ ∃ (es : List Ent) (vs : List V) (g : Str → Int) (t : Nat) (said : List Int) (ld : Addr) (u5 u6 u7 : Option V), MvN m' es ⟨g, t, said⟩ w r s' ∧ [some (V.ref l), some (.ref D), some (.int (s1.turns : Nat)), some (.ref ld'), some (.ref L), w5, w6, w7] = [some (.ref l), some (.ref D), some (.int (t : Nat)), some (.ref ld), some (.ref L), u5, u6, u7] ∧ H7 ld = some (.lst vs.reverse) ∧ H ld = none ∧ ld ≠ L ∧
          DuAt K H vs es ∧ (∀ e ∈ es, e.2.1.ok ns ∧ e.2.1.nest ≤ 8) ∧ Bd 100000 es ∧ H7 L = some (.lst (said.map V.int)) ∧ H7 D = some (.dK (kvN nl g)) ∧ (∀ x ∈ nl, In6 (g x)) ∧ SameX D H H7 := by
      intro s1 es' vs' ld' H7 w5 w6 w7 hst a1 a2 a3 a4 a5 a6 a7 a8 a9 a10
      obtain ⟨m', lt, hm'⟩ := mv_next hm hst
      exact ⟨m', lt, es', vs', s1.g, s1.turns, s1.said, ld', _, _, _, hm', rfl, a1, a2, a3, a4, a5, a6, a7, a8, a9, a10⟩
    have nou : ∀ (w0 : Str) (p : Addr) (H7 : Hp), stp e.1 e.2.2 R ⟨g, t, said⟩ e.2.1 = .inr w0 → SameX D H H7 → H7 L = some (.lst (said.map V.int)) → H7 D = some (.dK (kvN nl g)) → H7 p = some (.tup [.str w0, .int (e.1 : Nat), .ref L]) → Q (.ref p) H7 := by
      intro w0 p H7 hst x7 hL7 hD7 hp7
      obtain ⟨rfl, rfl, rfl⟩ := mv_out hm hst
      exact q _ L _ x7 (sameK_x x7 hD).1 nL0 hp7 hL7 hD7
    have okR : ∀ e ∈ R, e.2.1.ok ns ∧ e.2.1.nest ≤ 8 := fun x hx => hok x (List.mem_cons_of_mem _ hx)
    obtain ⟨ok0, ne0⟩ := hok _ (List.mem_cons_self ..)
    have val : ∀ (f : Fm) (u : V) (Q : VK) (E : XK), FmAt K H5 u f → f.fine ns → (∀ H', Same H5 H' → Q (OV (f.reck g)) H') → sp_law_value K 18 [u, .ref D] H5 Q E := by
      intro f u Q E hf ff q
      exact ⟨u, f, D, ns, g, rfl, hf, ff.1, Nat.le_trans ff.2 (by decide), ⟨_, hD5, fun x hx => kvN_at (hsub x hx)⟩, fun x hx => g6 x (hsub x hx), q⟩
    obtain ⟨k0, row, A0⟩ := e
    cases hv with
    | one h hr hp =>
      have h5 := sameT_t k5.1 h
      have hr5 := hr.monoT k5.1
      cases hr with
      | set h1 hf =>
        rename_i x u f
        have h15 := sameT_t k5.1 h1
        have xn : x ∈ nl := hsub x ok0.1
        have kl : (kvN nl g).length < sizeLine := lt_line (by unfold kvN; rw [List.length_map]; omega)
        walk_at "gx"
        refine val f u _ _ (hf.monoT k5.1) ok0.2 fun H6 e6 => ?_
        have x6 := x5.trans (SameX.of e6)
        cases hk : f.reck g with
        | none =>
          walk_at "gx"
          rename_i p7 H7 n7 e7 hp7
          exact nou "nought" _ _ (by simp only [stp, hk]) (x6.trans (SameX.of e7)) ((e6.trans e7) _ _ hL5) ((e6.trans e7) _ _ hD5) hp7
        | some i =>
          have i6 : In6 i := Fm.reck_in (fun x hx => g6 x (hsub x hx)) ok0.2.1 hk
          walk_at "gx"
          refine w_dputAt (y := .int i) (e6 _ _ hD5) kl ?_
          rw [kvN_put xn]
          have nLD : L ≠ D := fun c => by rw [c] at nL0; rw [nL0] at hD; exact nomatch hD
          refine nxt ⟨setG g x i, t, said⟩ R vs ld _ _ _ _ (by simp only [stp, hk]) (by rw [upd_ne nDl.symm]; exact e6 _ _ hd5) nd ldL hdu okR hbd.2 (by rw [upd_ne nLD]; exact e6 _ _ hL5) upd_same (fun y hy => ?_) (x6.trans SameX.upd)
          show In6 (setG g x i y)
          unfold setG
          split
          · exact i6
          · exact g6 y hy
      | tell h1 hf =>
        rename_i u f
        have h15 := sameT_t k5.1 h1
        walk_at "gx"
        refine val f u _ _ (hf.monoT k5.1) ok0 fun H6 e6 => ?_
        have x6 := x5.trans (SameX.of e6)
        cases hk : f.reck g with
        | none =>
          walk_at "gx"
          rename_i p7 H7 n7 e7 hp7
          exact nou "nought" _ _ (by simp only [stp, hk]) (x6.trans (SameX.of e7)) ((e6.trans e7) _ _ hL5) ((e6.trans e7) _ _ hD5) hp7
        | some i =>
          have hst : stp k0 A0 R ⟨g, t, said⟩ (.tell f) = .inl (R, ⟨g, t, said ++ [i]⟩) := by simp only [stp, hk]
          have sl : said.length + 1 ≤ 3000000 := by
            obtain ⟨m', _, hm'⟩ := mv_next hm hst
            have := mv_said hm'
            have e : (said ++ [i]).length = said.length + 1 := by rw [List.length_append] <;> rfl
            rw [e] at this
            omega
          walk_at "gx"
          refine w_app' (e6 _ _ hL5) (lt_line (by rw [List.length_map]; omega)) (fun H7 x7 t7 h7 => ?_)
          walk_at "gx"
          exact nxt ⟨g, t, said ++ [i]⟩ R vs ld _ _ _ _ hst (x7 _ _ ldL (e6 _ _ hd5)) nd ldL hdu okR hbd.2 (by rw [h7, List.map_append] <;> rfl) (x7 _ _ (fun c => by rw [← c, hD] at nL0; exact nomatch nL0) (e6 _ _ hD5)) g6 (x6.more nL0 x7)
      | skip h1 =>
        have h15 := sameT_t k5.1 h1
        walk_at "gx"
        exact nxt ⟨g, t, said⟩ R vs ld _ _ _ _ rfl hd5 nd ldL hdu okR hbd.2 hL5 hD5 g6 x5
      | ite _ _ _ _ _ _ => exact nomatch hp
      | whl _ _ _ _ => exact nomatch hp
    | ite h hr hl2 ha hm2 hb =>
      rename_i tt l2 l3 u f a b2 xs2 ys2
      have h5 := sameT_t k5.1 h
      cases hr with
      | ite h1 hf _ _ _ _ =>
      have h15 := sameT_t k5.1 h1
      have rsz : (Rw.ite f a b2).size = 1 + (szs a + szs b2) := rfl
      have rne : (Rw.ite f a b2).nest = 1 + max (nests a) (nests b2) := rfl
      have rbd : (Rw.ite f a b2).size + R.length ≤ 100000 := hbd.1
      have ne0 : (Rw.ite f a b2).nest ≤ 8 := ne0
      have al := szs_len a
      have bl2 := szs_len b2
      have xal := ha.len
      have xbl := hb.len
      walk_at "gx"
      refine val f _ _ _ (hf.monoT k5.1) ok0.1 fun H6 e6 => ?_
      have x6 := x5.trans (SameX.of e6)
      cases hk : f.reck g with
      | none =>
        walk_at "gx"
        rename_i p7 H7 n7 e7 hp7
        exact nou "nought" _ _ (by simp only [stp, hk]) (x6.trans (SameX.of e7)) ((e6.trans e7) _ _ hL5) ((e6.trans e7) _ _ hD5) hp7
      | some i =>
        have big : ∀ (xs3 : List V) (l4 : Addr) (kk : Nat) (c : List Rw), H l4 = some (.lst xs3) → SzL K H xs3 kk c → oks ns c → nests c ≤ 8 → szs c + R.length ≤ 100000 → stp k0 A0 R ⟨g, t, said⟩ (.ite f a b2) = .inl (items kk (A0 ++ f.names) c ++ R, ⟨g, t, said⟩) →
            ∀ (w5 w6 w7 : Option V), ∃ (a2 : Addr) (xs4 : List V), V.ref l4 = .ref a2 ∧ SqL K H6 a2 xs4 ∧ ∀ q0, H6 q0 = none → rAdd K (.ref ld) (.ref q0) (upd H6 q0 (.lst xs4.reverse)) fun x7 H7 => ∃ m', m' < m ∧ ∃ (es : List Ent) (vs : List V) (g' : Str → Int) (t' : Nat) (said' : List Int) (ld : Addr) (u5 u6 u7 : Option V), MvN m' es ⟨g', t', said'⟩ w r s' ∧ [some (V.ref l), some (.ref D), some (.int (t : Nat)), some x7, some (.ref L), w5, w6, w7] = [some (.ref l), some (.ref D), some (.int (t' : Nat)), some (.ref ld), some (.ref L), u5, u6, u7] ∧ H7 ld = some (.lst vs.reverse) ∧ H ld = none ∧ ld ≠ L ∧
          DuAt K H vs es ∧ (∀ e ∈ es, e.2.1.ok ns ∧ e.2.1.nest ≤ 8) ∧ Bd 100000 es ∧ H7 L = some (.lst (said'.map V.int)) ∧ H7 D = some (.dK (kvN nl g')) ∧ (∀ x ∈ nl, In6 (g' x)) ∧ SameX D H H7 := by
          intro xs3 l4 kk c hl4 hz3 okc nec szc hst w5 w6 w7
          have k6 := sameK_x x6 hD
          refine ⟨l4, xs3, rfl, SqL.of (k6.2 _ _ hl4), fun q0 hq0 => ?_⟩
          have e7 := same_new (o := .lst xs3.reverse) hq0
          have hq7 : upd H6 q0 (.lst xs3.reverse) q0 = some (.lst xs3.reverse) := upd_same
          generalize upd H6 q0 (.lst xs3.reverse) = H7 at e7 hq7
          have cl := szs_len c
          have zl := hz3.len
          refine w_addL' ((e6.trans e7) _ _ hd5) hq7 (by rw [List.length_reverse, List.length_reverse]; exact Nat.le_of_lt (lt_line (by omega))) fun p8 H8 n8 e8 hp8 => ?_
          have e58 := e6.trans (e7.trans e8)
          have x8 := x5.trans (SameX.of e58)
          have np8 : H p8 = none := by
            cases d : H p8 with
            | none => rfl
            | some o =>
              by_cases c : p8 = D
              · rw [c, (e6.trans e7) _ _ hD5] at n8
                exact nomatch n8
              · rw [(x5.trans (SameX.of (e6.trans e7))) _ _ c d] at n8
                exact nomatch n8
          refine nxt ⟨g, t, said⟩ _ (xs3 ++ vs) p8 _ _ _ _ hst (by rw [hp8, List.reverse_append]) np8 (fun c => by rw [c, (e6.trans e7) _ _ hL5] at n8; exact nomatch n8) ?_ ?_ (bd_items hbd.2 szc) (e58 _ _ hL5) (e58 _ _ hD5) g6 x8
          · exact All2.app hz3.items hdu
          · intro x hx
            exact (List.mem_append.mp hx).elim (items_ok okc nec x) (okR x)
        by_cases c : i = 0
        · subst c
          walk_at "gx"
          refine w_listRev ?_
          walk_at "gx"
          refine big ys2 _ _ b2 hm2 hb ok0.2.2 (by omega) (by omega) (by simp only [stp, hk, if_true]) _ _ _
        · have ci : decide (i = 0) = false := decide_eq_false c
          walk_at "gx"
          refine w_listRev ?_
          walk_at "gx"
          rw [ci]
          walk_at "gx"
          refine big xs2 _ _ a hl2 ha ok0.2.1 (by omega) (by omega) (by simp only [stp, hk, if_neg c]) _ _ _
    | whl h hr hl2 ha =>
      rename_i tt l2 u f a xs2
      have hv0 := SzAt.whl h hr hl2 ha
      have h5 := sameT_t k5.1 h
      cases hr with
      | whl h1 hf _ _ =>
      have h15 := sameT_t k5.1 h1
      have rsz : (Rw.whl f a).size = 1 + szs a := rfl
      have rne : (Rw.whl f a).nest = 1 + nests a := rfl
      have rbd : (Rw.whl f a).size + R.length ≤ 100000 := hbd.1
      have ne0 : (Rw.whl f a).nest ≤ 8 := ne0
      have al := szs_len a
      have xal := ha.len
      walk_at "gx"
      refine val f _ _ _ (hf.monoT k5.1) ok0.1 fun H6 e6 => ?_
      have x6 := x5.trans (SameX.of e6)
      cases hk : f.reck g with
      | none =>
        walk_at "gx"
        rename_i p7 H7 n7 e7 hp7
        exact nou "nought" _ _ (by simp only [stp, hk]) (x6.trans (SameX.of e7)) ((e6.trans e7) _ _ hL5) ((e6.trans e7) _ _ hD5) hp7
      | some i =>
        by_cases c : i = 0
        · subst c
          walk_at "gx"
          exact nxt ⟨g, t, said⟩ R vs ld _ _ _ _ (by simp only [stp, hk, if_true]) (e6 _ _ hd5) nd ldL hdu okR hbd.2 (e6 _ _ hL5) (e6 _ _ hD5) g6 x6
        · have ci : decide (i = 0) = false := decide_eq_false c
          walk_at "gx"
          refine w_yes (by rw [ci] <;> rfl) ?_
          walk_at "gx"
          by_cases tc : t = 0
          · subst tc
            walk_at "gx"
            rename_i p7 H7 n7 e7 hp7
            exact nou "tired" _ _ (by simp only [stp, hk, if_neg c, if_true]) (x6.trans (SameX.of e7)) ((e6.trans e7) _ _ hL5) ((e6.trans e7) _ _ hD5) hp7
          · have tci : decide ((t : Int) = 0) = false := decide_eq_false (by omega)
            refine w_no tci ?_
            walk_at "gx"
            rename_i p7 H7 n7 e7 hp7
            have n0 : ∀ {p : Addr} {H' : Hp}, Same H6 H' → H' p = none → H p = none := by
              intro p H' e n
              cases d : H p with
              | none => rfl
              | some o =>
                by_cases c : p = D
                · rw [c, (e6.trans e) _ _ hD5] at n
                  exact nomatch n
                · rw [(x5.trans (SameX.of (e6.trans e))) _ _ c d] at n
                  exact nomatch n
            refine w_addL' ((e6.trans e7) _ _ hd5) hp7 (by rw [List.length_reverse]; exact Nat.le_of_lt (lt_line (by show vs.length + 1 ≤ _; omega))) fun p8 H8 n8 e8 hp8 => ?_
            refine w_listRev ?_
            walk_at "gx"
            have e68 := e7.trans e8
            have k8 := sameK_x (x6.trans (SameX.of e68)) hD
            refine ⟨_, xs2, rfl, SqL.of (k8.2 _ _ hl2), fun q0 hq0 => ?_⟩
            have e9 := same_new (o := .lst xs2.reverse) hq0
            have hq9 : upd H8 q0 (.lst xs2.reverse) q0 = some (.lst xs2.reverse) := upd_same
            generalize upd H8 q0 (.lst xs2.reverse) = H9 at e9 hq9
            refine w_addL' (e9 _ _ hp8) hq9 (by rw [List.length_append, List.length_reverse, List.length_reverse]; exact Nat.le_of_lt (lt_line (by show vs.length + 1 + xs2.length ≤ _; omega))) fun p10 H10 n10 e10 hp10 => ?_
            walk_at "gx"
            have e69 := e68.trans e9
            have e610 := e69.trans e10
            have e510 := e6.trans e610
            have tn : (t : Int) - 1 = ((t - 1 : Nat) : Int) := by omega
            rw [tn]
            refine nxt ⟨g, t - 1, said⟩ (items (k0 + 1) (A0 ++ f.names) a ++ (k0, .whl f a, A0) :: R) (xs2 ++ .ref tt :: vs) p10 _ _ _ _ (by simp only [stp, hk, if_neg c, if_neg tc]) (by rw [hp10, List.reverse_append, List.reverse_cons]) (n0 e69 n10) (fun c => by rw [c, (e6.trans e69) _ _ hL5] at n10; exact nomatch n10) ?_ ?_ (bd_items (R := (k0, .whl f a, A0) :: R) hbd (by show szs a + (R.length + 1) ≤ _; omega)) (e510 _ _ hL5) (e510 _ _ hD5) g6 (x5.trans (SameX.of e510))
            · exact All2.app ha.items (.cons hv0 hdu)
            · intro x hx
              exact (List.mem_append.mp hx).elim (items_ok ok0.2 (by omega) x) (hok x)
/-- the tuple that is due -/
noncomputable def sp_law_due (K : PySem.W.Frag) : Sp := fun vs H Q _ => ∃ (a bl D : Addr) (xs : List V) (os ss ns : List Str) (b : List Rw) (g : Str → Int) (t n r : Nat) (w : Str) (s : MS), vs = [.ref a, .ref bl, .ref D, .int (t : Nat)] ∧ RunPre K H a D os ss ns b g ∧ SE K H bl xs ∧ BkAt K (SqT K) H xs b ∧
  ns.length ≤ 11 ∧ (∀ x ∈ ns, Nm x) ∧ MvN n (items 1 [] b) ⟨begG (os ++ ss) g, t, []⟩ w r s ∧ s.said.length ≤ 2000000 ∧
  ∀ (T P L : Addr) (H' : Hp), Same H H' → H P = none → H L = none → P ≠ L → RunAt K H' T P L (namesP os ss b) w r s → Q (.ref T) H'
abbrev N_law_due : List Str := ["_law_program", "_law_block", "_law_values_here", "_law_turns", "_law_model", "_law_name", "_law_told_here"]
noncomputable def t_law_due (K : PySem.W.Frag) : TS :=
  (tSeq (tAsg (tCB (rDictP K) (tCons (tLc (iSeq K (tM K "Program" as_Program "names" (sp_Program_names K) (tVar 0) tNil)) (gName 5) tYes (tTup (tCons (tVar 5) (tCons (tDGet2 (tVar 2) (tVar 5) (tC (.int 0))) tNil))) [5]) tNil)) (gName 4)) (tSeq (tAsg (tF (sp_law_walked K) (tCons (tOp (rIx K) (tF (sp_law_sized K 9) (tCons (tVar 1) (tCons (tC (.int 1)) tNil))) (tC (.int 0))) (tCons (tVar 4) (tCons (tVar 3) tNil)))) (gName 6)) (tRet (tTup (tCons (tOp (rIx K) (tVar 6) (tC (.int 0))) (tCons (tOp (rIx K) (tVar 6) (tC (.int 1))) (tCons (tLc (iSeq K (tCB rSortDk (tCons (tVar 4) tNil))) (gName 5) tYes (tTup (tCons (tVar 5) (tCons (tDGet (tVar 4) (tVar 5)) tNil))) [5]) (tCons (tOp (rIx K) (tVar 6) (tC (.int 2))) tNil))))))))
theorem pure_law_due (K : PySem.W.Frag) (vs : List V) (H : Hp) (Q : VK) (E : XK) (h : sp_law_due K vs H Q E) :
    t_law_due K { nx := fun _ H' => Q .non H', rt := Q } (start N_law_due vs) H := by
  obtain ⟨a, bl, D, xs, os, ss, ns, b, g, t, n, r, w, s, rfl, hR, hbl, hys, n11, hnm, run, sl, q⟩ := h
  have l1 := hR.told.l1
  have l2 := hR.told.l2
  have nl := hR.nl
  have bz := hR.size
  unfold t_law_due
  walk_at "gx"
  refine w_lc ?_
  have hP1 := hR.pr
  have hP1' := hP1
  obtain ⟨C, dx, o, hh, q', ys0, hI⟩ := hP1'
  walk_at "gx"
  refine w_mAt hI.ha hI.cc rfl ?_
  walk_at "gx"
  refine ⟨a, os, ss, ns, b, rfl, hP1, hR.ok, by omega, by omega, by omega, hR.nest, by omega, fun pn H2 e02 npn hpn is => ?_⟩
  have Nsub : ∀ z ∈ namesP os ss b, z ∈ (os ++ ss) ++ ns := fun z hz => by
    rcases List.mem_append.mp ((is.2.2 z).mp hz) with h | h
    · exact List.mem_append_left _ h
    · exact List.mem_append_right _ (bnms_ok hR.ok z h)
  have Nl := nodup_le is.2.1 Nsub
  rw [List.length_append, List.length_append] at Nl
  have Nnd : (namesP os ss b).Nodup := is.2.1
  have Nst : sortedS (namesP os ss b) = true := is.1
  have bN : ∀ x ∈ bnms b, x ∈ namesP os ss b := fun x hx => (is.2.2 x).mpr (List.mem_append_right _ hx)
  have hpn : H2 pn = some (.lst ((namesP os ss b).map V.str)) := hpn
  have Nl : (namesP os ss b).length ≤ os.length + ss.length + ns.length := Nl
  have hD2 := e02 _ _ hR.hD
  have hbl2 := se_same e02 hbl
  have hys2 := hys.monoS e02
  generalize hN : namesP os ss b = N at *
  refine lc_all (as := N) (P := fun v x => v = .str x) (fun H v x => ∃ T, v = .ref T ∧ SqT K H T [.str x, .int (begG (os ++ ss) g x)]) (.inl (SqL.of hpn)) all2_map (by omega) (fun _ _ _ _ e ⟨T, h1, h2⟩ => ⟨T, h1, sameT_t e h2⟩) ?_ ?_
  · rintro D3 v x H3 Nx hx rfl e3 ⟨_, _⟩ kk
    have hD3 := e3 _ _ hD2
    refine ⟨rfl, ?_⟩
    walk_at "gx"
    refine w_dget2 ?_
    walk_at "gx"
    refine ⟨D, rfl, .inl ⟨_, .inl hD3⟩, ?_⟩
    walk_at "gx"
    refine ⟨_, DGet.k (k := .inr x) hD3, ?_⟩
    rw [kvN_begG]
    walk_at "gx"
    rename_i p4 H4 n4 e4 hp4
    exact kk _ _ e4 ⟨p4, rfl, SqT.of hp4⟩
  · intro D3 H3 us e3 nD3 hD3 hA
    have hA2 : All2 (fun v (kv : Key × V) => ∃ T, v = .ref T ∧ SqT K H3 T [kV kv.1, kv.2]) us (kvN N (begG (os ++ ss) g)) := by
      clear hD3 nD3 is Nsub Nl Nnd bN hpn q hN Nst
      induction hA with
      | nil => exact .nil
      | cons h t ih => exact .cons h ih
    have e03 := e02.trans e3
    walk_at "gx"
    refine w_dictP (SqL.of hD3) hA2 (kvN_nd Nnd) (fun B H4 nB e4 hB => ?_)
    have e04 := e03.trans e4
    have e24 := e3.trans e4
    walk_at "gx"
    refine ⟨bl, xs, b, 1, rfl, se_same e24 hbl2, hys2.monoS e24, by have := hR.nest; omega, hR.nest, by omega, fun tz lz H5 yz e5 htz nlz hlz hz5 => ?_⟩
    walk_at "gx"
    have g6 : ∀ x, In6 (begG (os ++ ss) g x) := fun x => by
      unfold begG
      by_cases c : x ∈ os ++ ss
      · rw [if_pos c]; exact hR.in6 x c
      · rw [if_neg c]; exact ⟨by decide, by decide⟩
    refine ⟨lz, B, yz, 1, b, [], N, bnms b, begG (os ++ ss) g, t, n, r, w, s, rfl, hlz, hz5.go (SameK.of del_same), e5 _ _ hB, oks_own hR.ok (fun _ h => h), hR.nest, by omega, bN, fun x _ => g6 x, fun x hx => hnm x (bnms_ok hR.ok x hx), by omega, run, by omega, fun p L H6 x6 t6 nL hp6 hL6 hB6 => ?_⟩
    have B0 : H B = none := none_of e03 nB
    have e05 := e04.trans e5
    have e06 : Same H H6 := fun x u hx => x6 x u (ne_of_none hx B0) (e05 x u hx)
    have L0 : H L = none := none_of e05 nL
    walk_at "gx"
    refine w_lc ?_
    walk_at "gx"
    refine ⟨B, _, N, rfl, .inl hB6, kvN_keys, by omega, fun ys p7 pm st np7 => ?_⟩
    have ysN : ys = N := sort_one st (pm.nodup_iff.mpr Nnd) Nst Nnd fun z => pm.mem_iff
    subst ysN
    have e7 := same_new (o := .lst (ys.map V.str)) np7
    have hp7 : upd H6 p7 (.lst (ys.map V.str)) p7 = some (.lst (ys.map V.str)) := upd_same
    generalize upd H6 p7 (.lst (ys.map V.str)) = H7 at e7 hp7
    have hB7 := e7 _ _ hB6
    refine lc_all (as := ys) (P := fun v x => v = .str x) (fun H v x => NmAt K H s.g v x) (.inl (SqL.of hp7)) all2_map (by omega) (fun _ _ _ _ e h => h.monoT e) ?_ ?_
    · rintro D9 v x H9 Nx hx rfl e9 ⟨_, _⟩ kk
      have hB9 := e9 _ _ hB7
      refine ⟨rfl, ?_⟩
      walk_at "gx"
      refine w_dgetAt hB9 (kvN_at hx) ?_
      walk_at "gx"
      rename_i p4 H10 n10 e10 hp10
      exact kk _ _ e10 ⟨p4, rfl, SqT.of hp10⟩
    · intro P H9 us9 e9 nP hP9 hA9
      walk_at "gx"
      rename_i T H10 n10 e10 hT10
      have e610 := e7.trans (e9.trans e10)
      exact q T P L H10 (e06.trans e610) (none_of (e06.trans e7) nP) L0 ((ne_of_none (e7 _ _ hL6) nP).symm) ⟨SqT.of hT10, ⟨us9, e10 _ _ hP9, hA9.imp fun _ _ h => h.monoT (SameT.of e10)⟩, e610 _ _ hL6⟩
def sp_law_whole (K : PySem.W.Frag) : Sp := fun vs H Q _ => ∃ i : Int, vs = [.int i] ∧ Q (.bl true) H
abbrev N_law_whole : List Str := ["_law_found"]
noncomputable def t_law_whole (K : PySem.W.Frag) : TS :=
  (tRet (tAndV (tCB (rIsi2 K) (tCons (tVar 0) (tCons (tC (.ty "int")) tNil))) (tNotV (tCB (rIsi2 K) (tCons (tVar 0) (tCons (tC (.ty "bool")) tNil))))))
theorem pure_law_whole (K : PySem.W.Frag) (vs : List V) (H : Hp) (Q : VK) (E : XK) (h : sp_law_whole K vs H Q E) :
    t_law_whole K { nx := fun _ H' => Q .non H', rt := Q } (start N_law_whole vs) H := by
  obtain ⟨i, rfl, q⟩ := h
  unfold t_law_whole
  walk_at "go"
  refine w_isi (.base (.int i)) rfl ?_
  walk_at "go"
  refine w_isiNo (.base (.int i)) rfl ?_
  walk_at "go"
  exact q
theorem RunAt.dp {K : PySem.W.Frag} {H : Hp} {T P L : Addr} {nl : List Str} {w : Str} {r : Nat} {s : MS} (h : RunAt K H T P L nl w r s) : Dp K H (.ref T) (.tuple [.str w, .int (r : Nat), .list (nl.map fun x => .tuple [.str x, .int (s.g x)]), .list (s.said.map .int)]) := by
  obtain ⟨us, h1, h2⟩ := h.hp
  have a1 : ∀ {us : List V} {nl : List Str}, All2 (NmAt K H s.g) us nl → DpAll K H us (nl.map fun x => .tuple [.str x, .int (s.g x)]) := by
    intro us nl h
    induction h with
    | nil => exact .nil
    | cons h t ih =>
      obtain ⟨t, rfl, h⟩ := h
      exact .cons (.tup h (.cons (.str _) (.cons (.int _) .nil))) ih
  have a2 : ∀ l : List Int, DpAll K H (l.map V.int) (l.map PyData.int) := by
    intro l
    induction l with
    | nil => exact .nil
    | cons x l ih => exact .cons (.int _) ih
  exact .tup h.ht (.cons (.str _) (.cons (.int _) (.cons (.lst (SqL.of h1) (a1 h2)) (.cons (.lst (SqL.of h.hl) (a2 _)) .nil))))
theorem run_dk {nl : List Str} {w : Str} {r : Nat} {s : MS} (hw : PyData.strOk w = true) (hn : ∀ x ∈ nl, PyData.strOk x = true) : Dk (.tuple [.str w, .int (r : Nat), .list (nl.map fun x => .tuple [.str x, .int (s.g x)]), .list (s.said.map .int)]) 3 :=
  Dk.tup (k := 2) (dk_cons (Dk.str hw) (dk_cons Dk.int (dk_cons (Dk.list (k := 1) (dk_map fun x hx => Dk.tup (k := 0) (dk_cons (Dk.str (hn x hx)) (dk_cons Dk.int dk_nil)))) (dk_cons (Dk.list (k := 1) (dk_map fun x _ => Dk.int)) dk_nil))))
def sp_law_same (K : PySem.W.Frag) : Sp := fun vs H Q _ => ∃ (T P L T2 P2 L2 : Addr) (nl : List Str) (w : Str) (r : Nat) (s : MS), vs = [.ref T, .ref T2] ∧ RunAt K H T P L nl w r s ∧ RunAt K H T2 P2 L2 nl w r s ∧ PyData.strOk w = true ∧ (∀ x ∈ nl, PyData.strOk x = true) ∧ nl.length ≤ 1000 ∧
  ∀ H', Same H H' → Q (.bl true) H'
abbrev N_law_same : List Str := ["_law_told_here", "_law_due_here", "_law_pair"]
noncomputable def t_law_same_j1 (K : PySem.W.Frag) : TS :=
  (tRet (tOp (rEq2 K) (tLc (iSeq K (tOp (rIx K) (tVar 0) (tC (.int 2)))) (gName 2) (tOr (tNot (tB (tCB (rIsi2 K) (tCons (tVar 2) (tCons (tC (.ty "tuple")) tNil))))) (tNot (tB (tF (sp_law_whole K) (tCons (tOp (rIx K) (tVar 2) (tC (.int 1))) tNil))))) (tVar 2) [2]) (tLst tNil)))
noncomputable def t_law_same_j2 (K : PySem.W.Frag) : TS :=
  (tSeq (tIfS (tOr (tNot (tB (tCB (rIsi2 K) (tCons (tOp (rIx K) (tVar 0) (tC (.int 2))) (tCons (tC (.ty "list")) tNil))))) (tNot (tB (tCB (rIsi2 K) (tCons (tOp (rIx K) (tVar 0) (tC (.int 3))) (tCons (tC (.ty "list")) tNil)))))) (tRet (tC (.bl false))) tNext) (t_law_same_j1 K))
noncomputable def t_law_same (K : PySem.W.Frag) : TS :=
  (tSeq (tIfS (tOr (tNot (tB (tCB (rIsi2 K) (tCons (tVar 0) (tCons (tC (.ty "tuple")) tNil))))) (tOr (tTest (tOp (rNe2 K) (tCB (rLenA K) (tCons (tVar 0) tNil)) (tC (.int 4)))) (tOr (tTest (tOp (rNe2 K) (tVar 0) (tVar 1))) (tNot (tB (tF (sp_law_whole K) (tCons (tOp (rIx K) (tVar 0) (tC (.int 1))) tNil))))))) (tRet (tC (.bl false))) tNext) (t_law_same_j2 K))
theorem pure_law_same (K : PySem.W.Frag) (vs : List V) (H : Hp) (Q : VK) (E : XK) (h : sp_law_same K vs H Q E) :
    t_law_same K { nx := fun _ H' => Q .non H', rt := Q } (start N_law_same vs) H := by
  obtain ⟨T, P, L, T2, P2, L2, nl, w, r, s, rfl, h1, h2, hw, hn, nll, q⟩ := h
  have t1 := h1.ht
  have t2 := h2.ht
  obtain ⟨us, hp, hA⟩ := h1.hp
  have hl := h1.hl
  unfold t_law_same
  walk_at "gx"
  refine w_isi (tyx_t t1) rfl ?_
  walk_at "gx"
  refine w_no (show (!decide (((4 : Nat) : Int) = 4)) = false from rfl) ?_
  walk_at "gx"
  refine w_neSelf h1.dp h2.dp (run_dk hw hn) (by decide) ?_
  walk_at "gx"
  refine ⟨_, rfl, ?_⟩
  walk_at "gx"
  refine ⟨_, rfl, ?_⟩
  walk_at "gx"
  try unfold t_law_same_j2
  walk_at "gx"
  refine w_isi (tyx_list hp) rfl ?_
  walk_at "gx"
  refine w_isi (tyx_list hl) rfl ?_
  walk_at "gx"
  try unfold t_law_same_j1
  walk_at "gx"
  refine w_lc ?_
  walk_at "gx"
  refine lc_fil (as := nl) (P := fun v x => NmAt K H s.g v x) (fun _ => false) (fun _ _ _ => True) (.inl (SqL.of hp)) hA (by omega) (fun _ _ _ _ _ h => h) ?_ ?_
  · rintro D v x H3 Nx hx ⟨t, rfl, ht⟩ e3 ⟨_, _⟩ kk kn
    have ht3 := same_t e3 ht
    refine ⟨rfl, ?_⟩
    walk_at "gx"
    refine w_isi (tyx_t ht3) rfl ?_
    walk_at "gx"
    refine ⟨_, rfl, ?_⟩
    walk_at "gx"
    exact kn rfl _ (Same.refl _)
  · intro D H3 ys e3 nD hD hys
    rw [show nl.filter (fun _ => false) = [] from List.filter_eq_nil_iff.mpr fun _ _ => by simp] at hys
    cases hys
    walk_at "gx"
    rename_i p4 H4 n4 e4 hp4
    refine w_eqTxt (xs := []) (ys := []) (SqL.of (e4 _ _ hD)) (SqL.of hp4) (fun _ h => nomatch h) (fun _ h => nomatch h) ?_
    walk_at "gx"
    exact q _ (e3.trans e4)
section
variable {K : PySem.W.Frag} {H : Hp} {a : Addr} {u v : V} {f g : Fm}
theorem FmAt.opAdd (h : SqT K H a [.str "+", u, v]) (h1 : FmAt K H u f) (h2 : FmAt K H v g) : FmAt K H (.ref a) (.op .add f g) := .op (s := .add) h h1 h2
theorem FmAt.opDiv (h : SqT K H a [.str "/", u, v]) (h1 : FmAt K H u f) (h2 : FmAt K H v g) : FmAt K H (.ref a) (.op .div f g) := .op (s := .div) h h1 h2
theorem FmAt.opLt (h : SqT K H a [.str "<", u, v]) (h1 : FmAt K H u f) (h2 : FmAt K H v g) : FmAt K H (.ref a) (.op .lt f g) := .op (s := .lt) h h1 h2
theorem FmAt.opEq (h : SqT K H a [.str "=", u, v]) (h1 : FmAt K H u f) (h2 : FmAt K H v g) : FmAt K H (.ref a) (.op .eq f g) := .op (s := .eq) h h1 h2
end
theorem fine_nam {ns : List Str} {x : Str} (h : x ∈ ns) : (Fm.nam x).fine ns := ⟨h, show 1 ≤ 12 by decide⟩
theorem fine_num {ns : List Str} {n : Int} (h0 : 0 ≤ n) (h : n < 1000000) : (Fm.num n).fine ns := ⟨⟨h0, h⟩, show 1 ≤ 12 by decide⟩
theorem fine_op {ns : List Str} {s : Sg} {f g : Fm} (h1 : f.fine ns) (h2 : g.fine ns) (d1 : f.depth ≤ 11) (d2 : g.depth ≤ 11) : (Fm.op s f g).fine ns := ⟨⟨h1.1, h2.1⟩, Nat.succ_le_succ (Nat.max_le.mpr ⟨d1, d2⟩)⟩
theorem BkAt.drop {K : PySem.W.Frag} {S : SQ} {H : Hp} : ∀ {vs : List V} {l : List Rw} (n : Nat), BkAt K S H vs l → BkAt K S H (vs.drop n) (l.drop n)
  | _, _, 0, h => h
  | _, _, _ + 1, .nil => .nil
  | _, _, n + 1, .cons h t => t.drop n
theorem pick2 {x y : V} {i : Int} (h0 : 0 ≤ i) (h : i < 2) : (i = 0 ∧ atI [x, y] i = some x) ∨ (i = 1 ∧ atI [x, y] i = some y) := by
  rcases (show i = 0 ∨ i = 1 by omega) with rfl | rfl
  · exact .inl ⟨rfl, atI_nat (j := 0) rfl⟩
  · exact .inr ⟨rfl, atI_nat (j := 1) rfl⟩
theorem se_l {K : PySem.W.Frag} {H : Hp} {a : Addr} {xs : List V} (h : H a = some (.lst xs)) : SE K H a xs := .inl (SqL.of h)
theorem se_t {K : PySem.W.Frag} {H : Hp} {a : Addr} {xs : List V} (h : H a = some (.tup xs)) : SE K H a xs := .inr (SqT.of h)
/-- a program is made -/
theorem w_prog {K : PySem.W.Frag} {H : Hp} {R : Addr → Hp → Prop} {x y z : Addr} {os ss ns : List Str} {xs : List V} {b : List Rw} (hx : SE K H x (os.map V.str)) (hy : SE K H y (ss.map V.str)) (hz : SE K H z xs) (hb : BkAt K (SqT K) H xs b) (ho : oks ns b) (hN : ∀ x ∈ ns, Nm x) (hT : Told os ss) (hn : nests b ≤ 8) (hs : szs b ≤ 1000)
    (q : ∀ p H', Same H H' → H p = none → PrAt K H' p os ss b → R p H') : ∀ p C dx, CC K "Program" as_Program C → H p = none → H dx = none → dx ≠ p →
      sp_Program___init__ K (.ref p :: [.ref x, .ref y, .ref z]) (upd (upd H dx (.own p)) p (.ins C dx [])) (fun v H2 => v = .non ∧ R p H2) E0 := by
  intro p C dx cc hp hdx ndx
  have e8 := (same_new (o := .own p) hdx).trans (same_new (o := .ins C dx []) (by rw [upd_ne ndx.symm]; exact hp))
  have l1 := hT.l1
  have l2 := hT.l2
  exact ⟨p, x, y, z, C, dx, os, ss, xs, b, rfl, upd_same, cc, se_same e8 hx, se_same e8 hy, se_same e8 hz, (hb.monoS e8).toE, ⟨ns, ho, hN⟩, hT.nm, hT.nd, by omega, by omega, hn, by omega, fun H9 x9 hP => ⟨rfl, q p H9 (SameX.same e8 hp x9) hp hP⟩⟩
local macro_rules | `(tactic| walk_at "fm.") => `(tactic| ((with_reducible refine FmAt.opEq (u := ?u) (v := ?v) ?h ?a ?b); (case h => walk_at "hp"); (case a => walk_at "fm"); (case b => walk_at "fm")))
local macro_rules | `(tactic| walk_at "fm.") => `(tactic| ((with_reducible refine FmAt.opLt (u := ?u) (v := ?v) ?h ?a ?b); (case h => walk_at "hp"); (case a => walk_at "fm"); (case b => walk_at "fm")))
local macro_rules | `(tactic| walk_at "fm.") => `(tactic| ((with_reducible refine FmAt.opDiv (u := ?u) (v := ?v) ?h ?a ?b); (case h => walk_at "hp"); (case a => walk_at "fm"); (case b => walk_at "fm")))
local macro_rules | `(tactic| walk_at "fm.") => `(tactic| ((with_reducible refine FmAt.opAdd (u := ?u) (v := ?v) ?h ?a ?b); (case h => walk_at "hp"); (case a => walk_at "fm"); (case b => walk_at "fm")))
local macro_rules | `(tactic| walk_at "fm.") => `(tactic| ((with_reducible refine FmAt.num ?h); (case h => walk_at "hp")))
local macro_rules | `(tactic| walk_at "fm.") => `(tactic| ((with_reducible refine FmAt.nam ?h); (case h => walk_at "hp")))
local macro_rules | `(tactic| walk_at "fm.") => `(tactic| ((with_reducible refine FmAt.mono (H := ?M) ?e ?h); (case h => with_reducible assumption); (case e => walk_at "ss")))
local macro_rules | `(tactic| walk_at "fm.") => `(tactic| with_reducible assumption)
local macro_rules | `(tactic| walk_at "fm") => `(tactic| first | walk_at "fm." | fail)
local macro_rules | `(tactic| walk_at "rw.") => `(tactic| ((with_reducible refine RwAt.whl (p := ?pp) (u := ?u) (xs := ?xs) ?h ?f ?p ?b); (case h => walk_at "hp"); (case f => walk_at "fm"); (case p => walk_at "hp"); (case b => walk_at "rw")))
local macro_rules | `(tactic| walk_at "rw.") => `(tactic| ((with_reducible refine RwAt.ite (p := ?pp) (q := ?qq) (u := ?u) (xs := ?xs) (ys := ?ys) ?h ?f ?p ?b ?q ?c); (case h => walk_at "hp"); (case f => walk_at "fm"); (case p => walk_at "hp"); (case b => walk_at "rw"); (case q => walk_at "hp"); (case c => walk_at "rw")))
local macro_rules | `(tactic| walk_at "rw.") => `(tactic| ((with_reducible refine RwAt.skip ?h); (case h => walk_at "hp")))
local macro_rules | `(tactic| walk_at "rw.") => `(tactic| ((with_reducible refine RwAt.tell (u := ?u) ?h ?f); (case h => walk_at "hp"); (case f => walk_at "fm")))
local macro_rules | `(tactic| walk_at "rw.") => `(tactic| ((with_reducible refine RwAt.set (u := ?u) ?h ?f); (case h => walk_at "hp"); (case f => walk_at "fm")))
local macro_rules | `(tactic| walk_at "rw.") => `(tactic| ((with_reducible refine BkAt.cons ?h ?t); (case h => walk_at "rw"); (case t => walk_at "rw")))
local macro_rules | `(tactic| walk_at "rw.") => `(tactic| with_reducible exact BkAt.nil)
local macro_rules | `(tactic| walk_at "rw.") => `(tactic| ((with_reducible refine BkAt.monoS (H := ?M) ?e ?h); (case h => with_reducible assumption); (case e => walk_at "ss")))
local macro_rules | `(tactic| walk_at "rw.") => `(tactic| ((with_reducible refine RwAt.monoS (H := ?M) ?e ?h); (case h => with_reducible assumption); (case e => walk_at "ss")))
local macro_rules | `(tactic| walk_at "rw.") => `(tactic| with_reducible assumption)
local macro_rules | `(tactic| walk_at "rw") => `(tactic| first | walk_at "rw." | fail)
local macro_rules | `(tactic| walk_at "fn.") => `(tactic| ((with_reducible refine fine_op ?a ?b ?c ?d); (case a => walk_at "fn"); (case b => walk_at "fn"); (case c => (first | omega | (simp only [Fm.depth]; omega) | (simp only [Fm.depth]; decide))); (case d => (first | omega | (simp only [Fm.depth]; omega) | (simp only [Fm.depth]; decide)))))
local macro_rules | `(tactic| walk_at "fn.") => `(tactic| exact fine_num (by omega) (by omega))
local macro_rules | `(tactic| walk_at "fn.") => `(tactic| exact fine_num (by decide) (by decide))
local macro_rules | `(tactic| walk_at "fn.") => `(tactic| ((with_reducible refine fine_nam ?h); (case h => with_reducible assumption)))
local macro_rules | `(tactic| walk_at "fn.") => `(tactic| with_reducible assumption)
local macro_rules | `(tactic| walk_at "fn") => `(tactic| first | walk_at "fn." | fail)
theorem mv_det {n k : Nat} {es : List Ent} {s t : MS} {w : Str} (h : MvN n es s w k t) : ∀ {m k' : Nat} {t' : MS} {w' : Str}, MvN m es s w' k' t' → w' = w ∧ k' = k ∧ t' = t := by
  induction h with
  | done =>
    intro m k' t' w' h2
    cases h2
    exact ⟨rfl, rfl, rfl⟩
  | out h =>
    intro m k' t' w' h2
    exact mv_out h2 h
  | next h m ih =>
    intro m2 k' t' w' h2
    obtain ⟨m', _, h3⟩ := mv_next h2 h
    exact ih h3
theorem stp_w {k : Nat} {A : List Str} {R : List Ent} {s : MS} {r : Rw} {w : Str} (h : stp k A R s r = .inr w) : w = "nought" ∨ w = "tired" := by
  cases r with
  | skip => exact nomatch h
  | set x f =>
    simp only [stp] at h
    split at h
    · cases h; exact .inl rfl
    · exact nomatch h
  | tell f =>
    simp only [stp] at h
    split at h
    · cases h; exact .inl rfl
    · exact nomatch h
  | ite f a b =>
    simp only [stp] at h
    split at h
    · cases h; exact .inl rfl
    · split at h <;> exact nomatch h
  | whl f a =>
    simp only [stp] at h
    split at h
    · cases h; exact .inl rfl
    · split at h
      · exact nomatch h
      · split at h
        · cases h; exact .inr rfl
        · exact nomatch h
theorem mv_w {n k : Nat} {es : List Ent} {s t : MS} {w : Str} (h : MvN n es s w k t) : PyData.strOk w = true := by
  induction h with
  | done => decide +kernel
  | out h => rcases stp_w h with rfl | rfl <;> decide +kernel
  | next _ _ ih => exact ih
theorem names_ok {os ss ns : List Str} {b : List Rw} (ht : Told os ss) (ho : oks ns b) (hn : ∀ x ∈ ns, Nm x) : ∀ x ∈ namesP os ss b, PyData.strOk x = true := fun x hx => by
  have hx : x ∈ sortU ((os ++ ss) ++ bnms b) := hx
  rw [sortU_mem] at hx
  rcases List.mem_append.mp hx with h | h
  · exact ok_txt (ht.nm x h)
  · exact ok_txt (hn x (bnms_ok ho x h))
theorem names_len {os ss ns : List Str} {b : List Rw} (ht : Told os ss) (ho : oks ns b) : (namesP os ss b).length ≤ 52 + ns.length := by
  have h1 := (sortU_ok ((os ++ ss) ++ bnms b)).2.1
  have := nodup_le (m := (os ++ ss) ++ ns) h1 fun z hz => by
    rcases List.mem_append.mp (sortU_mem.mp hz) with h | h
    · exact List.mem_append_left _ h
    · exact List.mem_append_right _ (bnms_ok ho z h)
  rw [List.length_append, List.length_append] at this
  have := ht.l1
  have := ht.l2
  show (sortU _).length ≤ _
  omega
theorem RunAt.mono {K : PySem.W.Frag} {H H' : Hp} {T P L : Addr} {nl : List Str} {w : Str} {r : Nat} {s : MS} (e : SameK H H') (h : RunAt K H T P L nl w r s) : RunAt K H' T P L nl w r s := by
  obtain ⟨us, h1, h2⟩ := h.hp
  exact ⟨sameT_t e.1 h.ht, ⟨us, e.2 _ _ h1, h2.imp fun _ _ h => h.monoT e.1⟩, e.2 _ _ h.hl⟩
theorem nm_dp {K : PySem.W.Frag} {H : Hp} {g : Str → Int} {us : List V} {nl : List Str} (h : All2 (NmAt K H g) us nl) : DpAll K H us (nl.map fun x => .tuple [.str x, .int (g x)]) := by
  induction h with
  | nil => exact .nil
  | cons h t ih =>
    obtain ⟨t, rfl, h⟩ := h
    exact .cons (.tup h (.cons (.str _) (.cons (.int _) .nil))) ih
theorem int_dp {K : PySem.W.Frag} {H : Hp} : ∀ l : List Int, DpAll K H (l.map V.int) (l.map PyData.int)
  | [] => .nil
  | _ :: l => .cons (.int _) (int_dp l)
def Rw.flat : Rw → Bool
  | .ite _ _ _ => false
  | .whl _ _ => false
  | _ => true
theorem flat_nest : ∀ b : List Rw, nests (b.filter Rw.flat) ≤ 1
  | [] => Nat.zero_le _
  | r :: l => by
    have := flat_nest l
    cases r <;> first
      | exact this
      | (rw [List.filter_cons_of_pos rfl]; show max 1 _ ≤ 1; omega)
theorem flat_size : ∀ b : List Rw, szs (b.filter Rw.flat) ≤ szs b
  | [] => Nat.le_refl _
  | r :: l => by
    have := flat_size l
    by_cases c : r.flat = true
    · rw [List.filter_cons_of_pos c]
      show r.size + _ ≤ r.size + szs l
      omega
    · rw [List.filter_cons_of_neg c]
      show _ ≤ r.size + szs l
      omega
theorem oks_filter {ns : List Str} {p : Rw → Bool} : ∀ {b : List Rw}, oks ns b → oks ns (b.filter p)
  | [], _ => trivial
  | r :: l, h => by
    by_cases c : p r = true
    · rw [List.filter_cons_of_pos c]
      exact ⟨h.1, oks_filter h.2⟩
    · rw [List.filter_cons_of_neg c]
      exact oks_filter h.2
theorem bk_of {K : PySem.W.Frag} {S : SQ} {H : Hp} : ∀ {vs : List V} {l : List Rw}, All2 (RwAt K S H) vs l → BkAt K S H vs l
  | _, _, .nil => .nil
  | _, _, .cons h t => .cons h (bk_of t)
def sp_k06 (K : PySem.W.Frag) : Sp := fun vs H Q _ => ∃ (a : Addr) (ns : List Int), vs = [.ref a] ∧ SqL K H a (ns.map V.int) ∧ ns.length ≤ 63 ∧ ∀ H', Q (.bl true) H'
abbrev N_k06 : List Str := ["_law_script", "_law_names_here", "_law_more_here", "_law_pairs", "_law_turns", "_law_block", "_law_stop", "_law_inner", "_law_choice", "_law_row", "_law_program", "_law_values_here", "_law_others", "_law_handed", "_law_told_here", "_law_due_here"]
noncomputable def t_k06_j1 (K : PySem.W.Frag) : TS :=
  (tSeq (tDrop (tBM0 K "dict" rDClear (tVar 13))) (tSeq (tIfS (tNot (tB (tF (sp_law_same K) (tCons (tF (sp_run K) (tCons (tVar 10) (tCons (tVar 12) (tCons (tC (.int 7)) tNil)))) (tCons (tF (sp_law_due K) (tCons (tVar 10) (tCons (tVar 5) (tCons (tVar 12) (tCons (tC (.int 7)) tNil))))) tNil))))) (tRet (tC (.bl false))) tNext) (tSeq (tIfS (tTest (tOp (rNe2 K) (tVar 14) (tVar 15))) (tRet (tC (.bl false))) tNext) (tSeq (tDrop (tBM K "list" rAppend (tOp (rIx K) (tVar 14) (tC (.int 2))) (tCons (tC (.str "zz")) tNil))) (tSeq (tDrop (tBM K "list" rAppend (tOp (rIx K) (tVar 14) (tC (.int 3))) (tCons (tC (.int 7)) tNil))) (tSeq (tIfS (tNot (tB (tF (sp_law_same K) (tCons (tF (sp_run K) (tCons (tVar 10) (tCons (tCB rDictC (tCons (tVar 11) tNil)) (tCons (tVar 4) tNil)))) (tCons (tVar 15) tNil))))) (tRet (tC (.bl false))) tNext) (tRet (tAndV (tOp (rEq2 K) (tOp (rIx K) (tVar 14) (tC (.int 2))) (tOp (rAdd K) (tOp (rIx K) (tVar 15) (tC (.int 2))) (tLst (tCons (tC (.str "zz")) tNil)))) (tAndV (tOp (rEq2 K) (tOp (rIx K) (tVar 14) (tC (.int 3))) (tOp (rAdd K) (tOp (rIx K) (tVar 15) (tC (.int 3))) (tLst (tCons (tC (.int 7)) tNil)))) (tOp (rEq2 K) (tM K "Program" as_Program "block" (sp_Program_block K) (tVar 10) tNil) (tVar 5)))))))))))
noncomputable def t_k06_j2 (K : PySem.W.Frag) : TS :=
  (tSeq (tAsg (tCB (rTupO K) (tCons (tVar 5) tNil)) (gName 5)) (tSeq (tAsg (tMk K "Program" as_Program (sp_Program___init__ K) (tCons (tOp (rIx K) (tVar 3) (tC (.int 0))) (tCons (tOp (rIx K) (tVar 3) (tC (.int 1))) (tCons (tVar 5) tNil)))) (gName 10)) (tSeq (tAsg (tF (sp_law_values K) (tCons (tVar 0) (tCons (tC (.int 3)) (tCons (tOp (rAdd K) (tOp (rIx K) (tVar 3) (tC (.int 0))) (tOp (rIx K) (tVar 3) (tC (.int 1)))) tNil)))) (gName 11)) (tSeq (tAsg (tF (sp_law_values K) (tCons (tVar 0) (tCons (tC (.int 7)) (tCons (tOp (rAdd K) (tOp (rIx K) (tVar 3) (tC (.int 0))) (tOp (rIx K) (tVar 3) (tC (.int 1)))) tNil)))) (gName 12)) (tSeq (tAsg (tCB rDictC (tCons (tVar 11) tNil)) (gName 13)) (tSeq (tAsg (tF (sp_run K) (tCons (tVar 10) (tCons (tVar 13) (tCons (tVar 4) tNil)))) (gName 14)) (tSeq (tAsg (tF (sp_law_due K) (tCons (tVar 10) (tCons (tVar 5) (tCons (tVar 11) (tCons (tVar 4) tNil))))) (gName 15)) (tSeq (tIfS (tOr (tNot (tB (tF (sp_law_same K) (tCons (tVar 14) (tCons (tVar 15) tNil))))) (tTest (tOp (rNe2 K) (tVar 13) (tVar 11)))) (tRet (tC (.bl false))) tNext) (t_k06_j1 K)))))))))
noncomputable def t_k06_j3 (K : PySem.W.Frag) : TS :=
  (tSeq (tAsg (tF (sp_law_block_by K) (tCons (tSl (rSl K) (tVar 0) (tPart (tC (.int 11))) (tPart (tC (.int 51)))) (tCons (tVar 1) (tCons (tC (.int 1)) tNil)))) (gName 5)) (tSeq (tIfS (tTest (tOp (rEq2 K) (tOp rMod (tOp rDiv (tF (sp_law_cell_at K) (tCons (tVar 0) (tCons (tC (.int 2)) tNil))) (tC (.int 8))) (tC (.int 3))) (tC (.int 1)))) (tSeq (tAsg (tLst (tCons (tTup (tCons (tC (.str "skip")) tNil)) (tCons (tTup (tCons (tC (.str "tell")) (tCons (tTup (tCons (tC (.str "/")) (tCons (tTup (tCons (tC (.str "name")) (tCons (tOp (rIx K) (tVar 1) (tC (.int 1))) tNil))) (tCons (tTup (tCons (tC (.str "number")) (tCons (tC (.int 0)) tNil))) tNil)))) tNil))) tNil))) (gName 6)) (tSeq (tAsg (tLc (iSeq K (tF (sp_law_block_by K) (tCons (tSl (rSl K) (tVar 0) (tPart (tC (.int 11))) (tPart (tC (.int 31)))) (tCons (tVar 1) (tCons (tC (.int 0)) tNil))))) (gName 9) (tAnd (tTest (tOp (rNe2 K) (tOp (rIx K) (tVar 9) (tC (.int 0))) (tC (.str "if")))) (tTest (tOp (rNe2 K) (tOp (rIx K) (tVar 9) (tC (.int 0))) (tC (.str "while"))))) (tVar 9) [9]) (gName 7)) (tSeq (tAsg (tTup (tCons (tC (.str "if")) (tCons (tTup (tCons (tC (.str "name")) (tCons (tOp (rIx K) (tVar 1) (tC (.int 0))) tNil))) (tCons (tCB (rTupO K) (tCons (tVar 7) tNil)) (tCons (tCB (rTupO K) (tCons (tVar 6) tNil)) tNil))))) (gName 8)) (tAsg (tOp (rAdd K) (tLst (tCons (tTup (tCons (tC (.str "while")) (tCons (tTup (tCons (tC (.str "<")) (tCons (tTup (tCons (tC (.str "number")) (tCons (tC (.int 0)) tNil))) (tCons (tTup (tCons (tC (.str "number")) (tCons (tC (.int 1)) tNil))) tNil)))) (tCons (tTup (tCons (tVar 8) (tCons (tTup (tCons (tC (.str "set")) (tCons (tOp (rIx K) (tVar 1) (tC (.int 0))) (tCons (tTup (tCons (tC (.str "number")) (tCons (tC (.int 0)) tNil))) tNil)))) tNil))) tNil)))) tNil)) (tVar 5)) (gName 5))))) tNext) (t_k06_j2 K)))
noncomputable def t_k06 (K : PySem.W.Frag) : TS :=
  (tSeq (tAsg (tF (sp_law_names K) (tCons (tF (sp_law_cell_at K) (tCons (tVar 0) (tCons (tC (.int 0)) tNil))) (tCons (tF (sp_law_cell_at K) (tCons (tVar 0) (tCons (tC (.int 1)) tNil))) tNil))) (gName 1)) (tSeq (tAsg (tF (sp_law_more K) (tCons (tVar 1) (tCons (tF (sp_law_mixed K) (tCons (tF (sp_law_cell_at K) (tCons (tVar 0) (tCons (tC (.int 1)) tNil))) tNil)) tNil))) (gName 2)) (tSeq (tAsg (tF (sp_law_told K) (tCons (tVar 1) (tCons (tVar 2) (tCons (tF (sp_law_mixed K) (tCons (tF (sp_law_cell_at K) (tCons (tVar 0) (tCons (tC (.int 0)) tNil))) tNil)) tNil)))) (gName 3)) (tSeq (tAsg (tOp rMod (tF (sp_law_cell_at K) (tCons (tVar 0) (tCons (tC (.int 2)) tNil))) (tC (.int 8))) (gName 4)) (tSeq (tIfS (tTest (tOp (rEq2 K) (tOp rMod (tOp rDiv (tF (sp_law_cell_at K) (tCons (tVar 0) (tCons (tC (.int 2)) tNil))) (tC (.int 40))) (tC (.int 8))) (tC (.int 1)))) (tAsg (tOp rMod (tOp rDiv (tF (sp_law_cell_at K) (tCons (tVar 0) (tCons (tC (.int 2)) tNil))) (tC (.int 320))) (tC (.int 401))) (gName 4)) tNext) (t_k06_j3 K))))))
theorem sameK_d {H : Hp} {D : Addr} {ks ls : List (Key × V)} (h : H D = some (.dK ks)) : SameK H (upd H D (.dK ls)) :=
  ⟨SameT.upd h rfl, fun l xs hl => by rw [upd_ne (fun e => by rw [e, h] at hl; exact nomatch hl)]; exact hl⟩
theorem k06_j1 (K : PySem.W.Frag) (Q : VK) {H0 H : Hp} {a pp pg pt D1 D2 D3 T1 P1 L1 T2 P2 L2 : Addr} {w1 w2 w6 w7 w8 w9 : Option V} {os ss ns : List Str} {xs : List V} {b : List Rw} {t n r : Nat} {g1 g2 : Str → Int} {kvs : List (Key × V)} {w : Str} {s : MS}
    (e0 : Same H0 H) (nD3 : H0 D3 = none) (nP1 : H0 P1 = none) (nL1 : H0 L1 = none) (hP : PrAt K H0 pg os ss b) (hpt : H0 pt = some (.tup xs)) (hb : BkAt K (SqT K) H0 xs b) (ho : oks ns b) (hN : ∀ z ∈ ns, Nm z) (nsl : ns.length ≤ 11) (hT : Told os ss) (hne : nests b ≤ 8) (hz : szs b ≤ 300) (ht : t ≤ 400)
    (hD1 : H0 D1 = some (.dK (kvN (os ++ ss) g1))) (hD2 : H0 D2 = some (.dK (kvN (os ++ ss) g2))) (g16 : ∀ x ∈ os ++ ss, In6 (g1 x)) (g26 : ∀ x ∈ os ++ ss, In6 (g2 x)) (hD3 : H D3 = some (.dK kvs))
    (mv : MvN n (items 1 [] b) ⟨begG (os ++ ss) g1, t, []⟩ w r s) (sl : s.said.length ≤ 2000000) (hR1 : RunAt K H T1 P1 L1 (namesP os ss b) w r s) (hR2 : RunAt K H T2 P2 L2 (namesP os ss b) w r s)
    (d1 : P1 ≠ L1) (d2 : P1 ≠ P2) (d3 : P1 ≠ L2) (d4 : L1 ≠ P2) (d5 : L1 ≠ L2) (q : ∀ H', Q (.bl true) H') :
    t_k06_j1 K { nx := fun _ H' => Q .non H', rt := Q } [some (.ref a), w1, w2, some (.ref pp), some (.int (t : Nat)), some (.ref pt), w6, w7, w8, w9, some (.ref pg), some (.ref D1), some (.ref D2), some (.ref D3), some (.ref T1), some (.ref T2)] H := by
  have nok := names_ok hT ho hN
  have nle := names_len (b := b) hT ho
  have wok := mv_w mv
  have rp : ∀ {H' : Hp} {D : Addr} {g : Str → Int}, Same H0 H' → H' D = some (.dK (kvN (os ++ ss) g)) → (∀ x ∈ os ++ ss, In6 (g x)) → RunPre K H' pg D os ss ns b g := fun e hD g6 => ⟨hP.mono e, hD, g6, hT, ho, by omega, hne, by omega⟩
  unfold t_k06_j1
  walk_at "gx"
  refine ⟨.inr (.inr (.inl ⟨rfl, .inl ⟨_, hD3⟩⟩)), D3, _, rfl, rfl, hD3, ?_⟩
  have e1 : Same H0 (upd H D3 (.dK [])) := same_mut e0 nD3
  have k1 : SameK H (upd H D3 (.dK [])) := sameK_d hD3
  generalize upd H D3 (.dK []) = H1 at e1 k1
  walk_at "gx"
  refine ⟨pg, D2, os, ss, ns, b, g2, 7, rfl, rp e1 (e1 _ _ hD2) g26, by decide, fun T3 P3 L3 H2 w3 r3 n3 s3 e2 nP3 nL3 d3' hR3 mv3 _ sl3 => ?_⟩
  walk_at "gx"
  refine ⟨pg, pt, D2, xs, os, ss, ns, b, g2, 7, n3, r3, w3, s3, rfl, rp (e1.trans e2) (e2 _ _ (e1 _ _ hD2)) g26, .inr (SqT.of ((e1.trans e2) _ _ hpt)), hb.monoS (e1.trans e2), nsl, hN, mv3, sl3, fun T4 P4 L4 H3 e3 nP4 nL4 d4' hR4 => ?_⟩
  walk_at "gx"
  refine ⟨T3, P3, L3, T4, P4, L4, _, w3, r3, s3, rfl, hR3.mono (SameK.of e3), hR4, mv_w mv3, nok, by omega, fun H4 e4 => ?_⟩
  have e14 := e2.trans (e3.trans e4)
  have e04 := e1.trans e14
  have hR14 := (hR1.mono k1).mono (SameK.of e14)
  have hR24 := (hR2.mono k1).mono (SameK.of e14)
  clear hR1 hR2 hR3 hR4 mv3 e2 e3 e4 e14 k1 e1 e0
  walk_at "gx"
  refine w_neSelf hR14.dp hR24.dp (run_dk wok nok) (by decide) ?_
  walk_at "gx"
  obtain ⟨us1, hP1, hA1⟩ := hR14.hp
  have ht1 := hR14.ht
  have hL1 := hR14.hl
  have ul1 := hA1.len
  refine w_ixT ht1 (atI_nat (j := 2) rfl) ?_
  refine w_bmL (SqL.of hP1) ?_
  walk_at "gx"
  refine w_app' hP1 (lt_line (by omega)) (fun H5 x5 t5 hP15 => ?_)
  have e05 : Same H0 H5 := SameX.same e04 nP1 x5
  have hL15 := x5 _ _ d1.symm hL1
  walk_at "gx"
  refine w_ixT (sameT_t t5 ht1) (atI_nat (j := 3) rfl) ?_
  refine w_bmL (SqL.of hL15) ?_
  walk_at "gx"
  refine w_app' hL15 (lt_line (by rw [List.length_map]; omega)) (fun H6 x6 t6 hL16 => ?_)
  have e06 : Same H0 H6 := SameX.same e05 nL1 x6
  have t46 := t5.trans t6
  have ht16 := sameT_t t46 ht1
  have hP16 := x6 _ _ d1 hP15
  have hR26 : RunAt K H6 T2 P2 L2 (namesP os ss b) w r s := by
    obtain ⟨us2, h1, h2⟩ := hR24.hp
    exact ⟨sameT_t t46 hR24.ht, ⟨us2, x6 _ _ d4.symm (x5 _ _ d2.symm h1), h2.imp fun _ _ h => h.monoT t46⟩, x6 _ _ d5.symm (x5 _ _ d3.symm hR24.hl)⟩
  have hA16 := hA1.imp fun _ _ h => NmAt.monoT t46 h
  clear hR14 hR24 x5 x6 t5 t6 t46 hP15 hL15 hP1 hL1 ht1 e05 e04 hA1
  walk_at "gx"
  refine w_dictC (e06 _ _ hD1) (fun D5 nD5 => ?_)
  have e7 := same_new (o := .dK (kvN (os ++ ss) g1)) nD5
  have hD5 : upd H6 D5 (.dK (kvN (os ++ ss) g1)) D5 = some (.dK (kvN (os ++ ss) g1)) := upd_same
  generalize upd H6 D5 (.dK (kvN (os ++ ss) g1)) = H7 at e7 hD5
  walk_at "gx"
  refine ⟨pg, D5, os, ss, ns, b, g1, t, rfl, rp (e06.trans e7) hD5 g16, by omega, fun T5 P5 L5 H8 w5 r5 n5 s5 e8 _ _ _ hR5 mv5 _ _ => ?_⟩
  obtain ⟨rfl, rfl, rfl⟩ := mv_det mv mv5
  have e68 := e7.trans e8
  walk_at "gx"
  refine ⟨T5, P5, L5, T2, P2, L2, _, w5, r5, s5, rfl, hR5, hR26.mono (SameK.of e68), wok, nok, by omega, fun H9 e9 => ?_⟩
  have e69 := e68.trans e9
  have e09 := e06.trans e69
  walk_at "gx"
  have ht19 := same_t e69 ht16
  have hP19 := e69 _ _ hP16
  have hL19 := e69 _ _ hL16
  have hR29 := hR26.mono (SameK.of e69)
  have hA19 := hA16.imp fun _ _ h => NmAt.monoT (SameT.of e69) h
  have ht29 := hR29.ht
  obtain ⟨us2, hP29, hA29⟩ := hR29.hp
  have hL29 := hR29.hl
  have ul2 := hA29.len
  have k1 : ∀ d ∈ ((namesP os ss b).map fun x => PyData.tuple [.str x, .int (s5.g x)]) ++ [.str "zz"], Dk d 1 := fun d hd => by
    rcases List.mem_append.mp hd with h | h
    · exact dk_map (k := 1) (fun x hx => Dk.tup (k := 0) (dk_cons (Dk.str (nok x hx)) (dk_cons Dk.int dk_nil))) d h
    · rw [List.mem_singleton.mp h]
      exact Dk.str (by decide +kernel)
  have k2 : ∀ d ∈ (s5.said.map PyData.int) ++ [.int 7], Dk d 1 := fun d hd => by
    rcases List.mem_append.mp hd with h | h
    · exact dk_map (k := 1) (fun x _ => Dk.int) d h
    · rw [List.mem_singleton.mp h]
      exact Dk.int
  clear hR29 hR26 hA16 hP16 hL16 ht16 hR5 e68 e69 e7 e8 e9 e06
  refine w_ixT ht29 (atI_nat (j := 2) rfl) ?_
  walk_at "gx"
  rename_i p10 H10 n10 e10 hp10
  refine w_addL' (e10 _ _ hP29) hp10 (by show us2.length + 1 ≤ _; exact Nat.le_of_lt (lt_line (by omega))) fun p11 H11 n11 e11 hp11 => ?_
  have e911 := e10.trans e11
  refine w_eqSelf (.lst (SqL.of (e911 _ _ hP19)) (dpAll_app (nm_dp (hA19.imp fun _ _ h => h.monoT (SameT.of e911))) (.cons (.str _) .nil))) (.lst (SqL.of hp11) (dpAll_app (nm_dp (hA29.imp fun _ _ h => h.monoT (SameT.of e911))) (.cons (.str _) .nil))) (Dk.list k1) (by decide) ?_
  walk_at "gx"
  rename_i p12 H12 n12 e12 hp12
  have e912 := e911.trans e12
  refine w_addL' (e912 _ _ hL29) hp12 (by rw [List.length_map]; show s5.said.length + 1 ≤ _; exact Nat.le_of_lt (lt_line (by omega))) fun p13 H13 n13 e13 hp13 => ?_
  have e913 := e912.trans e13
  refine w_eqSelf (.lst (SqL.of (e913 _ _ hL19)) (dpAll_app (int_dp _) (.cons (.int _) .nil))) (.lst (SqL.of hp13) (dpAll_app (int_dp _) (.cons (.int _) .nil))) (Dk.list k2) (by decide) ?_
  have e013 := e09.trans e913
  have hP13 := hP.mono e013
  have hP13' := hP13
  obtain ⟨C, dx, o, hh, q', ys0, hI⟩ := hP13'
  walk_at "gx"
  refine w_mAt hI.ha hI.cc rfl ?_
  walk_at "gx"
  refine ⟨pg, os, ss, b, rfl, hP13, fun qb ys hqb hys => ?_⟩
  walk_at "gx"
  refine w_eqSelf (.tup hqb (BkAt.dp tupB hys)) (.tup (SqT.of (e013 _ _ hpt)) (BkAt.dp tupB (hb.monoS e013))) (Dk.tup (pds_dk hN tupD ho)) (by omega) ?_
  exact q _
theorem k06_j2 (K : PySem.W.Frag) (Q : VK) {H : Hp} {a pp x y pb : Addr} {w1 w2 w6 w7 w8 w9 : Option V} {cs : List Int} {os ss ns : List Str} {xs : List V} {b : List Rw} {t : Nat} (hS : SqL K H a (cs.map V.int)) (hpp : H pp = some (.lst [.ref x, .ref y])) (hx : H x = some (.lst (os.map V.str))) (hy : H y = some (.lst (ss.map V.str)))
    (hT : Told os ss) (hpb : H pb = some (.lst xs)) (hG : GoodB K H ns xs b) (hN : ∀ z ∈ ns, Nm z) (nsl : ns.length ≤ 11) (hz : szs b ≤ 300) (ht : t ≤ 400) (q : ∀ H', Q (.bl true) H') :
    t_k06_j2 K { nx := fun _ H' => Q .non H', rt := Q } [some (.ref a), w1, w2, some (.ref pp), some (.int (t : Nat)), some (.ref pb), w6, w7, w8, w9, none, none, none, none, none, none] H := by
  have ho := hG.ok
  have hne := hG.nest
  have l1 := hT.l1
  have l2 := hT.l2
  have nok := names_ok hT ho hN
  have nle := names_len (b := b) hT ho
  unfold t_k06_j2
  walk_at "gx"
  refine w_tupL' (SqL.of hpb) (fun pt H1 npt e1 hpt => ?_)
  have hb := hG.at_.monoS e1
  walk_at "gx"
  refine w_prog (se_l (e1 _ _ hx)) (se_l (e1 _ _ hy)) (se_t hpt) hb ho hN hT hne (by omega) (fun pg H2 e2 npg hP => ?_)
  have e02 := e1.trans e2
  walk_at "gx"
  refine w_addL' (e02 _ _ hx) (e02 _ _ hy) (by rw [List.length_map, List.length_map]; exact Nat.le_of_lt (lt_line (by omega))) fun pl H3 n3 e3 hpl => ?_
  rw [← List.map_append] at hpl
  have e03 := e02.trans e3
  walk_at "gx"
  refine ⟨a, pl, cs, 3, os ++ ss, rfl, same_l e03 hS, by decide, SqL.of hpl, hT.nd, by rw [List.length_append]; omega, fun D1 H4 g1 e4 nD1 hD1 g16 => ?_⟩
  have e04 := e03.trans e4
  walk_at "gx"
  refine w_addL' (e04 _ _ hx) (e04 _ _ hy) (by rw [List.length_map, List.length_map]; exact Nat.le_of_lt (lt_line (by omega))) fun pl2 H5 n5 e5 hpl2 => ?_
  rw [← List.map_append] at hpl2
  have e05 := e04.trans e5
  walk_at "gx"
  refine ⟨a, pl2, cs, 7, os ++ ss, rfl, same_l e05 hS, by decide, SqL.of hpl2, hT.nd, by rw [List.length_append]; omega, fun D2 H6 g2 e6 nD2 hD2 g26 => ?_⟩
  have e46 := e5.trans e6
  have e26 := e3.trans (e4.trans e46)
  have hD16 := e46 _ _ hD1
  walk_at "gx"
  refine w_dictC hD16 (fun D3 nD3 => ?_)
  have e7 := same_new (o := .dK (kvN (os ++ ss) g1)) nD3
  have hD37 : upd H6 D3 (.dK (kvN (os ++ ss) g1)) D3 = some (.dK (kvN (os ++ ss) g1)) := upd_same
  generalize upd H6 D3 (.dK (kvN (os ++ ss) g1)) = H7 at e7 hD37
  have hP6 := hP.mono e26
  have hb6 := hb.monoS (e2.trans e26)
  have hpt6 := (e2.trans e26) _ _ hpt
  walk_at "gx"
  have rp : ∀ {H' : Hp} {D : Addr}, Same H7 H' → H' D = some (.dK (kvN (os ++ ss) g1)) → RunPre K H' pg D os ss ns b g1 := fun e hD => ⟨hP6.mono (e7.trans e), hD, g16, hT, ho, by omega, hne, by omega⟩
  refine ⟨pg, D3, os, ss, ns, b, g1, t, rfl, rp (Same.refl _) hD37, by omega, fun T1 P1 L1 H8 w r n s e8 nP1 nL1 P1L1 hR1 mv s6 sl => ?_⟩
  walk_at "gx"
  refine ⟨pg, pt, D1, xs, os, ss, ns, b, g1, t, n, r, w, s, rfl, rp e8 (e8 _ _ (e7 _ _ hD16)), .inr (SqT.of (e8 _ _ (e7 _ _ hpt6))), hb6.monoS (e7.trans e8), nsl, hN, mv, sl, fun T2 P2 L2 H9 e9 nP2 nL2 P2L2 hR2 => ?_⟩
  walk_at "gx"
  refine ⟨T1, P1, L1, T2, P2, L2, _, w, r, s, rfl, hR1.mono (SameK.of e9), hR2, mv_w mv, nok, by omega, fun H10 e10 => ?_⟩
  have e810 := e9.trans e10
  have e710 := e8.trans e810
  have e610 := e7.trans e710
  have hD310 := e710 _ _ hD37
  obtain ⟨us1, hP1, _⟩ := hR1.hp
  walk_at "gx"
  refine w_neDict hD310 (e610 _ _ hD16) rfl (fun p hp => ?_) ?_
  · obtain ⟨z, hz, rfl⟩ := List.mem_map.mp hp
    exact ⟨kvN_at hz, rfl⟩
  walk_at "gx"
  exact k06_j1 K Q e610 nD3 (none_of e7 nP1) (none_of e7 nL1) hP6 hpt6 hb6 ho hN nsl hT hne hz ht hD16 hD2 g16 g26 hD310 mv sl (hR1.mono (SameK.of e810)) (hR2.mono (SameK.of e10)) P1L1 (ne_of_none hP1 nP2) (ne_of_none hP1 nL2) (ne_of_none hR1.hl nP2) (ne_of_none hR1.hl nL2) q
theorem k06_j3 (K : PySem.W.Frag) (Q : VK) {H : Hp} {a pn pp x y : Addr} {w2 : Option V} {cs : List Int} {os ss ns : List Str} {t : Nat} (hS : SqL K H a (cs.map V.int)) (hcl : cs.length ≤ 63) (hpn : H pn = some (.lst (ns.map V.str))) (hN : Ten ns) (hpp : H pp = some (.lst [.ref x, .ref y])) (hx : H x = some (.lst (os.map V.str))) (hy : H y = some (.lst (ss.map V.str)))
    (hT : Told os ss) (ht : t ≤ 400) (q : ∀ H', Q (.bl true) H') :
    t_k06_j3 K { nx := fun _ H' => Q .non H', rt := Q } [some (.ref a), some (.ref pn), w2, some (.ref pp), some (.int (t : Nat)), none, none, none, none, none, none, none, none, none, none, none] H := by
  have nsl : ns.length = 10 := hN.len
  obtain ⟨n0, n1, nr, hns⟩ : ∃ n0 n1 nr, ns = n0 :: n1 :: nr := by
    match ns, nsl with
    | n0 :: n1 :: nr, _ => exact ⟨n0, n1, nr, rfl⟩
  have m0 : n0 ∈ ns := by rw [hns]; exact List.mem_cons_self
  have m1 : n1 ∈ ns := by rw [hns]; exact List.mem_cons_of_mem _ List.mem_cons_self
  have a0 : atI (ns.map V.str) 0 = some (.str n0) := by rw [hns]; exact at0
  have a1 : atI (ns.map V.str) 1 = some (.str n1) := by rw [hns]; exact atI_nat (j := 1) rfl
  unfold t_k06_j3
  walk_at "gx"
  refine w_slC' hS _ _ (fun pc H1 ds npc e1 hpc hds => ?_)
  walk_at "gx"
  refine ⟨pc, pn, ds, ns, 1, rfl, SqL.of hpc, Nat.le_trans hds.length_le hcl, SqL.of (e1 _ _ hpn), hN, fun pb H2 xs b e2 npb hpb hG hz => ?_⟩
  have e02 := e1.trans e2
  have hpn2 := e02 _ _ hpn
  walk_at "gx"
  refine ⟨a, cs, _, rfl, same_l e02 hS, by decide, fun i => ?_⟩
  walk_at "gx"
  refine w_two (fun c => ?_) (fun c => ?_)
  · walk_at "gx"
    rename_i s1 F1 u1 f1 hs1
    refine w_ixL (SqL.of (f1 _ _ hpn2)) a1 ?_
    walk_at "gx"
    rename_i s2 F2 u2 f2 hs2 s3 F3 u3 f3 hs3 s4 F4 u4 f4 hs4 s5 F5 u5 f5 hs5 s6 F6 u6 f6 hs6
    have q4 : FmAt K F6 (.ref s4) (.op .div (.nam n1) (.num 0)) := by walk_at "fm"
    have q5 : F6 s5 = some (.tup [.str "tell", .ref s4]) := by walk_at "lk"
    have q1 : F6 s1 = some (.tup [.str "skip"]) := by walk_at "lk"
    have e06 : Same H2 F6 := by walk_at "ss"
    clear hs1 hs2 hs3 hs4 hs5 f1 f2 f3 f4 f5 f6 u1 u2 u3 u4 u5 u6
    refine w_lc ?_
    walk_at "gx"
    refine w_slC' (same_l (e02.trans e06) hS) _ _ (fun pc2 F7 ds2 npc2 f7 hpc2 hds2 => ?_)
    walk_at "gx"
    refine ⟨pc2, pn, ds2, ns, 0, rfl, SqL.of hpc2, Nat.le_trans hds2.length_le hcl, SqL.of (f7 _ _ (e06 _ _ hpn2)), hN, fun pb2 F8 xs2 b2 f8 npb2 hpb2 hG2 hz2 => ?_⟩
    have bl2 := szs_len b2
    walk_at "gx"
    refine lc_fil (as := b2) (P := RwAt K (SqT K) F8) Rw.flat (fun H v r => RwAt K (SqT K) H v r) (.inl (SqL.of hpb2)) hG2.at_.all2 (by omega) (fun _ _ _ _ e h => h.monoT e) ?_ ?_
    · rintro D v z F9 Nx hz9 hv f9 ⟨_, _⟩ kk kn
      have hv9 := hv.monoS f9
      refine ⟨rfl, ?_⟩
      have hv9' := hv9
      cases hv9' with
      | set h hf =>
        walk_at "gx"
        exact kk rfl _ _ (Same.refl _) hv9
      | tell h hf =>
        walk_at "gx"
        exact kk rfl _ _ (Same.refl _) hv9
      | skip h =>
        walk_at "gx"
        exact kk rfl _ _ (Same.refl _) hv9
      | ite h hf hp hb1 hq hc =>
        walk_at "gx"
        exact kn rfl _ (Same.refl _)
      | whl h hf hp hb1 =>
        walk_at "gx"
        exact kn rfl _ (Same.refl _)
    · intro D F9 zs f9 nD hD hzs
      have hbk := bk_of hzs
      have e09 : Same H2 F9 := e06.trans (f7.trans (f8.trans f9))
      have hpn9 := e09 _ _ hpn2
      have f69 := f7.trans (f8.trans f9)
      have hst : BkAt K (SqT K) F9 [.ref s1, .ref s5] [.skip, .tell (.op .div (.nam n1) (.num 0))] := .cons (.skip (SqT.of (f69 _ _ q1))) (.cons (.tell (SqT.of (f69 _ _ q5)) (q4.mono f69)) .nil)
      have hs69 := f69 _ _ hs6
      have hpb9 := e09 _ _ hpb
      have hG9 := hG.at_.monoS e09
      have hS9 := same_l (e02.trans e09) hS
      have hpp9 := (e02.trans e09) _ _ hpp
      have hx9 := (e02.trans e09) _ _ hx
      have hy9 := (e02.trans e09) _ _ hy
      clear hs6 q1 q4 q5 f7 f8 f9 f69 e09 e06 e02 e1 e2
      walk_at "gx"
      refine w_ixL (SqL.of hpn9) a0 ?_
      walk_at "gx"
      rename_i c1 G1 v1 g1 hc1
      refine w_tupL' (SqL.of (g1 _ _ hD)) (fun c2 G2 v2 g2 hc2 => ?_)
      walk_at "gx"
      refine w_tupL' (SqL.of (g2 _ _ (g1 _ _ hs69))) (fun c3 G3 v3 g3 hc3 => ?_)
      walk_at "gx"
      rename_i c4 G4 v4 g4 hc4 c5 G5 v5 g5 hc5 c6 G6 v6 g6 hc6 c7 G7 v7 g7 hc7
      refine w_ixL (xs := ns.map V.str) (by walk_at "hp") a0 ?_
      walk_at "gx"
      rename_i c8 G8 v8 g8 hc8 c9 G9 v9 g9 hc9 c10 G10 v10 g10 hc10 c11 G11 v11 g11 hc11 c12 G12 v12 g12 hc12
      have hrow : RwAt K (SqT K) G12 (.ref c11) (.whl (.op .lt (.num 0) (.num 1)) [.ite (.nam n0) (b2.filter Rw.flat) [.skip, .tell (.op .div (.nam n1) (.num 0))], .set n0 (.num 0)]) := by walk_at "rw"
      have eG : Same F9 G12 := by walk_at "ss"
      have fn := flat_nest b2
      have fz := flat_size b2
      have bl := szs_len b
      have xl := hG.at_.len
      have okr : (Rw.whl (.op .lt (.num 0) (.num 1)) [.ite (.nam n0) (b2.filter Rw.flat) [.skip, .tell (.op .div (.nam n1) (.num 0))], .set n0 (.num 0)]).ok ns :=
        ⟨by walk_at "fn", ⟨by walk_at "fn", oks_filter hG2.ok, trivial, (show Fm.fine ns (.op .div (.nam n1) (.num 0)) by walk_at "fn"), trivial⟩, ⟨m0, (show Fm.fine ns (.num 0) by walk_at "fn")⟩, trivial⟩
      refine w_addL' hc12 (eG _ _ hpb9) (by show 1 + xs.length ≤ _; exact Nat.le_of_lt (lt_line (by omega))) fun pb3 G13 v13 g13 hpb3 => ?_
      have eH := eG.trans g13
      have hn2 := hG.nest
      exact k06_j2 K Q (same_l eH hS9) (eH _ _ hpp9) (eH _ _ hx9) (eH _ _ hy9) hT (b := _ :: b) hpb3 ⟨.cons (hrow.monoS g13) (hG9.monoS eH), ⟨okr, hG.ok⟩, by
        show max (1 + max (1 + max (nests (b2.filter Rw.flat)) 1) (max 1 0)) (nests b) ≤ 8
        omega⟩ hN.nm (by omega) (by
        show 1 + ((1 + (szs (b2.filter Rw.flat) + 2)) + (1 + 0)) + szs b ≤ 300
        omega) ht q
  · walk_at "gx"
    exact k06_j2 K Q (same_l e02 hS) (e02 _ _ hpp) (e02 _ _ hx) (e02 _ _ hy) hT hpb hG hN.nm (by omega) (by omega) ht q
theorem pure_k06 (K : PySem.W.Frag) (vs : List V) (H : Hp) (Q : VK) (E : XK) (h : sp_k06 K vs H Q E) :
    t_k06 K { nx := fun _ H' => Q .non H', rt := Q } (start N_k06 vs) H := by
  obtain ⟨a, cs, rfl, hS, hcl, q⟩ := h
  unfold t_k06
  walk_at "gx"
  refine ⟨a, cs, _, rfl, hS, by decide, fun i0 => ?_⟩
  walk_at "gx"
  refine ⟨a, cs, _, rfl, hS, by decide, fun i1 => ?_⟩
  walk_at "gx"
  refine ⟨_, _, rfl, fun pn H1 ns hT e1 hpn hpn1 => ?_⟩
  walk_at "gx"
  refine ⟨a, cs, _, rfl, same_l e1 hS, by decide, fun i2 => ?_⟩
  walk_at "gx"
  refine ⟨_, rfl, fun i3 _ _ => ?_⟩
  walk_at "gx"
  refine ⟨pn, ns, _, rfl, SqL.of hpn1, fun pm r1 r2 us ws H2 e2 hpm hpm2 hr1 hr2 hM => ?_⟩
  have hpn2 := e2 _ _ hpn1
  have hS2 := same_l (e1.trans e2) hS
  walk_at "gx"
  refine ⟨a, cs, _, rfl, hS2, by decide, fun i4 => ?_⟩
  walk_at "gx"
  refine ⟨_, rfl, fun i5 _ _ => ?_⟩
  walk_at "gx"
  refine ⟨pn, pm, r1, r2, ns, us, ws, _, rfl, SqL.of hpn2, hT, hpm2, hr1, hr2, hM, fun pp x y os ss H3 e3 hpp hx hy hpp3 hx3 hy3 xy hTo => ?_⟩
  have hpn3 := e3 _ _ hpn2
  have hS3 := same_l e3 hS2
  have nsl : ns.length = 10 := hT.len
  walk_at "gx"
  refine ⟨a, cs, _, rfl, hS3, by decide, fun i6 => ?_⟩
  walk_at "gx"
  have m8 := mod_in i6 (show (0 : Int) < 8 by decide)
  refine ⟨a, cs, _, rfl, hS3, by decide, fun i7 => ?_⟩
  walk_at "gx"
  refine w_two (fun c => ?_) (fun c => ?_)
  · walk_at "gx"
    refine ⟨a, cs, _, rfl, hS3, by decide, fun i8 => ?_⟩
    walk_at "gx"
    have m4 := mod_in (i8 / 320) (show (0 : Int) < 401 by decide)
    obtain ⟨t, ht⟩ := Int.eq_ofNat_of_zero_le m4.1
    rw [ht]
    exact k06_j3 K Q hS3 hcl hpn3 hT hpp3 hx3 hy3 hTo (by omega) q
  · walk_at "gx"
    obtain ⟨t, ht⟩ := Int.eq_ofNat_of_zero_le m8.1
    rw [ht]
    exact k06_j3 K Q hS3 hcl hpn3 hT hpp3 hx3 hy3 hTo (by omega) q
theorem law_in_k06 (K : PySem.W.Frag) (H : Hp) (a : Addr) (ns : List Int) (hl : ns.length ≤ 63) (hS : SqL K H a (ns.map V.int)) : sp_k06 K [.ref a] H (fun v _ => v = .bl true) fun _ _ _ => False := ⟨a, ns, rfl, hS, hl, fun _ => rfl⟩
def topS (i : Nat) : Stmt := PySem.Challenge.pw_hushkind_k06_runs.main.body.getD i (.Pass ⟨0, 0, 0, 0⟩)
def memS (st : Stmt) (j : Nat) : Stmt := match st with | .ClassDef (body := b) .. => b.getD j (.Pass ⟨0, 0, 0, 0⟩) | _ => .Pass ⟨0, 0, 0, 0⟩
abbrev s_law_mixed : Stmt := topS 50
abbrev M_law_mixed : List Str := ["_law_number"]
theorem sc_law_mixed : FnScope M_law_mixed ["_law_number"] (defScope s_law_mixed) := ⟨rfl, rfl, rfl, by decide +kernel, rfl, by decide +kernel, by decide +kernel⟩
abbrev s_law_name_by : Stmt := topS 51
abbrev M_law_name_by : List Str := ["_law_cell", "_law_found", "_law_number", "_law_k"]
theorem sc_law_name_by : FnScope M_law_name_by ["_law_cell"] (defScope s_law_name_by) := ⟨rfl, rfl, rfl, by decide +kernel, rfl, by decide +kernel, by decide +kernel⟩
abbrev s_law_twin : Stmt := topS 52
abbrev M_law_twin : List Str := ["_law_name", "_law_cell", "_law_some", "_law_at", "_law_step", "_law_found"]
theorem sc_law_twin : FnScope M_law_twin ["_law_name", "_law_cell"] (defScope s_law_twin) := ⟨rfl, rfl, rfl, by decide +kernel, rfl, by decide +kernel, by decide +kernel⟩
abbrev s_law_names : Stmt := topS 53
abbrev M_law_names : List Str := ["_law_one", "_law_other", "_law_names_here", "_law_k", "_law_name"]
theorem sc_law_names : FnScope M_law_names ["_law_one", "_law_other"] (defScope s_law_names) := ⟨rfl, rfl, rfl, by decide +kernel, rfl, by decide +kernel, by decide +kernel⟩
abbrev s_law_cell_at : Stmt := topS 49
abbrev M_law_cell_at : List Str := ["_law_script", "_law_k"]
theorem sc_law_cell_at : FnScope M_law_cell_at ["_law_script", "_law_k"] (defScope s_law_cell_at) := ⟨rfl, rfl, rfl, by decide +kernel, rfl, by decide +kernel, by decide +kernel⟩
abbrev s_law_more : Stmt := topS 68
abbrev M_law_more : List Str := ["_law_names_here", "_law_cell", "_law_many", "_law_found", "_law_k", "_law_row", "_law_name"]
theorem sc_law_more : FnScope M_law_more ["_law_names_here", "_law_cell"] (defScope s_law_more) := ⟨rfl, rfl, rfl, by decide +kernel, rfl, by decide +kernel, by decide +kernel⟩
abbrev s_law_told : Stmt := topS 69
abbrev M_law_told : List Str := ["_law_names_here", "_law_more_here", "_law_cell", "_law_rows", "_law_number", "_law_k", "_law_name", "_law_at"]
theorem sc_law_told : FnScope M_law_told ["_law_names_here", "_law_more_here", "_law_cell"] (defScope s_law_told) := ⟨rfl, rfl, rfl, by decide +kernel, rfl, by decide +kernel, by decide +kernel⟩
abbrev s_law_end_by : Stmt := topS 54
abbrev M_law_end_by : List Str := ["_law_number", "_law_names_here"]
theorem sc_law_end_by : FnScope M_law_end_by ["_law_number", "_law_names_here"] (defScope s_law_end_by) := ⟨rfl, rfl, rfl, by decide +kernel, rfl, by decide +kernel, by decide +kernel⟩
abbrev s_law_formula_by : Stmt := topS 55
abbrev M_law_formula_by : List Str := ["_law_number", "_law_names_here", "_law_low", "_law_divide", "_law_left", "_law_sign", "_law_one"]
theorem sc_law_formula_by : FnScope M_law_formula_by ["_law_number", "_law_names_here", "_law_low", "_law_divide", "_law_left"] (defScope s_law_formula_by) := ⟨rfl, rfl, rfl, by decide +kernel, rfl, by decide +kernel, by decide +kernel⟩
abbrev s_law_all_names : Stmt := topS 56
abbrev M_law_all_names : List Str := ["_law_formula"]
theorem sc_law_all_names : FnScope M_law_all_names ["_law_formula"] (defScope s_law_all_names) := ⟨rfl, rfl, rfl, by decide +kernel, rfl, by decide +kernel, by decide +kernel⟩
abbrev s_law_row_by : Stmt := topS 57
abbrev M_law_row_by : List Str := ["_law_names_here", "_law_more_here", "_law_dark", "_law_mode", "_law_low", "_law_some", "_law_formula", "_law_name"]
theorem sc_law_row_by : FnScope M_law_row_by ["_law_names_here", "_law_more_here", "_law_dark", "_law_mode"] (defScope s_law_row_by) := ⟨rfl, rfl, rfl, by decide +kernel, rfl, by decide +kernel, by decide +kernel⟩
abbrev s_law_closed : Stmt := topS 58
abbrev M_law_closed : List Str := ["_law_stack", "_law_frame"]
theorem sc_law_closed : FnScope M_law_closed ["_law_stack"] (defScope s_law_closed) := ⟨rfl, rfl, rfl, by decide +kernel, rfl, by decide +kernel, by decide +kernel⟩
abbrev s_law_put : Stmt := topS 59
abbrev M_law_put : List Str := ["_law_stack", "_law_names_here", "_law_more_here", "_law_mode", "_law_way", "_law_dark", "_law_frame", "_law_formula", "_law_secret", "_law_shut", "_law_some"]
theorem sc_law_put : FnScope M_law_put ["_law_stack", "_law_names_here", "_law_more_here", "_law_mode"] (defScope s_law_put) := ⟨rfl, rfl, rfl, by decide +kernel, rfl, by decide +kernel, by decide +kernel⟩
abbrev s_law_block_by : Stmt := topS 60
abbrev M_law_block_by : List Str := ["_law_cells", "_law_names_here", "_law_loose", "_law_stack", "_law_turn", "_law_cell", "_law_more_here", "_law_mode"]
theorem sc_law_block_by : FnScope M_law_block_by ["_law_cells", "_law_names_here", "_law_loose"] (defScope s_law_block_by) := ⟨rfl, rfl, rfl, by decide +kernel, rfl, by decide +kernel, by decide +kernel⟩
abbrev s_is_list : Stmt := topS 27
abbrev M_is_list : List Str := ["thing"]
theorem sc_is_list : FnScope M_is_list ["thing"] (defScope s_is_list) := ⟨rfl, rfl, rfl, by decide +kernel, rfl, by decide +kernel, by decide +kernel⟩
abbrev s_is_name : Stmt := topS 18
abbrev M_is_name : List Str := ["thing", "sign"]
theorem sc_is_name : FnScope M_is_name ["thing"] (defScope s_is_name) := ⟨rfl, rfl, rfl, by decide +kernel, rfl, by decide +kernel, by decide +kernel⟩
abbrev s_need_names : Stmt := topS 34
abbrev M_need_names : List Str := ["names", "told", "found", "name"]
theorem sc_need_names : FnScope M_need_names ["names", "told"] (defScope s_need_names) := ⟨rfl, rfl, rfl, by decide +kernel, rfl, by decide +kernel, by decide +kernel⟩
abbrev s_things_of : Stmt := topS 28
abbrev M_things_of : List Str := ["word"]
theorem sc_things_of : FnScope M_things_of ["word"] (defScope s_things_of) := ⟨rfl, rfl, rfl, by decide +kernel, rfl, by decide +kernel, by decide +kernel⟩
abbrev s_blocks_of : Stmt := topS 30
abbrev M_blocks_of : List Str := ["row"]
theorem sc_blocks_of : FnScope M_blocks_of ["row"] (defScope s_blocks_of) := ⟨rfl, rfl, rfl, by decide +kernel, rfl, by decide +kernel, by decide +kernel⟩
abbrev s_need_form : Stmt := topS 31
abbrev M_need_form : List Str := ["row", "block"]
theorem sc_need_form : FnScope M_need_form ["row"] (defScope s_need_form) := ⟨rfl, rfl, rfl, by decide +kernel, rfl, by decide +kernel, by decide +kernel⟩
abbrev s_is_whole : Stmt := topS 16
abbrev M_is_whole : List Str := ["thing"]
theorem sc_is_whole : FnScope M_is_whole ["thing"] (defScope s_is_whole) := ⟨rfl, rfl, rfl, by decide +kernel, rfl, by decide +kernel, by decide +kernel⟩
abbrev s_is_number : Stmt := topS 17
abbrev M_is_number : List Str := ["thing"]
theorem sc_is_number : FnScope M_is_number ["thing"] (defScope s_is_number) := ⟨rfl, rfl, rfl, by decide +kernel, rfl, by decide +kernel, by decide +kernel⟩
abbrev s_is_end : Stmt := topS 19
abbrev M_is_end : List Str := ["thing"]
theorem sc_is_end : FnScope M_is_end ["thing"] (defScope s_is_end) := ⟨rfl, rfl, rfl, by decide +kernel, rfl, by decide +kernel, by decide +kernel⟩
abbrev s_need_formula : Stmt := topS 20
abbrev M_need_formula : List Str := ["thing", "left"]
theorem sc_need_formula : FnScope M_need_formula ["thing", "left"] (defScope s_need_formula) := ⟨rfl, rfl, rfl, by decide +kernel, rfl, by decide +kernel, by decide +kernel⟩
abbrev s_formula_of : Stmt := topS 29
abbrev M_formula_of : List Str := ["row"]
theorem sc_formula_of : FnScope M_formula_of ["row"] (defScope s_formula_of) := ⟨rfl, rfl, rfl, by decide +kernel, rfl, by decide +kernel, by decide +kernel⟩
abbrev s_need_row : Stmt := topS 32
abbrev M_need_row : List Str := ["row", "deep", "blocks", "block"]
theorem sc_need_row : FnScope M_need_row ["row", "deep"] (defScope s_need_row) := ⟨rfl, rfl, rfl, by decide +kernel, rfl, by decide +kernel, by decide +kernel⟩
abbrev s_need_block : Stmt := topS 33
abbrev M_need_block : List Str := ["block", "deep", "row"]
theorem sc_need_block : FnScope M_need_block ["block", "deep"] (defScope s_need_block) := ⟨rfl, rfl, rfl, by decide +kernel, rfl, by decide +kernel, by decide +kernel⟩
abbrev s_Program___init__ : Stmt := memS (topS 38) 0
abbrev M_Program___init__ : List Str := ["self", "opens", "secrets", "block"]
theorem sc_Program___init__ : FnScope M_Program___init__ ["self", "opens", "secrets", "block"] (defScope s_Program___init__) := ⟨rfl, rfl, rfl, by decide +kernel, rfl, by decide +kernel, by decide +kernel⟩
abbrev s_law_values : Stmt := topS 62
abbrev M_law_values : List Str := ["_law_script", "_law_at", "_law_names_here", "_law_values_here", "_law_k", "_law_name", "_law_cell"]
theorem sc_law_values : FnScope M_law_values ["_law_script", "_law_at", "_law_names_here"] (defScope s_law_values) := ⟨rfl, rfl, rfl, by decide +kernel, rfl, by decide +kernel, by decide +kernel⟩
abbrev s_Program_told : Stmt := memS (topS 38) 3
abbrev M_Program_told : List Str := ["self"]
theorem sc_Program_told : FnScope M_Program_told ["self"] (defScope s_Program_told) := ⟨rfl, rfl, rfl, by decide +kernel, rfl, by decide +kernel, by decide +kernel⟩
abbrev s_need_values : Stmt := topS 45
abbrev M_need_values : List Str := ["program", "values", "told", "name"]
theorem sc_need_values : FnScope M_need_values ["program", "values"] (defScope s_need_values) := ⟨rfl, rfl, rfl, by decide +kernel, rfl, by decide +kernel, by decide +kernel⟩
abbrev s_all_names : Stmt := topS 21
abbrev M_all_names : List Str := ["formula"]
theorem sc_all_names : FnScope M_all_names ["formula"] (defScope s_all_names) := ⟨rfl, rfl, rfl, by decide +kernel, rfl, by decide +kernel, by decide +kernel⟩
abbrev s_names_in : Stmt := topS 22
abbrev M_names_in : List Str := ["formula"]
theorem sc_names_in : FnScope M_names_in ["formula"] (defScope s_names_in) := ⟨rfl, rfl, rfl, by decide +kernel, rfl, by decide +kernel, by decide +kernel⟩
abbrev s_all_in : Stmt := topS 37
abbrev M_all_in : List Str := ["block", "found", "row", "inner"]
theorem sc_all_in : FnScope M_all_in ["block"] (defScope s_all_in) := ⟨rfl, rfl, rfl, by decide +kernel, rfl, by decide +kernel, by decide +kernel⟩
abbrev s_Program_names : Stmt := memS (topS 38) 1
abbrev M_Program_names : List Str := ["self"]
theorem sc_Program_names : FnScope M_Program_names ["self"] (defScope s_Program_names) := ⟨rfl, rfl, rfl, by decide +kernel, rfl, by decide +kernel, by decide +kernel⟩
abbrev s_Runner___init__ : Stmt := memS (topS 41) 0
abbrev M_Runner___init__ : List Str := ["self", "values", "turns"]
theorem sc_Runner___init__ : FnScope M_Runner___init__ ["self", "values", "turns"] (defScope s_Runner___init__) := ⟨rfl, rfl, rfl, by decide +kernel, rfl, by decide +kernel, by decide +kernel⟩
abbrev s_put_together : Stmt := topS 23
abbrev M_put_together : List Str := ["sign", "one", "other"]
theorem sc_put_together : FnScope M_put_together ["sign", "one", "other"] (defScope s_put_together) := ⟨rfl, rfl, rfl, by decide +kernel, rfl, by decide +kernel, by decide +kernel⟩
abbrev s_reckoned : Stmt := topS 24
abbrev M_reckoned : List Str := ["formula", "values", "one", "other"]
theorem sc_reckoned : FnScope M_reckoned ["formula", "values"] (defScope s_reckoned) := ⟨rfl, rfl, rfl, by decide +kernel, rfl, by decide +kernel, by decide +kernel⟩
abbrev s_Runner_stops : Stmt := memS (topS 41) 1
abbrev M_Runner_stops : List Str := ["self", "way", "number"]
theorem sc_Runner_stops : FnScope M_Runner_stops ["self", "way", "number"] (defScope s_Runner_stops) := ⟨rfl, rfl, rfl, by decide +kernel, rfl, by decide +kernel, by decide +kernel⟩
abbrev s_turned : Stmt := topS 42
abbrev M_turned : List Str := ["runner", "row", "number", "value"]
theorem sc_turned : FnScope M_turned ["runner", "row", "number"] (defScope s_turned) := ⟨rfl, rfl, rfl, by decide +kernel, rfl, by decide +kernel, by decide +kernel⟩
abbrev s_size_of : Stmt := topS 35
abbrev M_size_of : List Str := ["row", "block"]
theorem sc_size_of : FnScope M_size_of ["row"] (defScope s_size_of) := ⟨rfl, rfl, rfl, by decide +kernel, rfl, by decide +kernel, by decide +kernel⟩
abbrev s_many_in : Stmt := topS 36
abbrev M_many_in : List Str := ["block", "row"]
theorem sc_many_in : FnScope M_many_in ["block"] (defScope s_many_in) := ⟨rfl, rfl, rfl, by decide +kernel, rfl, by decide +kernel, by decide +kernel⟩
abbrev s_stepped : Stmt := topS 43
abbrev M_stepped : List Str := ["runner", "row", "number", "value"]
theorem sc_stepped : FnScope M_stepped ["runner", "row", "number"] (defScope s_stepped) := ⟨rfl, rfl, rfl, by decide +kernel, rfl, by decide +kernel, by decide +kernel⟩
abbrev s_gone : Stmt := topS 44
abbrev M_gone : List Str := ["runner", "block", "number", "row"]
theorem sc_gone : FnScope M_gone ["runner", "block", "number"] (defScope s_gone) := ⟨rfl, rfl, rfl, by decide +kernel, rfl, by decide +kernel, by decide +kernel⟩
abbrev s_Program_block : Stmt := memS (topS 38) 4
abbrev M_Program_block : List Str := ["self"]
theorem sc_Program_block : FnScope M_Program_block ["self"] (defScope s_Program_block) := ⟨rfl, rfl, rfl, by decide +kernel, rfl, by decide +kernel, by decide +kernel⟩
abbrev s_run : Stmt := topS 46
abbrev M_run : List Str := ["program", "values", "turns", "begun", "name", "runner", "pairs"]
theorem sc_run : FnScope M_run ["program", "values", "turns"] (defScope s_run) := ⟨rfl, rfl, rfl, by decide +kernel, rfl, by decide +kernel, by decide +kernel⟩
abbrev s_law_value : Stmt := topS 61
abbrev M_law_value : List Str := ["_law_formula", "_law_values_here", "_law_one", "_law_other"]
theorem sc_law_value : FnScope M_law_value ["_law_formula", "_law_values_here"] (defScope s_law_value) := ⟨rfl, rfl, rfl, by decide +kernel, rfl, by decide +kernel, by decide +kernel⟩
abbrev s_law_walked : Stmt := topS 65
abbrev M_law_walked : List Str := ["_law_rows", "_law_values_here", "_law_turns", "_law_due_here", "_law_said", "_law_one", "_law_row", "_law_value_here"]
theorem sc_law_walked : FnScope M_law_walked ["_law_rows", "_law_values_here", "_law_turns"] (defScope s_law_walked) := ⟨rfl, rfl, rfl, by decide +kernel, rfl, by decide +kernel, by decide +kernel⟩
abbrev s_law_count : Stmt := topS 64
abbrev M_law_count : List Str := ["_law_rows", "_law_one", "_law_inner"]
theorem sc_law_count : FnScope M_law_count ["_law_rows"] (defScope s_law_count) := ⟨rfl, rfl, rfl, by decide +kernel, rfl, by decide +kernel, by decide +kernel⟩
abbrev s_law_sized : Stmt := topS 63
abbrev M_law_sized : List Str := ["_law_block", "_law_number", "_law_rows", "_law_row", "_law_first", "_law_second", "_law_one", "_law_inner"]
theorem sc_law_sized : FnScope M_law_sized ["_law_block", "_law_number"] (defScope s_law_sized) := ⟨rfl, rfl, rfl, by decide +kernel, rfl, by decide +kernel, by decide +kernel⟩
abbrev s_law_due : Stmt := topS 66
abbrev M_law_due : List Str := ["_law_program", "_law_block", "_law_values_here", "_law_turns", "_law_model", "_law_name", "_law_told_here"]
theorem sc_law_due : FnScope M_law_due ["_law_program", "_law_block", "_law_values_here", "_law_turns"] (defScope s_law_due) := ⟨rfl, rfl, rfl, by decide +kernel, rfl, by decide +kernel, by decide +kernel⟩
abbrev s_law_whole : Stmt := topS 48
abbrev M_law_whole : List Str := ["_law_found"]
theorem sc_law_whole : FnScope M_law_whole ["_law_found"] (defScope s_law_whole) := ⟨rfl, rfl, rfl, by decide +kernel, rfl, by decide +kernel, by decide +kernel⟩
abbrev s_law_same : Stmt := topS 67
abbrev M_law_same : List Str := ["_law_told_here", "_law_due_here", "_law_pair"]
theorem sc_law_same : FnScope M_law_same ["_law_told_here", "_law_due_here"] (defScope s_law_same) := ⟨rfl, rfl, rfl, by decide +kernel, rfl, by decide +kernel, by decide +kernel⟩
abbrev s_k06 : Stmt := topS 70
abbrev M_k06 : List Str := ["_law_script", "_law_names_here", "_law_more_here", "_law_pairs", "_law_turns", "_law_block", "_law_stop", "_law_inner", "_law_choice", "_law_row", "_law_program", "_law_values_here", "_law_others", "_law_handed", "_law_told_here", "_law_due_here"]
theorem sc_k06 : FnScope M_k06 ["_law_script"] (defScope s_k06) := ⟨rfl, rfl, rfl, by decide +kernel, rfl, by decide +kernel, by decide +kernel⟩
structure Top (K : PySem.W.Frag) (mg : Str → Option Value) : Prop where
  f_law_mixed : DefAt K mg "_law_mixed" s_law_mixed ["_law_number"]
  f_law_name_by : DefAt K mg "_law_name_by" s_law_name_by ["_law_cell"]
  f_law_twin : DefAt K mg "_law_twin" s_law_twin ["_law_name", "_law_cell"]
  f_law_names : DefAt K mg "_law_names" s_law_names ["_law_one", "_law_other"]
  f_law_cell_at : DefAt K mg "_law_cell_at" s_law_cell_at ["_law_script", "_law_k"]
  f_law_more : DefAt K mg "_law_more" s_law_more ["_law_names_here", "_law_cell"]
  f_law_told : DefAt K mg "_law_told" s_law_told ["_law_names_here", "_law_more_here", "_law_cell"]
  f_law_end_by : DefAt K mg "_law_end_by" s_law_end_by ["_law_number", "_law_names_here"]
  f_law_formula_by : DefAt K mg "_law_formula_by" s_law_formula_by ["_law_number", "_law_names_here", "_law_low", "_law_divide", "_law_left"]
  f_law_all_names : DefAt K mg "_law_all_names" s_law_all_names ["_law_formula"]
  f_law_row_by : DefAt K mg "_law_row_by" s_law_row_by ["_law_names_here", "_law_more_here", "_law_dark", "_law_mode"]
  f_law_closed : DefAt K mg "_law_closed" s_law_closed ["_law_stack"]
  f_law_put : DefAt K mg "_law_put" s_law_put ["_law_stack", "_law_names_here", "_law_more_here", "_law_mode"]
  f_law_block_by : DefAt K mg "_law_block_by" s_law_block_by ["_law_cells", "_law_names_here", "_law_loose"]
  f_is_list : DefAt K mg "is_list" s_is_list ["thing"]
  f_is_name : DefAt K mg "is_name" s_is_name ["thing"]
  f_need_names : DefAt K mg "need_names" s_need_names ["names", "told"]
  f_things_of : DefAt K mg "things_of" s_things_of ["word"]
  f_blocks_of : DefAt K mg "blocks_of" s_blocks_of ["row"]
  f_need_form : DefAt K mg "need_form" s_need_form ["row"]
  f_is_whole : DefAt K mg "is_whole" s_is_whole ["thing"]
  f_is_number : DefAt K mg "is_number" s_is_number ["thing"]
  f_is_end : DefAt K mg "is_end" s_is_end ["thing"]
  f_need_formula : DefAt K mg "need_formula" s_need_formula ["thing", "left"]
  f_formula_of : DefAt K mg "formula_of" s_formula_of ["row"]
  f_need_row : DefAt K mg "need_row" s_need_row ["row", "deep"]
  f_need_block : DefAt K mg "need_block" s_need_block ["block", "deep"]
  f_law_values : DefAt K mg "_law_values" s_law_values ["_law_script", "_law_at", "_law_names_here"]
  f_need_values : DefAt K mg "need_values" s_need_values ["program", "values"]
  f_all_names : DefAt K mg "all_names" s_all_names ["formula"]
  f_names_in : DefAt K mg "names_in" s_names_in ["formula"]
  f_all_in : DefAt K mg "all_in" s_all_in ["block"]
  f_put_together : DefAt K mg "put_together" s_put_together ["sign", "one", "other"]
  f_reckoned : DefAt K mg "reckoned" s_reckoned ["formula", "values"]
  f_turned : DefAt K mg "turned" s_turned ["runner", "row", "number"]
  f_size_of : DefAt K mg "size_of" s_size_of ["row"]
  f_many_in : DefAt K mg "many_in" s_many_in ["block"]
  f_stepped : DefAt K mg "stepped" s_stepped ["runner", "row", "number"]
  f_gone : DefAt K mg "gone" s_gone ["runner", "block", "number"]
  f_run : DefAt K mg "run" s_run ["program", "values", "turns"]
  f_law_value : DefAt K mg "_law_value" s_law_value ["_law_formula", "_law_values_here"]
  f_law_walked : DefAt K mg "_law_walked" s_law_walked ["_law_rows", "_law_values_here", "_law_turns"]
  f_law_count : DefAt K mg "_law_count" s_law_count ["_law_rows"]
  f_law_sized : DefAt K mg "_law_sized" s_law_sized ["_law_block", "_law_number"]
  f_law_due : DefAt K mg "_law_due" s_law_due ["_law_program", "_law_block", "_law_values_here", "_law_turns"]
  f_law_whole : DefAt K mg "_law_whole" s_law_whole ["_law_found"]
  f_law_same : DefAt K mg "_law_same" s_law_same ["_law_told_here", "_law_due_here"]
  c_Program : ∃ C, CC K "Program" as_Program C ∧ mg "Program" = some (.ref C) ∧ InitAt K C "Program.__init__" s_Program___init__ ["self", "opens", "secrets", "block"] ∧ MethAt K C "told" "Program.told" s_Program_told ["self"] ∧ MethAt K C "names" "Program.names" s_Program_names ["self"] ∧ MethAt K C "block" "Program.block" s_Program_block ["self"]
  c_Runner : ∃ C, CC K "Runner" as_Runner C ∧ mg "Runner" = some (.ref C) ∧ InitAt K C "Runner.__init__" s_Runner___init__ ["self", "values", "turns"] ∧ MethAt K C "stops" "Runner.stops" s_Runner_stops ["self", "way", "number"]
  z_range : mg "range" = none
  z_len : mg "len" = none
  z_str : mg "str" = none
  z_list : mg "list" = none
  z_enumerate : mg "enumerate" = none
  z_max : mg "max" = none
  z_int : mg "int" = none
  z_tuple : mg "tuple" = none
  z_isinstance : mg "isinstance" = none
  z_bool : mg "bool" = none
  z_dict : mg "dict" = none
  z_sorted : mg "sorted" = none
  z_set : mg "set" = none
  z_sum : mg "sum" = none
  z_reversed : mg "reversed" = none
  g_WORDS : ∃ a, mg "WORDS" = some (.ref a) ∧ ∀ H, SqT K H a (words.map V.str)
  g_LETTERS : ∃ t, mg "LETTERS" = some (.str "abcdefghijklmnopqrstuvwxyz" t)
  g_FIGURES : ∃ t, mg "FIGURES" = some (.str "0123456789" t)
  g_LIMIT : ∃ t, mg "LIMIT" = some (.int 1000000 t)
  g_SIGNS : ∃ a, mg "SIGNS" = some (.ref a) ∧ ∀ H, SqT K H a (sgs.map V.str)
  g_DEEPEST_ROW : ∃ t, mg "DEEPEST_ROW" = some (.int 8 t)
  g_MOST_DEEP : ∃ t, mg "MOST_DEEP" = some (.int 12 t)
  g_MOST_TURNS : ∃ t, mg "MOST_TURNS" = some (.int 1000 t)
section
variable {P : Program} {w : World} {K : PySem.W.Frag} {mg : Str → Option Value} {base : Heap}
theorem ok_law_mixed (T : Top K mg) : Cal P w K mg base 1 "_law_mixed" (sp_law_mixed K) := by
  exact cal_of (k := 0) T.f_law_mixed sc_law_mixed (by intro vs H Q E h; repeat (first | (obtain ⟨rfl, _⟩ := h; rfl) | (obtain ⟨_, h⟩ := h))) fun f cdv A outer s H vs Q E hr h => ⟨t_law_mixed K, PSs.nox (pss_one (ps_ret (pe_op o_mod (pe_op o_add (pe_op o_mul (pv 0) pe_int) pe_int) pe_int))), pure_law_mixed K vs H Q E h⟩
theorem ok_law_name_by (T : Top K mg) : Cal P w K mg base 2 "_law_name_by" (sp_law_name_by K) := by
  have c_law_mixed : Cal P w K mg base 1 "_law_mixed" (sp_law_mixed K) := ok_law_mixed T
  exact cal_of (k := 1) T.f_law_name_by sc_law_name_by (by intro vs H Q E h; repeat (first | (obtain ⟨rfl, _⟩ := h; rfl) | (obtain ⟨_, h⟩ := h))) fun f cdv A outer s H vs Q E hr h => ⟨t_law_name_by K, PSs.nox (pss_cons (ps_set (i := 1) sc_law_name_by.nd rfl (by first | exact Or.inl rfl | exact Or.inr rfl) (pe_ix ix_seq pe_str (pe_op o_mod (pe_op o_div (pv 0) pe_int) pe_int) (fun _ _ => rfl))) (pss_cons (ps_set (i := 2) sc_law_name_by.nd rfl (by first | exact Or.inl rfl | exact Or.inr rfl) (pv 0)) (pss_cons (ps_for PassesOwn.never rfl (pi_range1 (by rfl) T.z_range (pa_cons (pe_op o_mod (pv 0) pe_int) pa_nil)) (pg_name (i := 3) sc_law_name_by.nd rfl (by first | exact Or.inl rfl | exact Or.inr rfl)) (pss_cons (ps_set (i := 2) sc_law_name_by.nd rfl (by first | exact Or.inl rfl | exact Or.inr rfl) (pe_f c_law_mixed hr (by decide) (pa_cons (pv 2) pa_nil))) (pss_one (ps_set (i := 1) sc_law_name_by.nd rfl (by first | exact Or.inl rfl | exact Or.inr rfl) (pe_op o_add (pv 1) (pe_ix ix_seq pe_str (pe_op o_mod (pv 2) pe_int) (fun _ _ => rfl))))))) (pss_cons (ps_if (pt_cmpR o_in (pv 1) (pe_lst (pa_cons pe_str (pa_cons pe_str (pa_cons pe_str (pa_cons pe_str (pa_cons pe_str (pa_cons pe_str (pa_cons pe_str pa_nil)))))))) (by first | exact nomark _ | rfl)) (pss_one (ps_ret (pe_op o_add (pv 1) pe_str))) pss_nil) (pss_one (ps_ret (pv 1))))))), pure_law_name_by K vs H Q E h⟩
theorem ok_law_twin (T : Top K mg) : Cal P w K mg base 1 "_law_twin" (sp_law_twin K) := by
  exact cal_of (k := 0) T.f_law_twin sc_law_twin (by intro vs H Q E h; repeat (first | (obtain ⟨rfl, _⟩ := h; rfl) | (obtain ⟨_, h⟩ := h))) fun f cdv A outer s H vs Q E hr h => ⟨t_law_twin K, PSs.nox (pss_cons (ps_set (i := 2) sc_law_twin.nd rfl (by first | exact Or.inl rfl | exact Or.inr rfl) pe_str) (pss_cons (ps_set (i := 3) sc_law_twin.nd rfl (by first | exact Or.inl rfl | exact Or.inr rfl) (pe_op o_mod (pv 1) (pe_callB o_len (by rfl) T.z_len (by decide +kernel) (pa_cons (pv 0) pa_nil)))) (pss_cons (ps_if (pt_cmpR o_gt (pv 3) pe_int (by first | exact nomark _ | rfl)) (pss_one (ps_set (i := 2) sc_law_twin.nd rfl (by first | exact Or.inl rfl | exact Or.inr rfl) (pe_op o_add (pv 2) pe_str))) pss_nil) (pss_cons (ps_set (i := 4) sc_law_twin.nd rfl (by first | exact Or.inl rfl | exact Or.inr rfl) (pe_op o_add (pe_op o_add (pe_bm PySem.F.plainAttrs_str PySem.F.slot_str_find PySem.F.type_str_find mt_find (pv 2) (pa_cons (pe_ix ix_seq (pv 0) (pv 3) (fun _ _ => rfl)) pa_nil)) pe_int) (pe_op o_mod (pe_op o_div (pv 1) pe_int) (pe_op o_sub (pe_callB o_len (by rfl) T.z_len (by decide +kernel) (pa_cons (pv 2) pa_nil)) pe_int)))) (pss_cons (ps_set (i := 5) sc_law_twin.nd rfl (by first | exact Or.inl rfl | exact Or.inr rfl) (pe_op o_add (pe_op o_add (pe_slice o_sl (pv 0) po_none (po_some (pv 3))) (pe_ix ix_seq (pv 2) (pe_op o_mod (pv 4) (pe_callB o_len (by rfl) T.z_len (by decide +kernel) (pa_cons (pv 2) pa_nil))) (fun _ _ => rfl))) (pe_slice o_sl (pv 0) (po_some (pe_op o_add (pv 3) pe_int)) po_none))) (pss_cons (ps_if (pt_cmpR o_in (pv 5) (pe_lst (pa_cons pe_str (pa_cons pe_str (pa_cons pe_str (pa_cons pe_str (pa_cons pe_str (pa_cons pe_str (pa_cons pe_str pa_nil)))))))) (by first | exact nomark _ | rfl)) (pss_one (ps_ret (pe_op o_add (pv 5) pe_str))) pss_nil) (pss_one (ps_ret (pv 5))))))))), pure_law_twin K vs H Q E h⟩
theorem ok_law_names (T : Top K mg) : Cal P w K mg base 3 "_law_names" (sp_law_names K) := by
  have c_law_mixed : Cal P w K mg base 1 "_law_mixed" (sp_law_mixed K) := ok_law_mixed T
  have c_law_name_by : Cal P w K mg base 2 "_law_name_by" (sp_law_name_by K) := ok_law_name_by T
  have c_law_twin : Cal P w K mg base 1 "_law_twin" (sp_law_twin K) := ok_law_twin T
  exact cal_of (k := 2) T.f_law_names sc_law_names (by intro vs H Q E h; repeat (first | (obtain ⟨rfl, _⟩ := h; rfl) | (obtain ⟨_, h⟩ := h))) fun f cdv A outer s H vs Q E hr h => ⟨t_law_names K, PSs.nox (pss_cons (ps_set (i := 2) sc_law_names.nd rfl (by first | exact Or.inl rfl | exact Or.inr rfl) (pe_lst pa_nil)) (pss_cons (ps_for PassesOwn.never rfl (pi_range1 (by rfl) T.z_range (pa_cons pe_int pa_nil)) (pg_name (i := 3) sc_law_names.nd rfl (by first | exact Or.inl rfl | exact Or.inr rfl)) (pss_cons (ps_set (i := 0) sc_law_names.nd rfl (by first | exact Or.inl rfl | exact Or.inr rfl) (pe_f c_law_mixed hr (by decide) (pa_cons (pv 0) pa_nil))) (pss_cons (ps_set (i := 4) sc_law_names.nd rfl (by first | exact Or.inl rfl | exact Or.inr rfl) (pe_f c_law_name_by hr (by decide) (pa_cons (pe_op o_div (pv 0) pe_int) pa_nil))) (pss_cons (ps_if (PW.pt (pw_and (pt_cmpR (o_eq hr.units) (pe_op o_mod (pv 3) pe_int) pe_int (by first | exact nomark _ | rfl)) (pw_and1 (pt_cmpR (o_eq hr.units) (pe_op o_mod (pe_op o_div (pv 1) pe_int) pe_int) pe_int (by first | exact nomark _ | rfl))))) (pss_one (ps_set (i := 4) sc_law_names.nd rfl (by first | exact Or.inl rfl | exact Or.inr rfl) (pe_f c_law_twin hr (by decide) (pa_cons (pe_ix ix_seq (pv 2) (pe_op o_sub (pv 3) pe_int) (fun _ _ => rfl)) (pa_cons (pe_f c_law_mixed hr (by decide) (pa_cons (pe_op o_add (pv 1) (pv 3)) pa_nil)) pa_nil))))) pss_nil) (pss_cons (ps_while PassesOwn.never (PW.pt (pw_or (pt_cmpR o_in (pv 4) (pv 2) (by first | exact nomark _ | rfl)) (pw_or1 (pt_cmpR o_in (pv 4) (pe_lst (pa_cons pe_str (pa_cons pe_str (pa_cons pe_str (pa_cons pe_str (pa_cons pe_str (pa_cons pe_str (pa_cons pe_str pa_nil)))))))) (by first | exact nomark _ | rfl))))) (pss_cons (ps_set (i := 4) sc_law_names.nd rfl (by first | exact Or.inl rfl | exact Or.inr rfl) (pe_op o_add (pe_slice o_sl (pv 4) po_none (po_some pe_int)) (pe_ix ix_seq pe_str (pe_op o_mod (pe_op o_add (pe_op o_add (pv 1) (pe_callB o_len (by rfl) T.z_len (by decide +kernel) (pa_cons (pv 4) pa_nil))) (pv 3)) pe_int) (fun _ _ => rfl)))) (pss_one (ps_set (i := 1) sc_law_names.nd rfl (by first | exact Or.inl rfl | exact Or.inr rfl) (pe_op o_add (pv 1) pe_int))))) (pss_one (ps_expr (pe_bm PySem.F.plainAttrs_list PySem.F.slot_list_append PySem.F.type_list_append mt_append (pv 2) (pa_cons (pv 4) pa_nil))))))))) (pss_one (ps_ret (pv 2))))), pure_law_names K vs H Q E h⟩
theorem ok_law_cell_at (T : Top K mg) : Cal P w K mg base 1 "_law_cell_at" (sp_law_cell_at K) := by
  exact cal_of (k := 0) T.f_law_cell_at sc_law_cell_at (by intro vs H Q E h; repeat (first | (obtain ⟨rfl, _⟩ := h; rfl) | (obtain ⟨_, h⟩ := h))) fun f cdv A outer s H vs Q E hr h => ⟨t_law_cell_at K, PSs.nox (pss_cons (ps_if (pt_cmpR o_lt (pv 1) (pe_callB o_len (by rfl) T.z_len (by decide +kernel) (pa_cons (pv 0) pa_nil)) (by first | exact nomark _ | rfl)) (pss_one (ps_ret (pe_ix ix_seq (pv 0) (pv 1) (fun _ _ => rfl)))) pss_nil) (pss_one (ps_ret pe_int))), pure_law_cell_at K vs H Q E h⟩
theorem ok_law_more (T : Top K mg) : Cal P w K mg base 1 "_law_more" (sp_law_more K) := by
  exact cal_of (k := 0) T.f_law_more sc_law_more (by intro vs H Q E h; repeat (first | (obtain ⟨rfl, _⟩ := h; rfl) | (obtain ⟨_, h⟩ := h))) fun f cdv A outer s H vs Q E hr h => ⟨t_law_more K, PSs.nox (pss_cons (ps_set (i := 2) sc_law_more.nd rfl (by first | exact Or.inl rfl | exact Or.inr rfl) (pe_ix ix_seq (pe_lst (pa_cons pe_int (pa_cons (pe_op o_mod (pe_op o_div (pv 1) pe_int) pe_int) (pa_cons (pe_op o_mod (pe_op o_div (pv 1) pe_int) pe_int) (pa_cons pe_int pa_nil))))) (pe_op o_mod (pv 1) pe_int) (fun _ _ => rfl))) (pss_cons (ps_set (i := 3) sc_law_more.nd rfl (by first | exact Or.inl rfl | exact Or.inr rfl) (pe_lst (pa_cons (pe_lc (own := [("_law_k", 4)]) (g := (gName 4)) (tt := tYes) rfl sc_law_more.nd (pi_range1 (by rfl) T.z_range (pa_cons (pv 2) pa_nil)) (blkOk_by (own := [("_law_k", 4)]) (N := M_law_more) (sc := defScope s_law_more) (by decide +kernel)) (fun _ _ _ _ _ => (pg_name (i := 4) sc_law_more.nd rfl (by first | exact Or.inl rfl | exact Or.inr rfl))) (fun _ _ _ _ _ => pts_nil) (fun _ _ _ _ _ => (pe_op o_add pe_str (pe_callTy o_str (by rfl) T.z_str (by decide +kernel) (pa_cons (pv 4) pa_nil))))) (pa_cons (pe_lc (own := [("_law_k", 4)]) (g := (gName 4)) (tt := tYes) rfl sc_law_more.nd (pi_range1 (by rfl) T.z_range (pa_cons (pe_op o_add (pv 2) (pe_op o_mod (pe_op o_div (pv 1) pe_int) pe_int)) pa_nil)) (blkOk_by (own := [("_law_k", 4)]) (N := M_law_more) (sc := defScope s_law_more) (by decide +kernel)) (fun _ _ _ _ _ => (pg_name (i := 4) sc_law_more.nd rfl (by first | exact Or.inl rfl | exact Or.inr rfl))) (fun _ _ _ _ _ => pts_nil) (fun _ _ _ _ _ => (pe_op o_add pe_str (pe_callTy o_str (by rfl) T.z_str (by decide +kernel) (pa_cons (pv 4) pa_nil))))) pa_nil)))) (pss_one (ps_ret (pe_lc (own := [("_law_row", 5)]) (g := (gName 5)) (tt := tYes) rfl sc_law_more.nd (pi_seq (pv 3)) (blkOk_by (own := [("_law_row", 5)]) (N := M_law_more) (sc := defScope s_law_more) (by decide +kernel)) (fun _ _ _ _ _ => (pg_name (i := 5) sc_law_more.nd rfl (by first | exact Or.inl rfl | exact Or.inr rfl))) (fun _ _ _ _ _ => pts_nil) (fun _ _ _ _ _ => (pe_lc (own := [("_law_name", 6)]) (g := (gName 6)) (tt := (tTest (tOp (rIn2 K true) (tVar 6) (tVar 0)))) rfl sc_law_more.nd (pi_seq (pv 5)) (blkOk_by (own := [("_law_name", 6)]) (N := M_law_more) (by rfl)) (fun _ _ _ _ _ => (pg_name (i := 6) sc_law_more.nd rfl (by first | exact Or.inl rfl | exact Or.inr rfl))) (fun _ _ _ _ _ => (pts_one (pt_cmpR o_nin (pv 6) (pv 0) (by first | exact nomark _ | rfl)))) (fun _ _ _ _ _ => (pv 6))))))))), pure_law_more K vs H Q E h⟩
theorem ok_law_told (T : Top K mg) : Cal P w K mg base 1 "_law_told" (sp_law_told K) := by
  exact cal_of (k := 0) T.f_law_told sc_law_told (by intro vs H Q E h; repeat (first | (obtain ⟨rfl, _⟩ := h; rfl) | (obtain ⟨_, h⟩ := h))) fun f cdv A outer s H vs Q E hr h => ⟨t_law_told K, PSs.nox (pss_cons (ps_set (i := 3) sc_law_told.nd rfl (by first | exact Or.inl rfl | exact Or.inr rfl) (pe_lst (pa_cons (pe_callTy (o_list rfl) (by rfl) T.z_list (by decide +kernel) (pa_cons (pe_ix ix_seq (pv 1) pe_int (fun _ _ => rfl)) pa_nil)) (pa_cons (pe_callTy (o_list rfl) (by rfl) T.z_list (by decide +kernel) (pa_cons (pe_ix ix_seq (pv 1) pe_int (fun _ _ => rfl)) pa_nil)) pa_nil)))) (pss_cons (ps_set (i := 4) sc_law_told.nd rfl (by first | exact Or.inl rfl | exact Or.inr rfl) (pv 2)) (pss_cons (ps_for PassesOwn.never rfl (pi_enum (by rfl) T.z_enumerate (pa_cons (pv 0) pa_nil)) (pg_tup rfl (pgs_cons (pg_name (i := 5) sc_law_told.nd rfl (by first | exact Or.inl rfl | exact Or.inr rfl)) (pgs_cons (pg_name (i := 6) sc_law_told.nd rfl (by first | exact Or.inl rfl | exact Or.inr rfl)) pgs_nil))) (pss_cons (ps_if (pt_cmpR o_gt (pe_op o_mod (pv 4) pe_int) pe_int (by first | exact nomark _ | rfl)) (pss_one (ps_expr (pe_bm PySem.F.plainAttrs_list PySem.F.slot_list_append PySem.F.type_list_append mt_append (pe_ix ix_seq (pv 3) (pe_op o_div (pv 5) pe_int) (fun _ _ => rfl)) (pa_cons (pv 6) pa_nil)))) pss_nil) (pss_one (ps_set (i := 4) sc_law_told.nd rfl (by first | exact Or.inl rfl | exact Or.inr rfl) (pe_op o_div (pv 4) pe_int))))) (pss_cons (ps_set (i := 7) sc_law_told.nd rfl (by first | exact Or.inl rfl | exact Or.inr rfl) (pe_lst (pa_cons (pe_op o_mod (pe_op o_div (pv 2) pe_int) (pe_callB (o_max rfl) (by rfl) T.z_max (by decide +kernel) (pa_cons pe_int (pa_cons (pe_callB o_len (by rfl) T.z_len (by decide +kernel) (pa_cons (pe_ix ix_seq (pv 3) pe_int (fun _ _ => rfl)) pa_nil)) pa_nil)))) (pa_cons (pe_op o_mod (pe_op o_div (pv 2) pe_int) (pe_callB (o_max rfl) (by rfl) T.z_max (by decide +kernel) (pa_cons pe_int (pa_cons (pe_callB o_len (by rfl) T.z_len (by decide +kernel) (pa_cons (pe_ix ix_seq (pv 3) pe_int (fun _ _ => rfl)) pa_nil)) pa_nil)))) pa_nil)))) (pss_one (ps_ret (pe_lst (pa_cons (pe_op o_add (pe_slice o_sl (pe_ix ix_seq (pv 3) pe_int (fun _ _ => rfl)) (po_some (pe_ix ix_seq (pv 7) pe_int (fun _ _ => rfl))) po_none) (pe_slice o_sl (pe_ix ix_seq (pv 3) pe_int (fun _ _ => rfl)) po_none (po_some (pe_ix ix_seq (pv 7) pe_int (fun _ _ => rfl))))) (pa_cons (pe_op o_add (pe_slice o_sl (pe_ix ix_seq (pv 3) pe_int (fun _ _ => rfl)) (po_some (pe_ix ix_seq (pv 7) pe_int (fun _ _ => rfl))) po_none) (pe_slice o_sl (pe_ix ix_seq (pv 3) pe_int (fun _ _ => rfl)) po_none (po_some (pe_ix ix_seq (pv 7) pe_int (fun _ _ => rfl))))) pa_nil))))))))), pure_law_told K vs H Q E h⟩
theorem ok_law_end_by (T : Top K mg) : Cal P w K mg base 1 "_law_end_by" (sp_law_end_by K) := by
  exact cal_of (k := 0) T.f_law_end_by sc_law_end_by (by intro vs H Q E h; repeat (first | (obtain ⟨rfl, _⟩ := h; rfl) | (obtain ⟨_, h⟩ := h))) fun f cdv A outer s H vs Q E hr h => ⟨t_law_end_by K, PSs.nox (pss_cons (ps_if (PW.pt (pw_and (pt_cmpR (o_ne hr.units) (pv 1) (pe_lst pa_nil) (by first | exact nomark _ | rfl)) (pw_and1 (pt_cmpR o_gt (pe_op o_mod (pv 0) pe_int) pe_int (by first | exact nomark _ | rfl))))) (pss_one (ps_ret (pe_tup (pa_cons pe_str (pa_cons (pe_ix ix_seq (pv 1) (pe_op o_mod (pe_op o_div (pv 0) pe_int) (pe_callB o_len (by rfl) T.z_len (by decide +kernel) (pa_cons (pv 1) pa_nil))) (fun _ _ => rfl)) pa_nil))))) pss_nil) (pss_cons (ps_if (pt_cmpR (o_eq hr.units) (pe_op o_mod (pe_op o_div (pv 0) pe_int) pe_int) pe_int (by first | exact nomark _ | rfl)) (pss_one (ps_ret (pe_tup (pa_cons pe_str (pa_cons (pe_op o_mod (pe_op o_div (pv 0) pe_int) (pe_op o_pow pe_int pe_int)) pa_nil))))) pss_nil) (pss_one (ps_ret (pe_tup (pa_cons pe_str (pa_cons (pe_op o_mod (pe_op o_div (pv 0) pe_int) pe_int) pa_nil))))))), pure_law_end_by K vs H Q E h⟩
theorem ok_law_formula_by (T : Top K mg) : ∀ n : Nat, Cal P w K mg base (1 + n) "_law_formula_by" (sp_law_formula_by K n)
  | 0 => cal_none T.f_law_formula_by no_law_formula_by
  | n + 1 => by
    have c_law_formula_by : Cal P w K mg base (1 + n) "_law_formula_by" (sp_law_formula_by K n) := ok_law_formula_by T n
    have c_law_mixed : Cal P w K mg base 1 "_law_mixed" (sp_law_mixed K) := ok_law_mixed T
    have c_law_end_by : Cal P w K mg base 1 "_law_end_by" (sp_law_end_by K) := ok_law_end_by T
    exact cal_of (k := 1 + n) T.f_law_formula_by sc_law_formula_by (by intro vs H Q E h; repeat (first | (obtain ⟨rfl, _⟩ := h; rfl) | (obtain ⟨_, h⟩ := h))) fun f cdv A outer s H vs Q E hr h => ⟨t_law_formula_by K n, PSs.nox (pss_cons (ps_set (i := 0) sc_law_formula_by.nd rfl (by first | exact Or.inl rfl | exact Or.inr rfl) (pe_f c_law_mixed hr (by omega) (pa_cons (pv 0) pa_nil))) (pss_cons (ps_if (PW.pt (pw_or (pt_cmpR (o_eq hr.units) (pv 4) pe_int (by first | exact nomark _ | rfl)) (pw_or1 (pt_cmpR o_lt (pe_op o_mod (pv 0) pe_int) pe_int (by first | exact nomark _ | rfl))))) (pss_one (ps_ret (pe_f c_law_end_by hr (by omega) (pa_cons (pe_op o_div (pv 0) pe_int) (pa_cons (pv 1) pa_nil))))) pss_nil) (pss_cons (ps_set (i := 5) sc_law_formula_by.nd rfl (by first | exact Or.inl rfl | exact Or.inr rfl) (pe_ix ix_seq (pe_lst (pa_cons pe_str (pa_cons pe_str (pa_cons pe_str (pa_cons pe_str (pa_cons pe_str (pa_cons pe_str (pa_cons pe_str (pa_cons pe_str (pa_cons pe_str (pa_cons pe_str pa_nil))))))))))) (pe_op o_mod (pe_op o_div (pv 0) pe_int) (pe_ix ix_seq (pe_lst (pa_cons pe_int (pa_cons pe_int pa_nil))) (pe_callTy o_int (by rfl) T.z_int (by decide +kernel) (pa_cons (pv 3) pa_nil)) (fun _ _ => rfl))) (fun _ _ => rfl))) (pss_cons (ps_set (i := 6) sc_law_formula_by.nd rfl (by first | exact Or.inl rfl | exact Or.inr rfl) (pe_f c_law_formula_by hr (by omega) (pa_cons (pe_op o_add (pe_op o_mul (pv 0) pe_int) pe_int) (pa_cons (pv 1) (pa_cons (pv 2) (pa_cons (pv 3) (pa_cons (pe_op o_sub (pv 4) pe_int) pa_nil))))))) (pss_cons (ps_if (PW.pt (pw_and (pt_cmpR (o_eq hr.units) (pv 5) pe_str (by first | exact nomark _ | rfl)) (pw_and1 (pt_cmpR o_lt (pe_op o_mod (pe_op o_div (pv 0) pe_int) pe_int) pe_int (by first | exact nomark _ | rfl))))) (pss_one (ps_ret (pe_tup (pa_cons (pv 5) (pa_cons (pv 6) (pa_cons (pe_tup (pa_cons pe_str (pa_cons (pe_op o_add pe_int (pe_op o_mod (pe_op o_div (pv 0) pe_int) pe_int)) pa_nil))) pa_nil)))))) pss_nil) (pss_cons (ps_if (pt_cmpR (o_eq hr.units) (pv 5) pe_str (by first | exact nomark _ | rfl)) (pss_one (ps_ret (pe_tup (pa_cons (pv 5) (pa_cons (pv 6) (pa_cons (pe_f c_law_formula_by hr (by omega) (pa_cons (pe_op o_add (pe_op o_mul (pv 0) pe_int) pe_int) (pa_cons (pv 2) (pa_cons (pv 2) (pa_cons (pv 3) (pa_cons (pe_op o_sub (pv 4) pe_int) pa_nil)))))) pa_nil)))))) pss_nil) (pss_one (ps_ret (pe_tup (pa_cons (pv 5) (pa_cons (pv 6) (pa_cons (pe_f c_law_formula_by hr (by omega) (pa_cons (pe_op o_add (pe_op o_mul (pv 0) pe_int) pe_int) (pa_cons (pv 1) (pa_cons (pv 2) (pa_cons (pv 3) (pa_cons (pe_op o_sub (pv 4) pe_int) pa_nil)))))) pa_nil)))))))))))), pure_law_formula_by K n vs H Q E h⟩
theorem ok_law_all_names (T : Top K mg) : ∀ n : Nat, Cal P w K mg base (0 + n) "_law_all_names" (sp_law_all_names K n)
  | 0 => cal_none T.f_law_all_names no_law_all_names
  | n + 1 => by
    have c_law_all_names : Cal P w K mg base (0 + n) "_law_all_names" (sp_law_all_names K n) := ok_law_all_names T n
    exact cal_of (k := 0 + n) T.f_law_all_names sc_law_all_names (by intro vs H Q E h; repeat (first | (obtain ⟨rfl, _⟩ := h; rfl) | (obtain ⟨_, h⟩ := h))) fun f cdv A outer s H vs Q E hr h => ⟨t_law_all_names K n, PSs.nox (pss_cons (ps_if (pt_cmpR (o_eq hr.units) (pe_ix ix_seq (pv 0) pe_int (fun _ _ => rfl)) pe_str (by first | exact nomark _ | rfl)) (pss_one (ps_ret (pe_lst pa_nil))) pss_nil) (pss_cons (ps_if (pt_cmpR (o_eq hr.units) (pe_ix ix_seq (pv 0) pe_int (fun _ _ => rfl)) pe_str (by first | exact nomark _ | rfl)) (pss_one (ps_ret (pe_lst (pa_cons (pe_ix ix_seq (pv 0) pe_int (fun _ _ => rfl)) pa_nil)))) pss_nil) (pss_one (ps_ret (pe_op o_add (pe_f c_law_all_names hr (by omega) (pa_cons (pe_ix ix_seq (pv 0) pe_int (fun _ _ => rfl)) pa_nil)) (pe_f c_law_all_names hr (by omega) (pa_cons (pe_ix ix_seq (pv 0) pe_int (fun _ _ => rfl)) pa_nil))))))), pure_law_all_names K n vs H Q E h⟩
theorem ok_law_row_by (T : Top K mg) : Cal P w K mg base 19 "_law_row_by" (sp_law_row_by K) := by
  have c_law_formula_by : Cal P w K mg base 7 "_law_formula_by" (sp_law_formula_by K 6) := ok_law_formula_by T 6
  have c_law_all_names : Cal P w K mg base 18 "_law_all_names" (sp_law_all_names K 18) := ok_law_all_names T 18
  exact cal_of (k := 18) T.f_law_row_by sc_law_row_by (by intro vs H Q E h; repeat (first | (obtain ⟨rfl, _⟩ := h; rfl) | (obtain ⟨_, h⟩ := h))) fun f cdv A outer s H vs Q E hr h => ⟨t_law_row_by K, PSs.nox (pss_cons (ps_set (i := 4) sc_law_row_by.nd rfl (by first | exact Or.inl rfl | exact Or.inr rfl) (pe_slice o_sl (pv 0) po_none (po_some pe_int))) (pss_cons (ps_set (i := 5) sc_law_row_by.nd rfl (by first | exact Or.inl rfl | exact Or.inr rfl) (pv 0)) (pss_cons (ps_if (PW.pt (pw_or (PW.pt (pw_and (pt_cmpR (o_eq hr.units) (pv 3) pe_int (by first | exact nomark _ | rfl)) (pw_and1 (pt_cmpR (o_eq hr.units) (pe_op o_mod (pe_op o_div (pv 1) pe_int) pe_int) pe_int (by first | exact nomark _ | rfl))))) (pw_or1 (PW.pt (pw_and (pt_cmpR (o_eq hr.units) (pv 3) pe_int (by first | exact nomark _ | rfl)) (pw_and (pt_val (pv 2)) (pw_and1 (pt_cmpR o_gt (pe_op o_mod (pe_op o_div (pv 1) pe_int) pe_int) pe_int (by first | exact nomark _ | rfl))))))))) (pss_one (ps_set (i := 5) sc_law_row_by.nd rfl (by first | exact Or.inl rfl | exact Or.inr rfl) (pv 4))) (pss_one (ps_if (pt_cmpR (o_eq hr.units) (pv 3) pe_int (by first | exact nomark _ | rfl)) (pss_one (ps_set (i := 5) sc_law_row_by.nd rfl (by first | exact Or.inl rfl | exact Or.inr rfl) (pe_slice o_sl (pv 0) (po_some pe_int) po_none))) pss_nil))) (pss_cons (ps_if (pt_cmpR o_gt (pv 3) pe_int (by first | exact nomark _ | rfl)) (pss_one (ps_set (i := 4) sc_law_row_by.nd rfl (by first | exact Or.inl rfl | exact Or.inr rfl) (pv 5))) pss_nil) (pss_cons (ps_set (i := 6) sc_law_row_by.nd rfl (by first | exact Or.inl rfl | exact Or.inr rfl) (pe_f c_law_formula_by hr (by decide) (pa_cons (pv 1) (pa_cons (pv 5) (pa_cons (pv 4) (pa_cons (pe_or (pe_cmpR o_gt (pv 3) pe_int (by first | exact nomark _ | rfl)) (pe_one (pe_not (pv 2)))) (pa_cons (pe_op o_add pe_int (pe_op o_mod (pe_op o_div (pv 1) pe_int) pe_int)) pa_nil))))))) (pss_one (ps_ret (pe_tup (pa_cons (pv 6) (pa_cons (pe_cmpR (o_ne hr.units) (pe_lc (own := [("_law_name", 7)]) (g := (gName 7)) (tt := (tTest (tOp (rIn2 K false) (tVar 7) (tSl (rSl K) (tVar 0) (tPart (tC (.int 5))) tNoPart)))) rfl sc_law_row_by.nd (pi_seq (pe_f c_law_all_names hr (by decide) (pa_cons (pv 6) pa_nil))) (blkOk_by (own := [("_law_name", 7)]) (N := M_law_row_by) (sc := defScope s_law_row_by) (by decide +kernel)) (fun _ _ _ _ _ => (pg_name (i := 7) sc_law_row_by.nd rfl (by first | exact Or.inl rfl | exact Or.inr rfl))) (fun _ _ _ _ _ => (pts_one (pt_cmpR o_in (pv 7) (pe_slice o_sl (pv 0) (po_some pe_int) po_none) (by first | exact nomark _ | rfl)))) (fun _ _ _ _ _ => (pv 7))) (pe_lst pa_nil) (by first | exact nomark _ | rfl)) pa_nil)))))))))), pure_law_row_by K vs H Q E h⟩
theorem ok_law_closed (T : Top K mg) : Cal P w K mg base 1 "_law_closed" (sp_law_closed K) := by
  exact cal_of (k := 0) T.f_law_closed sc_law_closed (by intro vs H Q E h; repeat (first | (obtain ⟨rfl, _⟩ := h; rfl) | (obtain ⟨_, h⟩ := h))) fun f cdv A outer s H vs Q E hr h => ⟨t_law_closed K, PSs.nox (pss_cons (ps_set (i := 1) sc_law_closed.nd rfl (by first | exact Or.inl rfl | exact Or.inr rfl) (pe_bm0 PySem.F.plainAttrs_list PySem.F.slot_list_pop PySem.F.type_list_pop mt_pop (pv 0))) (pss_one (ps_if (pt_cmpR (o_eq hr.units) (pe_ix ix_seq (pv 1) pe_int (fun _ _ => rfl)) pe_str (by first | exact nomark _ | rfl)) (pss_cons (ps_if (PW.pt (pw_and (pt_cmpR (o_eq hr.units) (pe_ix ix_seq (pe_ix ix_seq (pv 1) pe_int (fun _ _ => rfl)) pe_int (fun _ _ => rfl)) pe_str (by first | exact nomark _ | rfl)) (pw_and1 (pt_cmpR (o_eq hr.units) (pe_ix ix_seq (pe_ix ix_seq (pe_ix ix_seq (pv 1) pe_int (fun _ _ => rfl)) pe_int (fun _ _ => rfl)) pe_int (fun _ _ => rfl)) pe_str (by first | exact nomark _ | rfl))))) (pss_one (ps_expr (pe_bm PySem.F.plainAttrs_list PySem.F.slot_list_append PySem.F.type_list_append mt_append (pe_ix ix_seq (pv 1) pe_int (fun _ _ => rfl)) (pa_cons (pe_tup (pa_cons pe_str (pa_cons (pe_ix ix_seq (pe_ix ix_seq (pe_ix ix_seq (pv 1) pe_int (fun _ _ => rfl)) pe_int (fun _ _ => rfl)) pe_int (fun _ _ => rfl)) (pa_cons (pe_tup (pa_cons pe_str (pa_cons (pe_ix ix_seq (pe_ix ix_seq (pv 1) pe_int (fun _ _ => rfl)) pe_int (fun _ _ => rfl)) (pa_cons (pe_tup (pa_cons pe_str (pa_cons pe_int pa_nil))) pa_nil)))) pa_nil)))) pa_nil)))) pss_nil) (pss_one (ps_expr (pe_bm PySem.F.plainAttrs_list PySem.F.slot_list_append PySem.F.type_list_append mt_append (pe_ix ix_seq (pe_ix ix_seq (pv 0) (pe_un o_neg pe_int) (fun _ _ => rfl)) pe_int (fun _ _ => rfl)) (pa_cons (pe_tup (pa_cons pe_str (pa_cons (pe_ix ix_seq (pv 1) pe_int (fun _ _ => rfl)) (pa_cons (pe_callTy o_tuple (by rfl) T.z_tuple (by decide +kernel) (pa_cons (pe_ix ix_seq (pv 1) pe_int (fun _ _ => rfl)) pa_nil)) pa_nil)))) pa_nil))))) (pss_one (ps_if (pt_cmpR o_isN (pe_ix ix_seq (pv 1) pe_int (fun _ _ => rfl)) pe_non (by first | exact nomark _ | rfl)) (pss_one (ps_expr (pe_bm PySem.F.plainAttrs_list PySem.F.slot_list_append PySem.F.type_list_append mt_append (pv 0) (pa_cons (pe_lst (pa_cons (pe_ix ix_seq (pv 1) pe_int (fun _ _ => rfl)) (pa_cons (pe_ix ix_seq (pv 1) pe_int (fun _ _ => rfl)) (pa_cons (pe_lst pa_nil) (pa_cons (pe_ix ix_seq (pv 1) pe_int (fun _ _ => rfl)) (pa_cons (pe_callTy o_tuple (by rfl) T.z_tuple (by decide +kernel) (pa_cons (pe_ix ix_seq (pv 1) pe_int (fun _ _ => rfl)) pa_nil)) pa_nil)))))) pa_nil)))) (pss_one (ps_expr (pe_bm PySem.F.plainAttrs_list PySem.F.slot_list_append PySem.F.type_list_append mt_append (pe_ix ix_seq (pe_ix ix_seq (pv 0) (pe_un o_neg pe_int) (fun _ _ => rfl)) pe_int (fun _ _ => rfl)) (pa_cons (pe_tup (pa_cons pe_str (pa_cons (pe_ix ix_seq (pv 1) pe_int (fun _ _ => rfl)) (pa_cons (pe_ix ix_seq (pv 1) pe_int (fun _ _ => rfl)) (pa_cons (pe_callTy o_tuple (by rfl) T.z_tuple (by decide +kernel) (pa_cons (pe_ix ix_seq (pv 1) pe_int (fun _ _ => rfl)) pa_nil)) pa_nil))))) pa_nil))))))))), pure_law_closed K vs H Q E h⟩
theorem ok_law_put (T : Top K mg) : Cal P w K mg base 20 "_law_put" (sp_law_put K) := by
  have c_law_row_by : Cal P w K mg base 19 "_law_row_by" (sp_law_row_by K) := ok_law_row_by T
  have c_law_closed : Cal P w K mg base 1 "_law_closed" (sp_law_closed K) := ok_law_closed T
  exact cal_of (k := 19) T.f_law_put sc_law_put (by intro vs H Q E h; repeat (first | (obtain ⟨rfl, _⟩ := h; rfl) | (obtain ⟨_, h⟩ := h))) fun f cdv A outer s H vs Q E hr h => ⟨t_law_put K, PSs.nox (pss_cons (ps_set (i := 4) sc_law_put.nd rfl (by first | exact Or.inl rfl | exact Or.inr rfl) (pe_op o_mod (pv 2) pe_int)) (pss_cons (ps_set (i := 5) sc_law_put.nd rfl (by first | exact Or.inl rfl | exact Or.inr rfl) (pe_cmpR (o_ne hr.units) (pe_lc (own := [("_law_frame", 6)]) (g := (gName 6)) (tt := (tB (tOp (rIx K) (tVar 6) (tC (.int 3))))) rfl sc_law_put.nd (pi_seq (pv 0)) (blkOk_by (own := [("_law_frame", 6)]) (N := M_law_put) (sc := defScope s_law_put) (by decide +kernel)) (fun _ _ _ _ _ => (pg_name (i := 6) sc_law_put.nd rfl (by first | exact Or.inl rfl | exact Or.inr rfl))) (fun _ _ _ _ _ => (pts_one (pt_val (pe_ix ix_seq (pv 6) pe_int (fun _ _ => rfl))))) (fun _ _ _ _ _ => (pv 6))) (pe_lst pa_nil) (by first | exact nomark _ | rfl))) (pss_cons (ps_asg (pe_f c_law_row_by hr (by decide) (pa_cons (pv 1) (pa_cons (pv 2) (pa_cons (pv 5) (pa_cons (pv 3) pa_nil))))) (pg_tup rfl (pgs_cons (pg_name (i := 7) sc_law_put.nd rfl (by first | exact Or.inl rfl | exact Or.inr rfl)) (pgs_cons (pg_name (i := 8) sc_law_put.nd rfl (by first | exact Or.inl rfl | exact Or.inr rfl)) pgs_nil)))) (pss_cons (ps_set (i := 9) sc_law_put.nd rfl (by first | exact Or.inl rfl | exact Or.inr rfl) (pe_and (pe_cmpR (o_eq hr.units) (pv 3) pe_int (by first | exact nomark _ | rfl)) (pe_one (pe_or (pv 5) (pe_one (pv 8)))))) (pss_cons (ps_if (pt_cmpR (o_eq hr.units) (pv 3) pe_int (by first | exact nomark _ | rfl)) (pss_one (ps_set (i := 4) sc_law_put.nd rfl (by first | exact Or.inl rfl | exact Or.inr rfl) (pe_ix ix_seq (pe_lst (pa_cons pe_int (pa_cons pe_int (pa_cons pe_int (pa_cons pe_int pa_nil))))) (pe_op o_mod (pe_op o_div (pv 2) pe_int) pe_int) (fun _ _ => rfl)))) pss_nil) (pss_one (ps_if (pt_cmpR o_lt (pv 4) pe_int (by first | exact nomark _ | rfl)) (pss_cons (ps_set (i := 10) sc_law_put.nd rfl (by first | exact Or.inl rfl | exact Or.inr rfl) (pe_ix ix_seq (pe_lst (pa_cons (pv 1) (pa_cons (pv 1) (pa_cons (pe_ix ix_seq (pe_lst (pa_cons (pe_slice o_sl (pv 1) po_none (po_some pe_int)) (pa_cons (pe_slice o_sl (pv 1) (po_some pe_int) po_none) pa_nil))) (pe_callTy o_int (by rfl) T.z_int (by decide +kernel) (pa_cons (pe_cmpR (o_eq hr.units) (pe_op o_mod (pe_op o_div (pv 2) pe_int) pe_int) pe_int (by first | exact nomark _ | rfl)) pa_nil)) (fun _ _ => rfl)) pa_nil)))) (pv 3) (fun _ _ => rfl))) (pss_cons (ps_if (pt_val (pv 9)) (pss_one (ps_set (i := 10) sc_law_put.nd rfl (by first | exact Or.inl rfl | exact Or.inr rfl) (pe_slice o_sl (pv 1) (po_some pe_int) po_none))) pss_nil) (pss_one (ps_expr (pe_bm PySem.F.plainAttrs_list PySem.F.slot_list_append PySem.F.type_list_append mt_append (pe_ix ix_seq (pe_ix ix_seq (pv 0) (pe_un o_neg pe_int) (fun _ _ => rfl)) pe_int (fun _ _ => rfl)) (pa_cons (pe_tup (pa_cons pe_str (pa_cons (pe_ix ix_seq (pv 10) (pe_op o_mod (pe_op o_div (pv 2) pe_int) (pe_callB o_len (by rfl) T.z_len (by decide +kernel) (pa_cons (pv 10) pa_nil))) (fun _ _ => rfl)) (pa_cons (pv 7) pa_nil)))) pa_nil)))))) (pss_one (ps_if (PW.pt (pw_and (pt_cmpR (o_eq hr.units) (pv 4) pe_int (by first | exact nomark _ | rfl)) (pw_and1 (pt_not (pt_val (pv 9)))))) (pss_one (ps_expr (pe_bm PySem.F.plainAttrs_list PySem.F.slot_list_append PySem.F.type_list_append mt_append (pe_ix ix_seq (pe_ix ix_seq (pv 0) (pe_un o_neg pe_int) (fun _ _ => rfl)) pe_int (fun _ _ => rfl)) (pa_cons (pe_tup (pa_cons pe_str (pa_cons (pv 7) pa_nil))) pa_nil)))) (pss_one (ps_if (pt_cmpR (o_eq hr.units) (pv 4) pe_int (by first | exact nomark _ | rfl)) (pss_one (ps_expr (pe_bm PySem.F.plainAttrs_list PySem.F.slot_list_append PySem.F.type_list_append mt_append (pe_ix ix_seq (pe_ix ix_seq (pv 0) (pe_un o_neg pe_int) (fun _ _ => rfl)) pe_int (fun _ _ => rfl)) (pa_cons (pe_tup (pa_cons pe_str pa_nil)) pa_nil)))) (pss_one (ps_if (PW.pt (pw_and (pt_cmpR o_lt (pv 4) pe_int (by first | exact nomark _ | rfl)) (pw_and1 (pt_cmpR o_lt (pe_callB o_len (by rfl) T.z_len (by decide +kernel) (pa_cons (pv 0) pa_nil)) pe_int (by first | exact nomark _ | rfl))))) (pss_one (ps_expr (pe_bm PySem.F.plainAttrs_list PySem.F.slot_list_append PySem.F.type_list_append mt_append (pv 0) (pa_cons (pe_lst (pa_cons pe_str (pa_cons (pv 7) (pa_cons (pe_lst pa_nil) (pa_cons (pv 8) (pa_cons pe_non pa_nil)))))) pa_nil)))) (pss_one (ps_if (PW.pt (pw_and (pt_cmpR o_lt (pv 4) pe_int (by first | exact nomark _ | rfl)) (pw_and (pt_cmpR o_lt (pe_callB o_len (by rfl) T.z_len (by decide +kernel) (pa_cons (pv 0) pa_nil)) pe_int (by first | exact nomark _ | rfl)) (pw_and1 (pt_not (pt_val (pv 9))))))) (pss_cons (ps_if (PW.pt (pw_and (pt_cmpR (o_eq hr.units) (pv 3) pe_int (by first | exact nomark _ | rfl)) (pw_and1 (pt_cmpR o_gt (pe_op o_mod (pe_op o_div (pv 2) pe_int) pe_int) pe_int (by first | exact nomark _ | rfl))))) (pss_one (ps_set (i := 7) sc_law_put.nd rfl (by first | exact Or.inl rfl | exact Or.inr rfl) (pe_tup (pa_cons pe_str (pa_cons (pe_tup (pa_cons pe_str (pa_cons (pe_ix ix_seq (pv 1) (pe_op o_mod (pe_op o_div (pv 2) pe_int) pe_int) (fun _ _ => rfl)) pa_nil))) (pa_cons (pe_tup (pa_cons pe_str (pa_cons (pe_op o_add pe_int (pe_op o_mod (pe_op o_div (pv 2) pe_int) pe_int)) pa_nil))) pa_nil)))))) pss_nil) (pss_one (ps_expr (pe_bm PySem.F.plainAttrs_list PySem.F.slot_list_append PySem.F.type_list_append mt_append (pv 0) (pa_cons (pe_lst (pa_cons pe_str (pa_cons (pv 7) (pa_cons (pe_lst pa_nil) (pa_cons (pv 8) (pa_cons pe_non pa_nil)))))) pa_nil))))) (pss_one (ps_if (pt_cmpR o_gt (pe_callB o_len (by rfl) T.z_len (by decide +kernel) (pa_cons (pv 0) pa_nil)) pe_int (by first | exact nomark _ | rfl)) (pss_one (ps_expr (pe_f c_law_closed hr (by decide) (pa_cons (pv 0) pa_nil)))) pss_nil))))))))))))))))), pure_law_put K vs H Q E h⟩
theorem ok_law_block_by (T : Top K mg) : Cal P w K mg base 21 "_law_block_by" (sp_law_block_by K) := by
  have c_law_mixed : Cal P w K mg base 1 "_law_mixed" (sp_law_mixed K) := ok_law_mixed T
  have c_law_put : Cal P w K mg base 20 "_law_put" (sp_law_put K) := ok_law_put T
  have c_law_closed : Cal P w K mg base 1 "_law_closed" (sp_law_closed K) := ok_law_closed T
  exact cal_of (k := 20) T.f_law_block_by sc_law_block_by (by intro vs H Q E h; repeat (first | (obtain ⟨rfl, _⟩ := h; rfl) | (obtain ⟨_, h⟩ := h))) fun f cdv A outer s H vs Q E hr h => ⟨t_law_block_by K, PSs.nox (pss_cons (ps_set (i := 3) sc_law_block_by.nd rfl (by first | exact Or.inl rfl | exact Or.inr rfl) (pe_lst (pa_cons (pe_lst (pa_cons pe_str (pa_cons pe_non (pa_cons (pe_lst pa_nil) (pa_cons pe_bl (pa_cons pe_non pa_nil)))))) pa_nil))) (pss_cons (ps_for PassesOwn.never rfl (pi_enum (by rfl) T.z_enumerate (pa_cons (pv 0) pa_nil)) (pg_tup rfl (pgs_cons (pg_name (i := 4) sc_law_block_by.nd rfl (by first | exact Or.inl rfl | exact Or.inr rfl)) (pgs_cons (pg_name (i := 5) sc_law_block_by.nd rfl (by first | exact Or.inl rfl | exact Or.inr rfl)) pgs_nil))) (pss_cons (ps_set (i := 6) sc_law_block_by.nd rfl (by first | exact Or.inl rfl | exact Or.inr rfl) (pe_f c_law_mixed hr (by decide) (pa_cons (pe_op o_mul (pe_f c_law_mixed hr (by decide) (pa_cons (pe_op o_add (pv 5) (pe_op o_mul pe_int (pv 4))) pa_nil)) (pe_op o_add (pv 4) pe_int)) pa_nil))) (pss_cons (ps_set (i := 7) sc_law_block_by.nd rfl (by first | exact Or.inl rfl | exact Or.inr rfl) pe_int) (pss_cons (ps_if (PW.pt (pw_and (pt_cmpR (o_eq hr.units) (pv 2) pe_int (by first | exact nomark _ | rfl)) (pw_and1 (pt_cmpR (o_eq hr.units) (pe_op o_mod (pe_op o_div (pv 6) pe_int) pe_int) pe_int (by first | exact nomark _ | rfl))))) (pss_one (ps_set (i := 7) sc_law_block_by.nd rfl (by first | exact Or.inl rfl | exact Or.inr rfl) pe_int)) pss_nil) (pss_cons (ps_if (PW.pt (pw_and (pt_cmpR o_gt (pv 2) pe_int (by first | exact nomark _ | rfl)) (pw_and1 (pt_cmpR (o_eq hr.units) (pv 4) (pe_op o_mod (pv 2) (pe_callB o_len (by rfl) T.z_len (by decide +kernel) (pa_cons (pv 0) pa_nil))) (by first | exact nomark _ | rfl))))) (pss_one (ps_set (i := 7) sc_law_block_by.nd rfl (by first | exact Or.inl rfl | exact Or.inr rfl) pe_int)) pss_nil) (pss_one (ps_expr (pe_f c_law_put hr (by decide) (pa_cons (pv 3) (pa_cons (pv 1) (pa_cons (pv 6) (pa_cons (pv 7) pa_nil)))))))))))) (pss_cons (ps_while PassesOwn.never (pt_cmpR o_gt (pe_callB o_len (by rfl) T.z_len (by decide +kernel) (pa_cons (pv 3) pa_nil)) pe_int (by first | exact nomark _ | rfl)) (pss_one (ps_expr (pe_f c_law_closed hr (by decide) (pa_cons (pv 3) pa_nil))))) (pss_one (ps_ret (pe_ix ix_seq (pe_ix ix_seq (pv 3) pe_int (fun _ _ => rfl)) pe_int (fun _ _ => rfl))))))), pure_law_block_by K vs H Q E h⟩
theorem ok_is_list (T : Top K mg) : Cal P w K mg base 1 "is_list" (sp_is_list K) := by
  exact cal_of (k := 0) T.f_is_list sc_is_list (by intro vs H Q E h; repeat (first | (obtain ⟨rfl, _⟩ := h; rfl) | (obtain ⟨_, h⟩ := h))) fun f cdv A outer s H vs Q E hr h => ⟨t_is_list K, PSs.nox (pss_one (ps_ret (pe_callB o_isi (by rfl) T.z_isinstance (by decide +kernel) (pa_cons (pv 0) (pa_cons (pe_tup (pa_cons (pe_bltn (by rfl) T.z_list (by decide +kernel) rfl) (pa_cons (pe_bltn (by rfl) T.z_tuple (by decide +kernel) rfl) pa_nil))) pa_nil))))), pure_is_list K vs H Q E h⟩
theorem ok_is_name (T : Top K mg) : Cal P w K mg base 1 "is_name" (sp_is_name K) := by
  exact cal_of (k := 0) T.f_is_name sc_is_name (by intro vs H Q E h; repeat (first | (obtain ⟨rfl, _⟩ := h; rfl) | (obtain ⟨_, h⟩ := h))) fun f cdv A outer s H vs Q E hr h => ⟨t_is_name K, PSs.nox (pss_cons (ps_if (PW.pt (pw_or (pt_not (pt_val (pe_callB o_isi (by rfl) T.z_isinstance (by decide +kernel) (pa_cons (pv 0) (pa_cons (pe_bltn (by rfl) T.z_str (by decide +kernel) rfl) pa_nil))))) (pw_or (pt_not (pt_chain o_le o_le pe_int (pe_callB o_len (by rfl) T.z_len (by decide +kernel) (pa_cons (pv 0) pa_nil)) pe_int)) (pw_or (pt_cmpR o_in (pv 0) (pe_globT (by rfl) T.g_WORDS) (by first | exact nomark _ | rfl)) (pw_or1 (pt_cmpR o_nin (pe_ix ix_seq (pv 0) pe_int (fun _ _ => rfl)) (pe_globS (by rfl) T.g_LETTERS) (by first | exact nomark _ | rfl))))))) (pss_one (ps_ret pe_bl)) pss_nil) (pss_cons (ps_for PassesOwn.never rfl (pi_str (pv 0)) (pg_name (i := 1) sc_is_name.nd rfl (by first | exact Or.inl rfl | exact Or.inr rfl)) (pss_one (ps_if (PW.pt (pw_and (pt_cmpR o_nin (pv 1) (pe_globS (by rfl) T.g_LETTERS) (by first | exact nomark _ | rfl)) (pw_and1 (pt_cmpR o_nin (pv 1) (pe_globS (by rfl) T.g_FIGURES) (by first | exact nomark _ | rfl))))) (pss_one (ps_ret pe_bl)) pss_nil))) (pss_one (ps_ret pe_bl)))), pure_is_name K vs H Q E h⟩
theorem ok_need_names (T : Top K mg) : Cal P w K mg base 2 "need_names" (sp_need_names K) := by
  have c_is_list : Cal P w K mg base 1 "is_list" (sp_is_list K) := ok_is_list T
  have c_is_name : Cal P w K mg base 1 "is_name" (sp_is_name K) := ok_is_name T
  exact cal_of (k := 1) T.f_need_names sc_need_names (by intro vs H Q E h; repeat (first | (obtain ⟨rfl, _⟩ := h; rfl) | (obtain ⟨_, h⟩ := h))) fun f cdv A outer s H vs Q E hr h => ⟨t_need_names K, PSs.nox (pss_cons (ps_if (pt_not (pt_val (pe_f c_is_list hr (by decide) (pa_cons (pv 0) pa_nil)))) (pss_one ps_never) pss_nil) (pss_cons (ps_set (i := 2) sc_need_names.nd rfl (by first | exact Or.inl rfl | exact Or.inr rfl) (pe_lst pa_nil)) (pss_cons (ps_for PassesOwn.never rfl (pi_seq (pv 0)) (pg_name (i := 3) sc_need_names.nd rfl (by first | exact Or.inl rfl | exact Or.inr rfl)) (pss_cons (ps_if (pt_not (pt_val (pe_f c_is_name hr (by decide) (pa_cons (pv 3) pa_nil)))) (pss_one ps_never) pss_nil) (pss_cons (ps_if (PW.pt (pw_or (pt_cmpR o_in (pv 3) (pv 1) (by first | exact nomark _ | rfl)) (pw_or1 (pt_cmpR o_in (pv 3) (pv 2) (by first | exact nomark _ | rfl))))) (pss_one ps_never) pss_nil) (pss_one (ps_expr (pe_bm PySem.F.plainAttrs_list PySem.F.slot_list_append PySem.F.type_list_append mt_append (pv 2) (pa_cons (pv 3) pa_nil))))))) (pss_one (ps_ret (pv 2)))))), pure_need_names K vs H Q E h⟩
theorem ok_things_of (T : Top K mg) : Cal P w K mg base 1 "things_of" (sp_things_of K) := by
  exact cal_of (k := 0) T.f_things_of sc_things_of (by intro vs H Q E h; repeat (first | (obtain ⟨rfl, _⟩ := h; rfl) | (obtain ⟨_, h⟩ := h))) fun f cdv A outer s H vs Q E hr h => ⟨t_things_of K, PSs.nox (pss_cons (ps_if (pt_cmpR (o_eq hr.units) (pv 0) pe_str (by first | exact nomark _ | rfl)) (pss_one (ps_ret pe_int)) pss_nil) (pss_cons (ps_if (pt_cmpR (o_eq hr.units) (pv 0) pe_str (by first | exact nomark _ | rfl)) (pss_one (ps_ret pe_int)) pss_nil) (pss_cons (ps_if (PW.pt (pw_or (pt_cmpR (o_eq hr.units) (pv 0) pe_str (by first | exact nomark _ | rfl)) (pw_or1 (pt_cmpR (o_eq hr.units) (pv 0) pe_str (by first | exact nomark _ | rfl))))) (pss_one (ps_ret pe_int)) pss_nil) (pss_cons (ps_if (pt_cmpR (o_eq hr.units) (pv 0) pe_str (by first | exact nomark _ | rfl)) (pss_one (ps_ret pe_int)) pss_nil) (pss_one (ps_ret pe_int)))))), pure_things_of K vs H Q E h⟩
theorem ok_blocks_of (T : Top K mg) : Cal P w K mg base 1 "blocks_of" (sp_blocks_of K) := by
  exact cal_of (k := 0) T.f_blocks_of sc_blocks_of (by intro vs H Q E h; repeat (first | (obtain ⟨rfl, _⟩ := h; rfl) | (obtain ⟨_, h⟩ := h))) fun f cdv A outer s H vs Q E hr h => ⟨t_blocks_of K, PSs.nox (pss_cons (ps_if (pt_cmpR (o_eq hr.units) (pe_ix ix_seq (pv 0) pe_int (fun _ _ => rfl)) pe_str (by first | exact nomark _ | rfl)) (pss_one (ps_ret (pe_lst (pa_cons (pe_ix ix_seq (pv 0) pe_int (fun _ _ => rfl)) (pa_cons (pe_ix ix_seq (pv 0) pe_int (fun _ _ => rfl)) pa_nil))))) pss_nil) (pss_cons (ps_if (pt_cmpR (o_eq hr.units) (pe_ix ix_seq (pv 0) pe_int (fun _ _ => rfl)) pe_str (by first | exact nomark _ | rfl)) (pss_one (ps_ret (pe_lst (pa_cons (pe_ix ix_seq (pv 0) pe_int (fun _ _ => rfl)) pa_nil)))) pss_nil) (pss_one (ps_ret (pe_lst pa_nil))))), pure_blocks_of K vs H Q E h⟩
theorem ok_need_form (T : Top K mg) : Cal P w K mg base 2 "need_form" (sp_need_form K) := by
  have c_things_of : Cal P w K mg base 1 "things_of" (sp_things_of K) := ok_things_of T
  have c_is_name : Cal P w K mg base 1 "is_name" (sp_is_name K) := ok_is_name T
  have c_blocks_of : Cal P w K mg base 1 "blocks_of" (sp_blocks_of K) := ok_blocks_of T
  have c_is_list : Cal P w K mg base 1 "is_list" (sp_is_list K) := ok_is_list T
  exact cal_of (k := 1) T.f_need_form sc_need_form (by intro vs H Q E h; repeat (first | (obtain ⟨rfl, _⟩ := h; rfl) | (obtain ⟨_, h⟩ := h))) fun f cdv A outer s H vs Q E hr h => ⟨t_need_form K, PSs.nox (pss_cons (ps_if (PW.pt (pw_or (pt_not (pt_val (pe_callB o_isi (by rfl) T.z_isinstance (by decide +kernel) (pa_cons (pv 0) (pa_cons (pe_bltn (by rfl) T.z_tuple (by decide +kernel) rfl) pa_nil))))) (pw_or (pt_cmpR (o_eq hr.units) (pv 0) (pe_tup pa_nil) (by first | exact nomark _ | rfl)) (pw_or1 (pt_not (pt_val (pe_callB o_isi (by rfl) T.z_isinstance (by decide +kernel) (pa_cons (pe_ix ix_seq (pv 0) pe_int (fun _ _ => rfl)) (pa_cons (pe_bltn (by rfl) T.z_str (by decide +kernel) rfl) pa_nil))))))))) (pss_one ps_never) pss_nil) (pss_cons (ps_if (pt_cmpR (o_ne hr.units) (pe_f c_things_of hr (by decide) (pa_cons (pe_ix ix_seq (pv 0) pe_int (fun _ _ => rfl)) pa_nil)) (pe_callB o_len (by rfl) T.z_len (by decide +kernel) (pa_cons (pv 0) pa_nil)) (by first | exact nomark _ | rfl)) (pss_one ps_never) pss_nil) (pss_cons (ps_if (PW.pt (pw_and (pt_cmpR (o_eq hr.units) (pe_ix ix_seq (pv 0) pe_int (fun _ _ => rfl)) pe_str (by first | exact nomark _ | rfl)) (pw_and1 (pt_not (pt_val (pe_f c_is_name hr (by decide) (pa_cons (pe_ix ix_seq (pv 0) pe_int (fun _ _ => rfl)) pa_nil))))))) (pss_one ps_never) pss_nil) (pss_one (ps_for PassesOwn.never rfl (pi_seq (pe_f c_blocks_of hr (by decide) (pa_cons (pv 0) pa_nil))) (pg_name (i := 1) sc_need_form.nd rfl (by first | exact Or.inl rfl | exact Or.inr rfl)) (pss_one (ps_if (pt_not (pt_val (pe_f c_is_list hr (by decide) (pa_cons (pv 1) pa_nil)))) (pss_one ps_never) pss_nil))))))), pure_need_form K vs H Q E h⟩
theorem ok_is_whole (T : Top K mg) : Cal P w K mg base 1 "is_whole" (sp_is_whole K) := by
  exact cal_of (k := 0) T.f_is_whole sc_is_whole (by intro vs H Q E h; repeat (first | (obtain ⟨rfl, _⟩ := h; rfl) | (obtain ⟨_, h⟩ := h))) fun f cdv A outer s H vs Q E hr h => ⟨t_is_whole K, PSs.nox (pss_one (ps_ret (pe_and (pe_callB o_isi (by rfl) T.z_isinstance (by decide +kernel) (pa_cons (pv 0) (pa_cons (pe_bltn (by rfl) T.z_int (by decide +kernel) rfl) pa_nil))) (pe_one (pe_not (pe_callB o_isi (by rfl) T.z_isinstance (by decide +kernel) (pa_cons (pv 0) (pa_cons (pe_bltn (by rfl) T.z_bool (by decide +kernel) rfl) pa_nil)))))))), pure_is_whole K vs H Q E h⟩
theorem ok_is_number (T : Top K mg) : Cal P w K mg base 2 "is_number" (sp_is_number K) := by
  have c_is_whole : Cal P w K mg base 1 "is_whole" (sp_is_whole K) := ok_is_whole T
  exact cal_of (k := 1) T.f_is_number sc_is_number (by intro vs H Q E h; repeat (first | (obtain ⟨rfl, _⟩ := h; rfl) | (obtain ⟨_, h⟩ := h))) fun f cdv A outer s H vs Q E hr h => ⟨t_is_number K, PSs.nox (pss_one (ps_ret (pe_and (pe_f c_is_whole hr (by decide) (pa_cons (pv 0) pa_nil)) (pe_one (pe_chain o_le o_lt pe_int (pv 0) (pe_globI (by rfl) T.g_LIMIT)))))), pure_is_number K vs H Q E h⟩
theorem ok_is_end (T : Top K mg) : Cal P w K mg base 3 "is_end" (sp_is_end K) := by
  have c_is_number : Cal P w K mg base 2 "is_number" (sp_is_number K) := ok_is_number T
  have c_is_name : Cal P w K mg base 1 "is_name" (sp_is_name K) := ok_is_name T
  exact cal_of (k := 2) T.f_is_end sc_is_end (by intro vs H Q E h; repeat (first | (obtain ⟨rfl, _⟩ := h; rfl) | (obtain ⟨_, h⟩ := h))) fun f cdv A outer s H vs Q E hr h => ⟨t_is_end K, PSs.nox (pss_cons (ps_if (PW.pt (pw_or (pt_not (pt_val (pe_callB o_isi (by rfl) T.z_isinstance (by decide +kernel) (pa_cons (pv 0) (pa_cons (pe_bltn (by rfl) T.z_tuple (by decide +kernel) rfl) pa_nil))))) (pw_or (pt_cmpR (o_ne hr.units) (pe_callB o_len (by rfl) T.z_len (by decide +kernel) (pa_cons (pv 0) pa_nil)) pe_int (by first | exact nomark _ | rfl)) (pw_or1 (pt_not (pt_val (pe_callB o_isi (by rfl) T.z_isinstance (by decide +kernel) (pa_cons (pe_ix ix_seq (pv 0) pe_int (fun _ _ => rfl)) (pa_cons (pe_bltn (by rfl) T.z_str (by decide +kernel) rfl) pa_nil))))))))) (pss_one (ps_ret pe_bl)) pss_nil) (pss_cons (ps_if (pt_cmpR (o_eq hr.units) (pe_ix ix_seq (pv 0) pe_int (fun _ _ => rfl)) pe_str (by first | exact nomark _ | rfl)) (pss_one (ps_ret (pe_f c_is_number hr (by decide) (pa_cons (pe_ix ix_seq (pv 0) pe_int (fun _ _ => rfl)) pa_nil)))) pss_nil) (pss_one (ps_ret (pe_and (pe_cmpR (o_eq hr.units) (pe_ix ix_seq (pv 0) pe_int (fun _ _ => rfl)) pe_str (by first | exact nomark _ | rfl)) (pe_one (pe_f c_is_name hr (by decide) (pa_cons (pe_ix ix_seq (pv 0) pe_int (fun _ _ => rfl)) pa_nil)))))))), pure_is_end K vs H Q E h⟩
theorem ok_need_formula (T : Top K mg) : ∀ n : Nat, Cal P w K mg base (3 + n) "need_formula" (sp_need_formula K n)
  | 0 => cal_none T.f_need_formula no_need_formula
  | n + 1 => by
    have c_need_formula : Cal P w K mg base (3 + n) "need_formula" (sp_need_formula K n) := ok_need_formula T n
    have c_is_end : Cal P w K mg base 3 "is_end" (sp_is_end K) := ok_is_end T
    exact cal_of (k := 3 + n) T.f_need_formula sc_need_formula (by intro vs H Q E h; repeat (first | (obtain ⟨rfl, _⟩ := h; rfl) | (obtain ⟨_, h⟩ := h))) fun f cdv A outer s H vs Q E hr h => ⟨t_need_formula K n, PSs.nox (pss_cons (ps_if (pt_cmpR (o_eq hr.units) (pv 1) pe_int (by first | exact nomark _ | rfl)) (pss_one ps_never) pss_nil) (pss_cons (ps_if (pt_val (pe_f c_is_end hr (by omega) (pa_cons (pv 0) pa_nil))) (pss_one ps_retN) pss_nil) (pss_cons (ps_if (PW.pt (pw_or (pt_not (pt_val (pe_callB o_isi (by rfl) T.z_isinstance (by decide +kernel) (pa_cons (pv 0) (pa_cons (pe_bltn (by rfl) T.z_tuple (by decide +kernel) rfl) pa_nil))))) (pw_or (pt_cmpR (o_ne hr.units) (pe_callB o_len (by rfl) T.z_len (by decide +kernel) (pa_cons (pv 0) pa_nil)) pe_int (by first | exact nomark _ | rfl)) (pw_or (pt_not (pt_val (pe_callB o_isi (by rfl) T.z_isinstance (by decide +kernel) (pa_cons (pe_ix ix_seq (pv 0) pe_int (fun _ _ => rfl)) (pa_cons (pe_bltn (by rfl) T.z_str (by decide +kernel) rfl) pa_nil))))) (pw_or1 (pt_cmpR o_nin (pe_ix ix_seq (pv 0) pe_int (fun _ _ => rfl)) (pe_globT (by rfl) T.g_SIGNS) (by first | exact nomark _ | rfl))))))) (pss_one ps_never) pss_nil) (pss_cons (ps_expr (pe_f c_need_formula hr (by omega) (pa_cons (pe_ix ix_seq (pv 0) pe_int (fun _ _ => rfl)) (pa_cons (pe_op o_sub (pv 1) pe_int) pa_nil)))) (pss_one (ps_expr (pe_f c_need_formula hr (by omega) (pa_cons (pe_ix ix_seq (pv 0) pe_int (fun _ _ => rfl)) (pa_cons (pe_op o_sub (pv 1) pe_int) pa_nil))))))))), pure_need_formula K n vs H Q E h⟩
theorem ok_formula_of (T : Top K mg) : Cal P w K mg base 1 "formula_of" (sp_formula_of K) := by
  exact cal_of (k := 0) T.f_formula_of sc_formula_of (by intro vs H Q E h; repeat (first | (obtain ⟨rfl, _⟩ := h; rfl) | (obtain ⟨_, h⟩ := h))) fun f cdv A outer s H vs Q E hr h => ⟨t_formula_of K, PSs.nox (pss_cons (ps_if (pt_cmpR (o_eq hr.units) (pe_ix ix_seq (pv 0) pe_int (fun _ _ => rfl)) pe_str (by first | exact nomark _ | rfl)) (pss_one (ps_ret pe_non)) pss_nil) (pss_cons (ps_if (pt_cmpR (o_eq hr.units) (pe_ix ix_seq (pv 0) pe_int (fun _ _ => rfl)) pe_str (by first | exact nomark _ | rfl)) (pss_one (ps_ret (pe_ix ix_seq (pv 0) pe_int (fun _ _ => rfl)))) pss_nil) (pss_one (ps_ret (pe_ix ix_seq (pv 0) pe_int (fun _ _ => rfl)))))), pure_formula_of K vs H Q E h⟩
theorem ok_need_block_of (T : Top K mg) {n j : Nat} (hj : 21 ≤ j) (c_need_row : Cal P w K mg base j "need_row" (sp_need_row K n)) : Cal P w K mg base (j + 1) "need_block" (sp_need_block K n) := by
  have c_is_list : Cal P w K mg base 1 "is_list" (sp_is_list K) := ok_is_list T
  exact cal_of (k := j) T.f_need_block sc_need_block (by intro vs H Q E h; repeat (first | (obtain ⟨rfl, _⟩ := h; rfl) | (obtain ⟨_, h⟩ := h))) fun f cdv A outer s H vs Q E hr h => ⟨t_need_block K n, PSs.nox (pss_cons (ps_if (pt_not (pt_val (pe_f c_is_list hr (by omega) (pa_cons (pv 0) pa_nil)))) (pss_one ps_never) pss_nil) (pss_one (ps_ret (pe_callTy o_tuple (by rfl) T.z_tuple (by decide +kernel) (pa_cons (pe_lc (own := [("row", 2)]) (g := (gName 2)) (tt := tYes) rfl sc_need_block.nd (pi_seq (pv 0)) (blkOk_by (own := [("row", 2)]) (N := M_need_block) (sc := defScope s_need_block) (by decide +kernel)) (fun _ _ _ _ _ => (pg_name (i := 2) sc_need_block.nd rfl (by first | exact Or.inl rfl | exact Or.inr rfl))) (fun _ _ _ _ _ => pts_nil) (fun _ _ _ _ _ => (pe_f c_need_row hr (by omega) (pa_cons (pv 2) (pa_cons (pv 1) pa_nil))))) pa_nil))))), pure_need_block K n vs H Q E h⟩
theorem ok_need_row (T : Top K mg) : ∀ n : Nat, Cal P w K mg base (21 + 2 * n) "need_row" (sp_need_row K n)
  | 0 => cal_none T.f_need_row no_need_row
  | n + 1 => by
    have c_need_block : Cal P w K mg base (21 + 2 * n + 1) "need_block" (sp_need_block K n) := ok_need_block_of T (by omega) (ok_need_row T n)
    have c_need_form : Cal P w K mg base 2 "need_form" (sp_need_form K) := ok_need_form T
    have c_need_formula : Cal P w K mg base 21 "need_formula" (sp_need_formula K 18) := ok_need_formula T 18
    have c_formula_of : Cal P w K mg base 1 "formula_of" (sp_formula_of K) := ok_formula_of T
    have c_blocks_of : Cal P w K mg base 1 "blocks_of" (sp_blocks_of K) := ok_blocks_of T
    exact (cal_of (k := 21 + 2 * n + 1) T.f_need_row sc_need_row (by intro vs H Q E h; repeat (first | (obtain ⟨rfl, _⟩ := h; rfl) | (obtain ⟨_, h⟩ := h))) fun f cdv A outer s H vs Q E hr h => ⟨t_need_row K n, PSs.nox (pss_cons (ps_expr (pe_f c_need_form hr (by omega) (pa_cons (pv 0) pa_nil))) (pss_cons (ps_if (pt_cmpR o_gt (pv 1) (pe_globI (by rfl) T.g_DEEPEST_ROW) (by first | exact nomark _ | rfl)) (pss_one ps_never) pss_nil) (pss_cons (ps_if (pt_cmpR (o_ne hr.units) (pe_ix ix_seq (pv 0) pe_int (fun _ _ => rfl)) pe_str (by first | exact nomark _ | rfl)) (pss_one (ps_expr (pe_f c_need_formula hr (by omega) (pa_cons (pe_f c_formula_of hr (by omega) (pa_cons (pv 0) pa_nil)) (pa_cons (pe_globI (by rfl) T.g_MOST_DEEP) pa_nil))))) pss_nil) (pss_cons (ps_setLc (i := 2) (own := [("block", 3)]) (g := (gName 3)) (tt := tYes) rfl sc_need_row.nd rfl rfl (sw_true rfl rfl rfl (by decide +kernel)) (pi_seq (pe_f c_blocks_of hr (by omega) (pa_cons (pv 0) pa_nil))) (blkOk_by (own := [("block", 3)]) (N := M_need_row) (sc := defScope s_need_row) (by decide +kernel)) (fun _ _ _ _ _ => (pg_name (i := 3) sc_need_row.nd rfl (by first | exact Or.inl rfl | exact Or.inr rfl))) (fun _ _ _ _ _ => pts_nil) (fun _ _ _ _ _ => (pe_f c_need_block hr (by omega) (pa_cons (pv 3) (pa_cons (pe_op o_add (pv 1) pe_int) pa_nil))))) (pss_cons (ps_if (PW.pt (pw_or (pt_cmpR (o_eq hr.units) (pe_ix ix_seq (pv 0) pe_int (fun _ _ => rfl)) pe_str (by first | exact nomark _ | rfl)) (pw_or1 (pt_cmpR (o_eq hr.units) (pe_ix ix_seq (pv 0) pe_int (fun _ _ => rfl)) pe_str (by first | exact nomark _ | rfl))))) (pss_one (ps_ret (pe_op o_add (pe_tup (pa_cons (pe_ix ix_seq (pv 0) pe_int (fun _ _ => rfl)) (pa_cons (pe_ix ix_seq (pv 0) pe_int (fun _ _ => rfl)) pa_nil))) (pe_callTy o_tuple (by rfl) T.z_tuple (by decide +kernel) (pa_cons (pv 2) pa_nil))))) pss_nil) (pss_one (ps_ret (pv 0)))))))), pure_need_row K n vs H Q E h⟩).mono (by omega)
theorem ok_need_block (T : Top K mg) (n : Nat) : Cal P w K mg base (21 + 2 * n + 1) "need_block" (sp_need_block K n) := ok_need_block_of T (by omega) (ok_need_row T n)
theorem ok_Program___init__ (T : Top K mg) : CalC P w K mg base 39 "Program" as_Program (sp_Program___init__ K) := by
  obtain ⟨C, cc, hm, hi, h_told, h_names, h_block⟩ := T.c_Program
  have c_need_names : Cal P w K mg base 2 "need_names" (sp_need_names K) := ok_need_names T
  have c_need_block : Cal P w K mg base 38 "need_block" (sp_need_block K 8) := ok_need_block T 8
  exact calC_of (k := 38) cc hm hi sc_Program___init__ (by intro vs H Q E h; repeat (first | (obtain ⟨rfl, _⟩ := h; rfl) | (obtain ⟨_, h⟩ := h))) fun f cdv A outer s H vs Q E hr h => ⟨t_Program___init__ K, PSs.nox (pss_cons (ps_fld (pv 0) (pe_f c_need_names hr (by decide) (pa_cons (pv 1) (pa_cons (pe_lst pa_nil) pa_nil))) rfl) (pss_cons (ps_fld (pv 0) (pe_f c_need_names hr (by decide) (pa_cons (pv 2) (pa_cons (pe_fld (pv 0) rfl) pa_nil))) rfl) (pss_one (ps_fld (pv 0) (pe_f c_need_block hr (by decide) (pa_cons (pv 3) (pa_cons pe_int pa_nil))) rfl)))), pure_Program___init__ K vs H Q E h⟩
theorem ok_law_values (T : Top K mg) : Cal P w K mg base 2 "_law_values" (sp_law_values K) := by
  have c_law_mixed : Cal P w K mg base 1 "_law_mixed" (sp_law_mixed K) := ok_law_mixed T
  have c_law_cell_at : Cal P w K mg base 1 "_law_cell_at" (sp_law_cell_at K) := ok_law_cell_at T
  exact cal_of (k := 1) T.f_law_values sc_law_values (by intro vs H Q E h; repeat (first | (obtain ⟨rfl, _⟩ := h; rfl) | (obtain ⟨_, h⟩ := h))) fun f cdv A outer s H vs Q E hr h => ⟨t_law_values K, PSs.nox (pss_cons (ps_set (i := 3) sc_law_values.nd rfl (by first | exact Or.inl rfl | exact Or.inr rfl) pe_dnewK) (pss_cons (ps_for PassesOwn.never rfl (pi_enum (by rfl) T.z_enumerate (pa_cons (pv 2) pa_nil)) (pg_tup rfl (pgs_cons (pg_name (i := 4) sc_law_values.nd rfl (by first | exact Or.inl rfl | exact Or.inr rfl)) (pgs_cons (pg_name (i := 5) sc_law_values.nd rfl (by first | exact Or.inl rfl | exact Or.inr rfl)) pgs_nil))) (pss_cons (ps_set (i := 6) sc_law_values.nd rfl (by first | exact Or.inl rfl | exact Or.inr rfl) (pe_f c_law_mixed hr (by decide) (pa_cons (pe_f c_law_cell_at hr (by decide) (pa_cons (pv 0) (pa_cons (pe_op o_add (pv 1) (pv 4)) pa_nil))) pa_nil))) (pss_one (ps_dput (hu_of hr) (pv 3) (pv 5) (pe_ix ix_seq (pe_lst (pa_cons (pe_op o_mod (pe_op o_div (pv 6) pe_int) pe_int) (pa_cons (pe_op o_mod (pe_op o_div (pv 6) pe_int) (pe_op o_pow pe_int pe_int)) pa_nil))) (pe_callTy o_int (by rfl) T.z_int (by decide +kernel) (pa_cons (pe_cmpR o_gt (pe_op o_mod (pv 6) pe_int) pe_int (by first | exact nomark _ | rfl)) pa_nil)) (fun _ _ => rfl)) rfl)))) (pss_one (ps_ret (pv 3))))), pure_law_values K vs H Q E h⟩
theorem ok_Program_told (T : Top K mg) : CalM P w K mg base 1 "Program" as_Program "told" (sp_Program_told K) := by
  obtain ⟨C, cc, hm, hi, h_told, h_names, h_block⟩ := T.c_Program
  exact calM_of (k := 0) cc h_told sc_Program_told (by intro vs H Q E h; repeat (first | (obtain ⟨rfl, _⟩ := h; rfl) | (obtain ⟨_, h⟩ := h))) fun f cdv A outer s H vs Q E hr h => ⟨t_Program_told K, PSs.nox (pss_one (ps_ret (pe_tup (pa_cons (pe_callTy (o_list rfl) (by rfl) T.z_list (by decide +kernel) (pa_cons (pe_fld (pv 0) rfl) pa_nil)) (pa_cons (pe_callTy (o_list rfl) (by rfl) T.z_list (by decide +kernel) (pa_cons (pe_fld (pv 0) rfl) pa_nil)) pa_nil))))), pure_Program_told K vs H Q E h⟩
theorem ok_need_values (T : Top K mg) : Cal P w K mg base 3 "need_values" (sp_need_values K) := by
  have c_Program_told : CalM P w K mg base 1 "Program" as_Program "told" (sp_Program_told K) := ok_Program_told T
  have c_is_number : Cal P w K mg base 2 "is_number" (sp_is_number K) := ok_is_number T
  exact cal_of (k := 2) T.f_need_values sc_need_values (by intro vs H Q E h; repeat (first | (obtain ⟨rfl, _⟩ := h; rfl) | (obtain ⟨_, h⟩ := h))) fun f cdv A outer s H vs Q E hr h => ⟨t_need_values K, PSs.nox (pss_cons (ps_set (i := 2) sc_need_values.nd rfl (by first | exact Or.inl rfl | exact Or.inr rfl) (pe_m0 c_Program_told hr (by decide) (pv 0))) (pss_cons (ps_if (PW.pt (pw_or (pt_not (pt_val (pe_callB o_isi (by rfl) T.z_isinstance (by decide +kernel) (pa_cons (pv 1) (pa_cons (pe_bltn (by rfl) T.z_dict (by decide +kernel) rfl) pa_nil))))) (pw_or1 (pt_cmpR (o_ne hr.units) (pe_callB call_lenD (by rfl) T.z_len (by decide +kernel) (pa_cons (pv 1) pa_nil)) (pe_op o_add (pe_callB o_len (by rfl) T.z_len (by decide +kernel) (pa_cons (pe_ix ix_seq (pv 2) pe_int (fun _ _ => rfl)) pa_nil)) (pe_callB o_len (by rfl) T.z_len (by decide +kernel) (pa_cons (pe_ix ix_seq (pv 2) pe_int (fun _ _ => rfl)) pa_nil))) (by first | exact nomark _ | rfl))))) (pss_one ps_never) pss_nil) (pss_one (ps_for PassesOwn.never rfl (pi_seq (pe_op o_add (pe_ix ix_seq (pv 2) pe_int (fun _ _ => rfl)) (pe_ix ix_seq (pv 2) pe_int (fun _ _ => rfl)))) (pg_name (i := 3) sc_need_values.nd rfl (by first | exact Or.inl rfl | exact Or.inr rfl)) (pss_one (ps_if (PW.pt (pw_or (pt_cmpR (o_ndin hr.units) (pv 3) (pv 1) (by first | exact nomark _ | rfl)) (pw_or1 (pt_not (pt_val (pe_f c_is_number hr (by decide) (pa_cons (pe_dget (hu_of hr) (pv 1) (pv 3) (fun _ _ => rfl)) pa_nil))))))) (pss_one ps_never) pss_nil)))))), pure_need_values K vs H Q E h⟩
theorem ok_all_names (T : Top K mg) : ∀ n : Nat, Cal P w K mg base (0 + n) "all_names" (sp_all_names K n)
  | 0 => cal_none T.f_all_names no_all_names
  | n + 1 => by
    have c_all_names : Cal P w K mg base (0 + n) "all_names" (sp_all_names K n) := ok_all_names T n
    exact cal_of (k := 0 + n) T.f_all_names sc_all_names (by intro vs H Q E h; repeat (first | (obtain ⟨rfl, _⟩ := h; rfl) | (obtain ⟨_, h⟩ := h))) fun f cdv A outer s H vs Q E hr h => ⟨t_all_names K n, PSs.nox (pss_cons (ps_if (pt_cmpR (o_eq hr.units) (pe_ix ix_seq (pv 0) pe_int (fun _ _ => rfl)) pe_str (by first | exact nomark _ | rfl)) (pss_one (ps_ret (pe_lst pa_nil))) pss_nil) (pss_cons (ps_if (pt_cmpR (o_eq hr.units) (pe_ix ix_seq (pv 0) pe_int (fun _ _ => rfl)) pe_str (by first | exact nomark _ | rfl)) (pss_one (ps_ret (pe_lst (pa_cons (pe_ix ix_seq (pv 0) pe_int (fun _ _ => rfl)) pa_nil)))) pss_nil) (pss_one (ps_ret (pe_op o_add (pe_f c_all_names hr (by omega) (pa_cons (pe_ix ix_seq (pv 0) pe_int (fun _ _ => rfl)) pa_nil)) (pe_f c_all_names hr (by omega) (pa_cons (pe_ix ix_seq (pv 0) pe_int (fun _ _ => rfl)) pa_nil))))))), pure_all_names K n vs H Q E h⟩
theorem ok_names_in (T : Top K mg) : Cal P w K mg base 19 "names_in" (sp_names_in K) := by
  have c_all_names : Cal P w K mg base 18 "all_names" (sp_all_names K 18) := ok_all_names T 18
  exact cal_of (k := 18) T.f_names_in sc_names_in (by intro vs H Q E h; repeat (first | (obtain ⟨rfl, _⟩ := h; rfl) | (obtain ⟨_, h⟩ := h))) fun f cdv A outer s H vs Q E hr h => ⟨t_names_in K, PSs.nox (pss_one (ps_ret (pe_sortSet rfl (by rfl) T.z_sorted (by rfl) T.z_set (pe_f c_all_names hr (by decide) (pa_cons (pv 0) pa_nil))))), pure_names_in K vs H Q E h⟩
theorem ok_all_in (T : Top K mg) : ∀ n : Nat, Cal P w K mg base (19 + n) "all_in" (sp_all_in K n)
  | 0 => cal_none T.f_all_in no_all_in
  | n + 1 => by
    have c_all_in : Cal P w K mg base (19 + n) "all_in" (sp_all_in K n) := ok_all_in T n
    have c_names_in : Cal P w K mg base 19 "names_in" (sp_names_in K) := ok_names_in T
    have c_formula_of : Cal P w K mg base 1 "formula_of" (sp_formula_of K) := ok_formula_of T
    have c_blocks_of : Cal P w K mg base 1 "blocks_of" (sp_blocks_of K) := ok_blocks_of T
    exact cal_of (k := 19 + n) T.f_all_in sc_all_in (by intro vs H Q E h; repeat (first | (obtain ⟨rfl, _⟩ := h; rfl) | (obtain ⟨_, h⟩ := h))) fun f cdv A outer s H vs Q E hr h => ⟨t_all_in K n, PSs.nox (pss_cons (ps_set (i := 1) sc_all_in.nd rfl (by first | exact Or.inl rfl | exact Or.inr rfl) (pe_lst pa_nil)) (pss_cons (ps_for PassesOwn.never rfl (pi_seq (pv 0)) (pg_name (i := 2) sc_all_in.nd rfl (by first | exact Or.inl rfl | exact Or.inr rfl)) (pss_cons (ps_if (pt_cmpR (o_eq hr.units) (pe_ix ix_seq (pv 2) pe_int (fun _ _ => rfl)) pe_str (by first | exact nomark _ | rfl)) (pss_one (ps_expr (pe_bm PySem.F.plainAttrs_list PySem.F.slot_list_append PySem.F.type_list_append mt_append (pv 1) (pa_cons (pe_ix ix_seq (pv 2) pe_int (fun _ _ => rfl)) pa_nil)))) pss_nil) (pss_cons (ps_if (pt_cmpR (o_ne hr.units) (pe_ix ix_seq (pv 2) pe_int (fun _ _ => rfl)) pe_str (by first | exact nomark _ | rfl)) (pss_one (ps_set (i := 1) sc_all_in.nd rfl (by first | exact Or.inl rfl | exact Or.inr rfl) (pe_op o_add (pv 1) (pe_f c_names_in hr (by omega) (pa_cons (pe_f c_formula_of hr (by omega) (pa_cons (pv 2) pa_nil)) pa_nil))))) pss_nil) (pss_one (ps_for PassesOwn.never rfl (pi_seq (pe_f c_blocks_of hr (by omega) (pa_cons (pv 2) pa_nil))) (pg_name (i := 3) sc_all_in.nd rfl (by first | exact Or.inl rfl | exact Or.inr rfl)) (pss_one (ps_set (i := 1) sc_all_in.nd rfl (by first | exact Or.inl rfl | exact Or.inr rfl) (pe_op o_add (pv 1) (pe_f c_all_in hr (by omega) (pa_cons (pv 3) pa_nil)))))))))) (pss_one (ps_ret (pv 1))))), pure_all_in K n vs H Q E h⟩
theorem ok_Program_names (T : Top K mg) : CalM P w K mg base 29 "Program" as_Program "names" (sp_Program_names K) := by
  obtain ⟨C, cc, hm, hi, h_told, h_names, h_block⟩ := T.c_Program
  have c_all_in : Cal P w K mg base 28 "all_in" (sp_all_in K 9) := ok_all_in T 9
  exact calM_of (k := 28) cc h_names sc_Program_names (by intro vs H Q E h; repeat (first | (obtain ⟨rfl, _⟩ := h; rfl) | (obtain ⟨_, h⟩ := h))) fun f cdv A outer s H vs Q E hr h => ⟨t_Program_names K, PSs.nox (pss_one (ps_ret (pe_sortSet rfl (by rfl) T.z_sorted (by rfl) T.z_set (pe_op o_add (pe_op o_add (pe_fld (pv 0) rfl) (pe_fld (pv 0) rfl)) (pe_f c_all_in hr (by decide) (pa_cons (pe_fld (pv 0) rfl) pa_nil)))))), pure_Program_names K vs H Q E h⟩
theorem ok_Runner___init__ (T : Top K mg) : CalC P w K mg base 1 "Runner" as_Runner (sp_Runner___init__ K) := by
  obtain ⟨C, cc, hm, hi, h_stops⟩ := T.c_Runner
  exact calC_of (k := 0) cc hm hi sc_Runner___init__ (by intro vs H Q E h; repeat (first | (obtain ⟨rfl, _⟩ := h; rfl) | (obtain ⟨_, h⟩ := h))) fun f cdv A outer s H vs Q E hr h => ⟨t_Runner___init__ K, PSs.nox (pss_cons (ps_fld (pv 0) (pv 1) rfl) (pss_cons (ps_fld (pv 0) (pv 2) rfl) (pss_cons (ps_fld (pv 0) (pe_lst pa_nil) rfl) (pss_cons (ps_fld (pv 0) pe_str rfl) (pss_one (ps_fld (pv 0) pe_int rfl)))))), pure_Runner___init__ K vs H Q E h⟩
theorem ok_put_together (T : Top K mg) : Cal P w K mg base 1 "put_together" (sp_put_together K) := by
  exact cal_of (k := 0) T.f_put_together sc_put_together (by intro vs H Q E h; repeat (first | (obtain ⟨rfl, _⟩ := h; rfl) | (obtain ⟨_, h⟩ := h))) fun f cdv A outer s H vs Q E hr h => ⟨t_put_together K, PSs.nox (pss_cons (ps_if (pt_cmpR (o_eq hr.units) (pv 0) pe_str (by first | exact nomark _ | rfl)) (pss_one (ps_ret (pe_op o_mod (pe_op o_add (pv 1) (pv 2)) (pe_globI (by rfl) T.g_LIMIT)))) pss_nil) (pss_cons (ps_if (pt_cmpR (o_eq hr.units) (pv 0) pe_str (by first | exact nomark _ | rfl)) (pss_one (ps_ret (pe_op o_mod (pe_op o_sub (pv 1) (pv 2)) (pe_globI (by rfl) T.g_LIMIT)))) pss_nil) (pss_cons (ps_if (pt_cmpR (o_eq hr.units) (pv 0) pe_str (by first | exact nomark _ | rfl)) (pss_one (ps_ret (pe_op o_mod (pe_op o_mul (pv 1) (pv 2)) (pe_globI (by rfl) T.g_LIMIT)))) pss_nil) (pss_cons (ps_if (pt_cmpR (o_eq hr.units) (pv 0) pe_str (by first | exact nomark _ | rfl)) (pss_one (ps_ret (pe_callTy o_int (by rfl) T.z_int (by decide +kernel) (pa_cons (pe_cmpR o_lt (pv 1) (pv 2) (by first | exact nomark _ | rfl)) pa_nil)))) pss_nil) (pss_cons (ps_if (pt_cmpR (o_eq hr.units) (pv 0) pe_str (by first | exact nomark _ | rfl)) (pss_one (ps_ret (pe_callTy o_int (by rfl) T.z_int (by decide +kernel) (pa_cons (pe_cmpR (o_eq hr.units) (pv 1) (pv 2) (by first | exact nomark _ | rfl)) pa_nil)))) pss_nil) (pss_cons (ps_if (pt_cmpR (o_eq hr.units) (pv 2) pe_int (by first | exact nomark _ | rfl)) (pss_one (ps_ret pe_non)) pss_nil) (pss_one (ps_ret (pe_op o_div (pv 1) (pv 2)))))))))), pure_put_together K vs H Q E h⟩
theorem ok_reckoned (T : Top K mg) : ∀ n : Nat, Cal P w K mg base (1 + n) "reckoned" (sp_reckoned K n)
  | 0 => cal_none T.f_reckoned no_reckoned
  | n + 1 => by
    have c_reckoned : Cal P w K mg base (1 + n) "reckoned" (sp_reckoned K n) := ok_reckoned T n
    have c_put_together : Cal P w K mg base 1 "put_together" (sp_put_together K) := ok_put_together T
    exact cal_of (k := 1 + n) T.f_reckoned sc_reckoned (by intro vs H Q E h; repeat (first | (obtain ⟨rfl, _⟩ := h; rfl) | (obtain ⟨_, h⟩ := h))) fun f cdv A outer s H vs Q E hr h => ⟨t_reckoned K n, PSs.nox (pss_cons (ps_if (pt_cmpR (o_eq hr.units) (pe_ix ix_seq (pv 0) pe_int (fun _ _ => rfl)) pe_str (by first | exact nomark _ | rfl)) (pss_one (ps_ret (pe_ix ix_seq (pv 0) pe_int (fun _ _ => rfl)))) pss_nil) (pss_cons (ps_if (pt_cmpR (o_eq hr.units) (pe_ix ix_seq (pv 0) pe_int (fun _ _ => rfl)) pe_str (by first | exact nomark _ | rfl)) (pss_one (ps_ret (pe_dget (hu_of hr) (pv 1) (pe_ix ix_seq (pv 0) pe_int (fun _ _ => rfl)) (fun _ _ => rfl)))) pss_nil) (pss_cons (ps_set (i := 2) sc_reckoned.nd rfl (by first | exact Or.inl rfl | exact Or.inr rfl) (pe_f c_reckoned hr (by omega) (pa_cons (pe_ix ix_seq (pv 0) pe_int (fun _ _ => rfl)) (pa_cons (pv 1) pa_nil)))) (pss_cons (ps_set (i := 3) sc_reckoned.nd rfl (by first | exact Or.inl rfl | exact Or.inr rfl) (pe_f c_reckoned hr (by omega) (pa_cons (pe_ix ix_seq (pv 0) pe_int (fun _ _ => rfl)) (pa_cons (pv 1) pa_nil)))) (pss_cons (ps_if (PW.pt (pw_or (pt_cmpR o_isN (pv 2) pe_non (by first | exact nomark _ | rfl)) (pw_or1 (pt_cmpR o_isN (pv 3) pe_non (by first | exact nomark _ | rfl))))) (pss_one (ps_ret pe_non)) pss_nil) (pss_one (ps_ret (pe_f c_put_together hr (by omega) (pa_cons (pe_ix ix_seq (pv 0) pe_int (fun _ _ => rfl)) (pa_cons (pv 2) (pa_cons (pv 3) pa_nil))))))))))), pure_reckoned K n vs H Q E h⟩
theorem ok_Runner_stops (T : Top K mg) : CalM P w K mg base 1 "Runner" as_Runner "stops" (sp_Runner_stops K) := by
  obtain ⟨C, cc, hm, hi, h_stops⟩ := T.c_Runner
  exact calM_of (k := 0) cc h_stops sc_Runner_stops (by intro vs H Q E h; repeat (first | (obtain ⟨rfl, _⟩ := h; rfl) | (obtain ⟨_, h⟩ := h))) fun f cdv A outer s H vs Q E hr h => ⟨t_Runner_stops K, PSs.nox (pss_cons (ps_fld (pv 0) (pv 1) rfl) (pss_cons (ps_fld (pv 0) (pv 2) rfl) (pss_one (ps_ret pe_bl)))), pure_Runner_stops K vs H Q E h⟩
theorem ok_many_in_of (T : Top K mg) {n j : Nat} (hj : 1 ≤ j) (c_size_of : Cal P w K mg base j "size_of" (sp_size_of K n)) : Cal P w K mg base (j + 1) "many_in" (sp_many_in K n) := by
  exact cal_of (k := j) T.f_many_in sc_many_in (by intro vs H Q E h; repeat (first | (obtain ⟨rfl, _⟩ := h; rfl) | (obtain ⟨_, h⟩ := h))) fun f cdv A outer s H vs Q E hr h => ⟨t_many_in K n, PSs.nox (pss_one (ps_ret (pe_callB (cr_sum rfl) (by rfl) T.z_sum (by decide +kernel) (pa_cons (pe_lc (own := [("row", 1)]) (g := (gName 1)) (tt := tYes) rfl sc_many_in.nd (pi_seq (pv 0)) (blkOk_by (own := [("row", 1)]) (N := M_many_in) (sc := defScope s_many_in) (by decide +kernel)) (fun _ _ _ _ _ => (pg_name (i := 1) sc_many_in.nd rfl (by first | exact Or.inl rfl | exact Or.inr rfl))) (fun _ _ _ _ _ => pts_nil) (fun _ _ _ _ _ => (pe_f c_size_of hr (by omega) (pa_cons (pv 1) pa_nil)))) pa_nil)))), pure_many_in K n vs H Q E h⟩
theorem ok_size_of (T : Top K mg) : ∀ n : Nat, Cal P w K mg base (1 + 2 * n) "size_of" (sp_size_of K n)
  | 0 => cal_none T.f_size_of no_size_of
  | n + 1 => by
    have c_many_in : Cal P w K mg base (1 + 2 * n + 1) "many_in" (sp_many_in K n) := ok_many_in_of T (by omega) (ok_size_of T n)
    have c_blocks_of : Cal P w K mg base 1 "blocks_of" (sp_blocks_of K) := ok_blocks_of T
    exact (cal_of (k := 1 + 2 * n + 1) T.f_size_of sc_size_of (by intro vs H Q E h; repeat (first | (obtain ⟨rfl, _⟩ := h; rfl) | (obtain ⟨_, h⟩ := h))) fun f cdv A outer s H vs Q E hr h => ⟨t_size_of K n, PSs.nox (pss_one (ps_ret (pe_op o_add pe_int (pe_callB (cr_sum rfl) (by rfl) T.z_sum (by decide +kernel) (pa_cons (pe_lc (own := [("block", 1)]) (g := (gName 1)) (tt := tYes) rfl sc_size_of.nd (pi_seq (pe_f c_blocks_of hr (by omega) (pa_cons (pv 0) pa_nil))) (blkOk_by (own := [("block", 1)]) (N := M_size_of) (sc := defScope s_size_of) (by decide +kernel)) (fun _ _ _ _ _ => (pg_name (i := 1) sc_size_of.nd rfl (by first | exact Or.inl rfl | exact Or.inr rfl))) (fun _ _ _ _ _ => pts_nil) (fun _ _ _ _ _ => (pe_f c_many_in hr (by omega) (pa_cons (pv 1) pa_nil)))) pa_nil))))), pure_size_of K n vs H Q E h⟩).mono (by omega)
theorem ok_many_in (T : Top K mg) (n : Nat) : Cal P w K mg base (1 + 2 * n + 1) "many_in" (sp_many_in K n) := ok_many_in_of T (by omega) (ok_size_of T n)
theorem ok_gone_of (T : Top K mg) {n j : Nat} (hj : 19 ≤ j) (c_stepped : Cal P w K mg base j "stepped" (sp_stepped K n)) : Cal P w K mg base (j + 1) "gone" (sp_gone K n) := by
  have c_size_of : Cal P w K mg base 17 "size_of" (sp_size_of K 8) := ok_size_of T 8
  exact cal_of (k := j) T.f_gone sc_gone (by intro vs H Q E h; repeat (first | (obtain ⟨rfl, _⟩ := h; rfl) | (obtain ⟨_, h⟩ := h))) fun f cdv A outer s H vs Q E hr h => ⟨t_gone K n, PSs.nox (pss_cons (ps_for PassesOwn.never rfl (pi_seq (pv 1)) (pg_name (i := 3) sc_gone.nd rfl (by first | exact Or.inl rfl | exact Or.inr rfl)) (pss_cons (ps_if (pt_not (pt_val (pe_f c_stepped hr (by omega) (pa_cons (pv 0) (pa_cons (pv 3) (pa_cons (pv 2) pa_nil)))))) (pss_one (ps_ret pe_bl)) pss_nil) (pss_one (ps_set (i := 2) sc_gone.nd rfl (by first | exact Or.inl rfl | exact Or.inr rfl) (pe_op o_add (pv 2) (pe_f c_size_of hr (by omega) (pa_cons (pv 3) pa_nil))))))) (pss_one (ps_ret pe_bl))), pure_gone K n vs H Q E h⟩
theorem ok_turned_of (T : Top K mg) {n j : Nat} (hj : 19 ≤ j) (c_gone : Cal P w K mg base j "gone" (sp_gone K n)) : Cal P w K mg base (j + 1) "turned" (sp_turned K (n + 1)) := by
  have c_reckoned : Cal P w K mg base 19 "reckoned" (sp_reckoned K 18) := ok_reckoned T 18
  have c_Runner_stops : CalM P w K mg base 1 "Runner" as_Runner "stops" (sp_Runner_stops K) := ok_Runner_stops T
  exact cal_of (k := j) T.f_turned sc_turned (by intro vs H Q E h; repeat (first | (obtain ⟨rfl, _⟩ := h; rfl) | (obtain ⟨_, h⟩ := h))) fun f cdv A outer s H vs Q E hr h => ⟨t_turned K n, PSs.nox (pss_one (ps_while PassesOwn.never (pt_val pe_bl) (pss_cons (ps_set (i := 3) sc_turned.nd rfl (by first | exact Or.inl rfl | exact Or.inr rfl) (pe_f c_reckoned hr (by omega) (pa_cons (pe_ix ix_seq (pv 1) pe_int (fun _ _ => rfl)) (pa_cons (pe_fld (pv 0) rfl) pa_nil)))) (pss_cons (ps_if (pt_cmpR o_isN (pv 3) pe_non (by first | exact nomark _ | rfl)) (pss_one (ps_ret (pe_m c_Runner_stops hr (by omega) (pv 0) (pa_cons pe_str (pa_cons (pv 2) pa_nil))))) pss_nil) (pss_cons (ps_if (pt_cmpR (o_eq hr.units) (pv 3) pe_int (by first | exact nomark _ | rfl)) (pss_one (ps_ret pe_bl)) pss_nil) (pss_cons (ps_if (pt_cmpR (o_eq hr.units) (pe_fld (pv 0) rfl) pe_int (by first | exact nomark _ | rfl)) (pss_one (ps_ret (pe_m c_Runner_stops hr (by omega) (pv 0) (pa_cons pe_str (pa_cons (pv 2) pa_nil))))) pss_nil) (pss_cons (ps_fld (pv 0) (pe_op o_sub (pe_fld (pv 0) rfl) pe_int) rfl) (pss_one (ps_if (pt_not (pt_val (pe_f c_gone hr (by omega) (pa_cons (pv 0) (pa_cons (pe_ix ix_seq (pv 1) pe_int (fun _ _ => rfl)) (pa_cons (pe_op o_add (pv 2) pe_int) pa_nil)))))) (pss_one (ps_ret pe_bl)) pss_nil))))))))), pure_turned K n vs H Q E h⟩
theorem ok_stepped (T : Top K mg) : ∀ n : Nat, Cal P w K mg base (19 + 3 * n) "stepped" (sp_stepped K n)
  | 0 => cal_none T.f_stepped no_stepped
  | n + 1 => by
    have c_gone : Cal P w K mg base (19 + 3 * n + 1) "gone" (sp_gone K n) := ok_gone_of T (by omega) (ok_stepped T n)
    have c_turned : Cal P w K mg base (19 + 3 * n + 2) "turned" (sp_turned K (n + 1)) := ok_turned_of T (by omega) c_gone
    have c_reckoned : Cal P w K mg base 19 "reckoned" (sp_reckoned K 18) := ok_reckoned T 18
    have c_formula_of : Cal P w K mg base 1 "formula_of" (sp_formula_of K) := ok_formula_of T
    have c_Runner_stops : CalM P w K mg base 1 "Runner" as_Runner "stops" (sp_Runner_stops K) := ok_Runner_stops T
    have c_many_in : Cal P w K mg base 18 "many_in" (sp_many_in K 8) := ok_many_in T 8
    exact (cal_of (k := 19 + 3 * n + 2) T.f_stepped sc_stepped (by intro vs H Q E h; repeat (first | (obtain ⟨rfl, _⟩ := h; rfl) | (obtain ⟨_, h⟩ := h))) fun f cdv A outer s H vs Q E hr h => ⟨t_stepped K n, PSs.nox (pss_cons (ps_if (pt_cmpR (o_eq hr.units) (pe_ix ix_seq (pv 1) pe_int (fun _ _ => rfl)) pe_str (by first | exact nomark _ | rfl)) (pss_one (ps_ret pe_bl)) pss_nil) (pss_cons (ps_if (pt_cmpR (o_eq hr.units) (pe_ix ix_seq (pv 1) pe_int (fun _ _ => rfl)) pe_str (by first | exact nomark _ | rfl)) (pss_one (ps_ret (pe_f c_turned hr (by omega) (pa_cons (pv 0) (pa_cons (pv 1) (pa_cons (pv 2) pa_nil)))))) pss_nil) (pss_cons (ps_set (i := 3) sc_stepped.nd rfl (by first | exact Or.inl rfl | exact Or.inr rfl) (pe_f c_reckoned hr (by omega) (pa_cons (pe_f c_formula_of hr (by omega) (pa_cons (pv 1) pa_nil)) (pa_cons (pe_fld (pv 0) rfl) pa_nil)))) (pss_cons (ps_if (pt_cmpR o_isN (pv 3) pe_non (by first | exact nomark _ | rfl)) (pss_one (ps_ret (pe_m c_Runner_stops hr (by omega) (pv 0) (pa_cons pe_str (pa_cons (pv 2) pa_nil))))) pss_nil) (pss_cons (ps_if (pt_cmpR (o_eq hr.units) (pe_ix ix_seq (pv 1) pe_int (fun _ _ => rfl)) pe_str (by first | exact nomark _ | rfl)) (pss_one (ps_dput (hu_of hr) (pe_fld (pv 0) rfl) (pe_ix ix_seq (pv 1) pe_int (fun _ _ => rfl)) (pv 3) rfl)) (pss_one (ps_if (pt_cmpR (o_eq hr.units) (pe_ix ix_seq (pv 1) pe_int (fun _ _ => rfl)) pe_str (by first | exact nomark _ | rfl)) (pss_one (ps_expr (pe_bm PySem.F.plainAttrs_list PySem.F.slot_list_append PySem.F.type_list_append mt_append (pe_fld (pv 0) rfl) (pa_cons (pv 3) pa_nil)))) (pss_one (ps_if (pt_cmpR (o_ne hr.units) (pv 3) pe_int (by first | exact nomark _ | rfl)) (pss_one (ps_ret (pe_f c_gone hr (by omega) (pa_cons (pv 0) (pa_cons (pe_ix ix_seq (pv 1) pe_int (fun _ _ => rfl)) (pa_cons (pe_op o_add (pv 2) pe_int) pa_nil)))))) (pss_one (ps_ret (pe_f c_gone hr (by omega) (pa_cons (pv 0) (pa_cons (pe_ix ix_seq (pv 1) pe_int (fun _ _ => rfl)) (pa_cons (pe_op o_add (pe_op o_add (pv 2) pe_int) (pe_f c_many_in hr (by omega) (pa_cons (pe_ix ix_seq (pv 1) pe_int (fun _ _ => rfl)) pa_nil))) pa_nil))))))))))) (pss_one (ps_ret pe_bl))))))), pure_stepped K n vs H Q E h⟩).mono (by omega)
theorem ok_gone (T : Top K mg) (n : Nat) : Cal P w K mg base (19 + 3 * n + 1) "gone" (sp_gone K n) := ok_gone_of T (by omega) (ok_stepped T n)
theorem ok_Program_block (T : Top K mg) : CalM P w K mg base 1 "Program" as_Program "block" (sp_Program_block K) := by
  obtain ⟨C, cc, hm, hi, h_told, h_names, h_block⟩ := T.c_Program
  exact calM_of (k := 0) cc h_block sc_Program_block (by intro vs H Q E h; repeat (first | (obtain ⟨rfl, _⟩ := h; rfl) | (obtain ⟨_, h⟩ := h))) fun f cdv A outer s H vs Q E hr h => ⟨t_Program_block K, PSs.nox (pss_one (ps_ret (pe_fld (pv 0) rfl))), pure_Program_block K vs H Q E h⟩
theorem ok_run (T : Top K mg) : Cal P w K mg base 45 "run" (sp_run K) := by
  have c_need_values : Cal P w K mg base 3 "need_values" (sp_need_values K) := ok_need_values T
  have c_is_whole : Cal P w K mg base 1 "is_whole" (sp_is_whole K) := ok_is_whole T
  have c_Program_names : CalM P w K mg base 29 "Program" as_Program "names" (sp_Program_names K) := ok_Program_names T
  have c_Runner___init__ : CalC P w K mg base 1 "Runner" as_Runner (sp_Runner___init__ K) := ok_Runner___init__ T
  have c_gone : Cal P w K mg base 44 "gone" (sp_gone K 8) := ok_gone T 8
  have c_Program_block : CalM P w K mg base 1 "Program" as_Program "block" (sp_Program_block K) := ok_Program_block T
  exact cal_of (k := 44) T.f_run sc_run (by intro vs H Q E h; repeat (first | (obtain ⟨rfl, _⟩ := h; rfl) | (obtain ⟨_, h⟩ := h))) fun f cdv A outer s H vs Q E hr h => ⟨t_run K, PSs.nox (pss_cons (ps_expr (pe_f c_need_values hr (by decide) (pa_cons (pv 0) (pa_cons (pv 1) pa_nil)))) (pss_cons (ps_if (PW.pt (pw_or (pt_not (pt_val (pe_f c_is_whole hr (by decide) (pa_cons (pv 2) pa_nil)))) (pw_or1 (pt_not (pt_chain o_le o_le pe_int (pv 2) (pe_globI (by rfl) T.g_MOST_TURNS)))))) (pss_one ps_never) pss_nil) (pss_cons (ps_set (i := 3) sc_run.nd rfl (by first | exact Or.inl rfl | exact Or.inr rfl) (pe_callTy (o_dictP rfl) (by rfl) T.z_dict (by decide +kernel) (pa_cons (pe_lc (own := [("name", 4)]) (g := (gName 4)) (tt := tYes) rfl sc_run.nd (pi_seq (pe_m0 c_Program_names hr (by decide) (pv 0))) (blkOk_by (own := [("name", 4)]) (N := M_run) (sc := defScope s_run) (by decide +kernel)) (fun _ _ _ _ _ => (pg_name (i := 4) sc_run.nd rfl (by first | exact Or.inl rfl | exact Or.inr rfl))) (fun _ _ _ _ _ => pts_nil) (fun _ _ _ _ _ => (pe_tup (pa_cons (pv 4) (pa_cons (pe_dget2 (hu_of hr) (pv 1) (pv 4) pe_int ⟨by rfl, by rfl, by rfl, by rfl⟩) pa_nil))))) pa_nil))) (pss_cons (ps_set (i := 5) sc_run.nd rfl (by first | exact Or.inl rfl | exact Or.inr rfl) (pe_c c_Runner___init__ hr (by decide) (pa_cons (pv 3) (pa_cons (pv 2) pa_nil)))) (pss_cons (ps_expr (pe_f c_gone hr (by decide) (pa_cons (pv 5) (pa_cons (pe_m0 c_Program_block hr (by decide) (pv 0)) (pa_cons pe_int pa_nil))))) (pss_cons (ps_setLc (i := 6) (own := [("name", 4)]) (g := (gName 4)) (tt := tYes) rfl sc_run.nd rfl rfl (sw_true rfl rfl rfl (by decide +kernel)) (pi_seq (pe_m0 c_Program_names hr (by decide) (pv 0))) (blkOk_by (own := [("name", 4)]) (N := M_run) (sc := defScope s_run) (by decide +kernel)) (fun _ _ _ _ _ => (pg_name (i := 4) sc_run.nd rfl (by first | exact Or.inl rfl | exact Or.inr rfl))) (fun _ _ _ _ _ => pts_nil) (fun _ _ _ _ _ => (pe_tup (pa_cons (pv 4) (pa_cons (pe_dget (hu_of hr) (pe_fld (pv 5) rfl) (pv 4) (fun _ _ => rfl)) pa_nil))))) (pss_one (ps_ret (pe_tup (pa_cons (pe_fld (pv 5) rfl) (pa_cons (pe_fld (pv 5) rfl) (pa_cons (pv 6) (pa_cons (pe_fld (pv 5) rfl) pa_nil))))))))))))), pure_run K vs H Q E h⟩
theorem ok_law_value (T : Top K mg) : ∀ n : Nat, Cal P w K mg base (0 + n) "_law_value" (sp_law_value K n)
  | 0 => cal_none T.f_law_value no_law_value
  | n + 1 => by
    have c_law_value : Cal P w K mg base (0 + n) "_law_value" (sp_law_value K n) := ok_law_value T n
    exact cal_of (k := 0 + n) T.f_law_value sc_law_value (by intro vs H Q E h; repeat (first | (obtain ⟨rfl, _⟩ := h; rfl) | (obtain ⟨_, h⟩ := h))) fun f cdv A outer s H vs Q E hr h => ⟨t_law_value K n, PSs.nox (pss_cons (ps_if (pt_cmpR (o_eq hr.units) (pe_ix ix_seq (pv 0) pe_int (fun _ _ => rfl)) pe_str (by first | exact nomark _ | rfl)) (pss_one (ps_ret (pe_ix ix_seq (pv 0) pe_int (fun _ _ => rfl)))) pss_nil) (pss_cons (ps_if (pt_cmpR (o_eq hr.units) (pe_ix ix_seq (pv 0) pe_int (fun _ _ => rfl)) pe_str (by first | exact nomark _ | rfl)) (pss_one (ps_ret (pe_dget (hu_of hr) (pv 1) (pe_ix ix_seq (pv 0) pe_int (fun _ _ => rfl)) (fun _ _ => rfl)))) pss_nil) (pss_cons (ps_set (i := 2) sc_law_value.nd rfl (by first | exact Or.inl rfl | exact Or.inr rfl) (pe_f c_law_value hr (by omega) (pa_cons (pe_ix ix_seq (pv 0) pe_int (fun _ _ => rfl)) (pa_cons (pv 1) pa_nil)))) (pss_cons (ps_set (i := 3) sc_law_value.nd rfl (by first | exact Or.inl rfl | exact Or.inr rfl) (pe_f c_law_value hr (by omega) (pa_cons (pe_ix ix_seq (pv 0) pe_int (fun _ _ => rfl)) (pa_cons (pv 1) pa_nil)))) (pss_cons (ps_if (PW.pt (pw_or (pt_cmpR o_isN (pv 2) pe_non (by first | exact nomark _ | rfl)) (pw_or (pt_cmpR o_isN (pv 3) pe_non (by first | exact nomark _ | rfl)) (pw_or1 (PW.pt (pw_and (pt_cmpR (o_eq hr.units) (pe_ix ix_seq (pv 0) pe_int (fun _ _ => rfl)) pe_str (by first | exact nomark _ | rfl)) (pw_and1 (pt_cmpR (o_eq hr.units) (pv 3) pe_int (by first | exact nomark _ | rfl))))))))) (pss_one (ps_ret pe_non)) pss_nil) (pss_cons (ps_if (pt_cmpR (o_eq hr.units) (pe_ix ix_seq (pv 0) pe_int (fun _ _ => rfl)) pe_str (by first | exact nomark _ | rfl)) (pss_one (ps_ret (pe_op o_div (pv 2) (pv 3)))) pss_nil) (pss_cons (ps_if (PW.pt (pw_or (pt_cmpR (o_eq hr.units) (pe_ix ix_seq (pv 0) pe_int (fun _ _ => rfl)) pe_str (by first | exact nomark _ | rfl)) (pw_or1 (pt_cmpR (o_eq hr.units) (pe_ix ix_seq (pv 0) pe_int (fun _ _ => rfl)) pe_str (by first | exact nomark _ | rfl))))) (pss_one (ps_ret (pe_callTy o_int (by rfl) T.z_int (by decide +kernel) (pa_cons (pe_or (pe_and (pe_cmpR o_lt (pv 2) (pv 3) (by first | exact nomark _ | rfl)) (pe_one (pe_cmpR (o_eq hr.units) (pe_ix ix_seq (pv 0) pe_int (fun _ _ => rfl)) pe_str (by first | exact nomark _ | rfl)))) (pe_one (pe_and (pe_cmpR (o_eq hr.units) (pv 2) (pv 3) (by first | exact nomark _ | rfl)) (pe_one (pe_cmpR (o_eq hr.units) (pe_ix ix_seq (pv 0) pe_int (fun _ _ => rfl)) pe_str (by first | exact nomark _ | rfl)))))) pa_nil)))) pss_nil) (pss_cons (ps_if (pt_cmpR (o_eq hr.units) (pe_ix ix_seq (pv 0) pe_int (fun _ _ => rfl)) pe_str (by first | exact nomark _ | rfl)) (pss_one (ps_ret (pe_op o_mod (pe_op o_mul (pv 2) (pv 3)) (pe_op o_pow pe_int pe_int)))) pss_nil) (pss_one (ps_ret (pe_op o_mod (pe_op o_add (pv 2) (pe_ix ix_seq (pe_lst (pa_cons (pv 3) (pa_cons (pe_un o_neg (pv 3)) pa_nil))) (pe_callTy o_int (by rfl) T.z_int (by decide +kernel) (pa_cons (pe_cmpR (o_eq hr.units) (pe_ix ix_seq (pv 0) pe_int (fun _ _ => rfl)) pe_str (by first | exact nomark _ | rfl)) pa_nil)) (fun _ _ => rfl))) (pe_op o_pow pe_int pe_int)))))))))))), pure_law_value K n vs H Q E h⟩
theorem ok_law_walked (T : Top K mg) : Cal P w K mg base 19 "_law_walked" (sp_law_walked K) := by
  have c_law_value : Cal P w K mg base 18 "_law_value" (sp_law_value K 18) := ok_law_value T 18
  exact cal_of (k := 18) T.f_law_walked sc_law_walked (by intro vs H Q E h; repeat (first | (obtain ⟨rfl, _⟩ := h; rfl) | (obtain ⟨_, h⟩ := h))) fun f cdv A outer s H vs Q E hr h => ⟨t_law_walked K, PSs.nox (pss_cons (ps_set (i := 3) sc_law_walked.nd rfl (by first | exact Or.inl rfl | exact Or.inr rfl) (HuV.pe_listRev rfl (by rfl) T.z_list (by rfl) T.z_reversed (pv 0))) (pss_cons (ps_set (i := 4) sc_law_walked.nd rfl (by first | exact Or.inl rfl | exact Or.inr rfl) (pe_lst pa_nil)) (pss_cons (ps_while PassesOwn.never (pt_cmpR (o_ne hr.units) (pv 3) (pe_lst pa_nil) (by first | exact nomark _ | rfl)) (pss_cons (ps_set (i := 5) sc_law_walked.nd rfl (by first | exact Or.inl rfl | exact Or.inr rfl) (pe_bm0 PySem.F.plainAttrs_list PySem.F.slot_list_pop PySem.F.type_list_pop mt_pop (pv 3))) (pss_cons (ps_set (i := 6) sc_law_walked.nd rfl (by first | exact Or.inl rfl | exact Or.inr rfl) (pe_ix ix_seq (pv 5) pe_int (fun _ _ => rfl))) (pss_cons (ps_if (pt_cmpR (o_eq hr.units) (pe_ix ix_seq (pv 6) pe_int (fun _ _ => rfl)) pe_str (by first | exact nomark _ | rfl)) (pss_one ps_continue) pss_nil) (pss_cons (ps_set (i := 7) sc_law_walked.nd rfl (by first | exact Or.inl rfl | exact Or.inr rfl) (pe_f c_law_value hr (by decide) (pa_cons (pe_ix ix_seq (pv 6) (pe_op o_add pe_int (pe_callTy o_int (by rfl) T.z_int (by decide +kernel) (pa_cons (pe_cmpR (o_eq hr.units) (pe_ix ix_seq (pv 6) pe_int (fun _ _ => rfl)) pe_str (by first | exact nomark _ | rfl)) pa_nil))) (fun _ _ => rfl)) (pa_cons (pv 1) pa_nil)))) (pss_cons (ps_if (pt_cmpR o_isN (pv 7) pe_non (by first | exact nomark _ | rfl)) (pss_one (ps_ret (pe_tup (pa_cons pe_str (pa_cons (pe_ix ix_seq (pv 5) pe_int (fun _ _ => rfl)) (pa_cons (pv 4) pa_nil)))))) pss_nil) (pss_one (ps_if (pt_cmpR (o_eq hr.units) (pe_ix ix_seq (pv 6) pe_int (fun _ _ => rfl)) pe_str (by first | exact nomark _ | rfl)) (pss_one (ps_dput (hu_of hr) (pv 1) (pe_ix ix_seq (pv 6) pe_int (fun _ _ => rfl)) (pv 7) rfl)) (pss_one (ps_if (pt_cmpR (o_eq hr.units) (pe_ix ix_seq (pv 6) pe_int (fun _ _ => rfl)) pe_str (by first | exact nomark _ | rfl)) (pss_one (ps_expr (pe_bm PySem.F.plainAttrs_list PySem.F.slot_list_append PySem.F.type_list_append mt_append (pv 4) (pa_cons (pv 7) pa_nil)))) (pss_one (ps_if (pt_cmpR (o_eq hr.units) (pe_ix ix_seq (pv 6) pe_int (fun _ _ => rfl)) pe_str (by first | exact nomark _ | rfl)) (pss_one (ps_set (i := 3) sc_law_walked.nd rfl (by first | exact Or.inl rfl | exact Or.inr rfl) (pe_op o_add (pv 3) (HuV.pe_listRev rfl (by rfl) T.z_list (by rfl) T.z_reversed (pe_ix ix_seq (pv 5) (pe_op o_sub pe_int (pe_callTy o_int (by rfl) T.z_int (by decide +kernel) (pa_cons (pe_cmpR (o_ne hr.units) (pv 7) pe_int (by first | exact nomark _ | rfl)) pa_nil))) (fun _ _ => rfl)))))) (pss_one (ps_if (pt_cmpR (o_ne hr.units) (pv 7) pe_int (by first | exact nomark _ | rfl)) (pss_cons (ps_if (pt_cmpR (o_eq hr.units) (pv 2) pe_int (by first | exact nomark _ | rfl)) (pss_one (ps_ret (pe_tup (pa_cons pe_str (pa_cons (pe_ix ix_seq (pv 5) pe_int (fun _ _ => rfl)) (pa_cons (pv 4) pa_nil)))))) pss_nil) (pss_cons (ps_set (i := 2) sc_law_walked.nd rfl (by first | exact Or.inl rfl | exact Or.inr rfl) (pe_op o_sub (pv 2) pe_int)) (pss_one (ps_set (i := 3) sc_law_walked.nd rfl (by first | exact Or.inl rfl | exact Or.inr rfl) (pe_op o_add (pe_op o_add (pv 3) (pe_lst (pa_cons (pv 5) pa_nil))) (HuV.pe_listRev rfl (by rfl) T.z_list (by rfl) T.z_reversed (pe_ix ix_seq (pv 5) pe_int (fun _ _ => rfl)))))))) pss_nil)))))))))))))) (pss_one (ps_ret (pe_tup (pa_cons pe_str (pa_cons pe_int (pa_cons (pv 4) pa_nil))))))))), pure_law_walked K vs H Q E h⟩
theorem ok_law_count (T : Top K mg) : ∀ n : Nat, Cal P w K mg base (0 + n) "_law_count" (sp_law_count K n)
  | 0 => cal_none T.f_law_count no_law_count
  | n + 1 => by
    have c_law_count : Cal P w K mg base (0 + n) "_law_count" (sp_law_count K n) := ok_law_count T n
    exact cal_of (k := 0 + n) T.f_law_count sc_law_count (by intro vs H Q E h; repeat (first | (obtain ⟨rfl, _⟩ := h; rfl) | (obtain ⟨_, h⟩ := h))) fun f cdv A outer s H vs Q E hr h => ⟨t_law_count K n, PSs.nox (pss_one (ps_ret (pe_callB (cr_sum rfl) (by rfl) T.z_sum (by decide +kernel) (pa_cons (pe_lc (own := [("_law_one", 1)]) (g := (gName 1)) (tt := tYes) rfl sc_law_count.nd (pi_seq (pv 0)) (blkOk_by (own := [("_law_one", 1)]) (N := M_law_count) (sc := defScope s_law_count) (by decide +kernel)) (fun _ _ _ _ _ => (pg_name (i := 1) sc_law_count.nd rfl (by first | exact Or.inl rfl | exact Or.inr rfl))) (fun _ _ _ _ _ => pts_nil) (fun _ _ _ _ _ => (pe_op o_add pe_int (pe_callB (cr_sum rfl) (by rfl) T.z_sum (by decide +kernel) (pa_cons (pe_lc (own := [("_law_inner", 2)]) (g := (gName 2)) (tt := tYes) rfl sc_law_count.nd (pi_seq (pe_slice o_sl (pv 1) (po_some pe_int) po_none)) (blkOk_by (own := [("_law_inner", 2)]) (N := M_law_count) (by rfl)) (fun _ _ _ _ _ => (pg_name (i := 2) sc_law_count.nd rfl (by first | exact Or.inl rfl | exact Or.inr rfl))) (fun _ _ _ _ _ => pts_nil) (fun _ _ _ _ _ => (pe_f c_law_count hr (by omega) (pa_cons (pv 2) pa_nil)))) pa_nil))))) pa_nil)))), pure_law_count K n vs H Q E h⟩
theorem ok_law_sized (T : Top K mg) : ∀ n : Nat, Cal P w K mg base (9 + n) "_law_sized" (sp_law_sized K n)
  | 0 => cal_none T.f_law_sized no_law_sized
  | n + 1 => by
    have c_law_sized : Cal P w K mg base (9 + n) "_law_sized" (sp_law_sized K n) := ok_law_sized T n
    have c_law_count : Cal P w K mg base 9 "_law_count" (sp_law_count K 9) := ok_law_count T 9
    exact cal_of (k := 9 + n) T.f_law_sized sc_law_sized (by intro vs H Q E h; repeat (first | (obtain ⟨rfl, _⟩ := h; rfl) | (obtain ⟨_, h⟩ := h))) fun f cdv A outer s H vs Q E hr h => ⟨t_law_sized K n, PSs.nox (pss_cons (ps_set (i := 2) sc_law_sized.nd rfl (by first | exact Or.inl rfl | exact Or.inr rfl) (pe_lst pa_nil)) (pss_cons (ps_for PassesOwn.never rfl (pi_seq (pv 0)) (pg_name (i := 3) sc_law_sized.nd rfl (by first | exact Or.inl rfl | exact Or.inr rfl)) (pss_one (ps_if (pt_cmpR (o_eq hr.units) (pe_ix ix_seq (pv 3) pe_int (fun _ _ => rfl)) pe_str (by first | exact nomark _ | rfl)) (pss_cons (ps_set (i := 4) sc_law_sized.nd rfl (by first | exact Or.inl rfl | exact Or.inr rfl) (pe_f c_law_sized hr (by omega) (pa_cons (pe_ix ix_seq (pv 3) pe_int (fun _ _ => rfl)) (pa_cons (pe_op o_add (pv 1) pe_int) pa_nil)))) (pss_cons (ps_set (i := 5) sc_law_sized.nd rfl (by first | exact Or.inl rfl | exact Or.inr rfl) (pe_f c_law_sized hr (by omega) (pa_cons (pe_ix ix_seq (pv 3) pe_int (fun _ _ => rfl)) (pa_cons (pe_op o_add (pe_op o_add (pv 1) pe_int) (pe_ix ix_seq (pv 4) pe_int (fun _ _ => rfl))) pa_nil)))) (pss_cons (ps_expr (pe_bm PySem.F.plainAttrs_list PySem.F.slot_list_append PySem.F.type_list_append mt_append (pv 2) (pa_cons (pe_tup (pa_cons (pv 1) (pa_cons (pv 3) (pa_cons (pe_ix ix_seq (pv 4) pe_int (fun _ _ => rfl)) (pa_cons (pe_ix ix_seq (pv 5) pe_int (fun _ _ => rfl)) pa_nil))))) pa_nil))) (pss_one (ps_set (i := 1) sc_law_sized.nd rfl (by first | exact Or.inl rfl | exact Or.inr rfl) (pe_op o_add (pe_op o_add (pe_op o_add (pv 1) pe_int) (pe_ix ix_seq (pv 4) pe_int (fun _ _ => rfl))) (pe_ix ix_seq (pv 5) pe_int (fun _ _ => rfl)))))))) (pss_one (ps_if (pt_cmpR (o_eq hr.units) (pe_ix ix_seq (pv 3) pe_int (fun _ _ => rfl)) pe_str (by first | exact nomark _ | rfl)) (pss_cons (ps_set (i := 4) sc_law_sized.nd rfl (by first | exact Or.inl rfl | exact Or.inr rfl) (pe_f c_law_sized hr (by omega) (pa_cons (pe_ix ix_seq (pv 3) pe_int (fun _ _ => rfl)) (pa_cons (pe_op o_add (pv 1) pe_int) pa_nil)))) (pss_cons (ps_expr (pe_bm PySem.F.plainAttrs_list PySem.F.slot_list_append PySem.F.type_list_append mt_append (pv 2) (pa_cons (pe_tup (pa_cons (pv 1) (pa_cons (pv 3) (pa_cons (pe_ix ix_seq (pv 4) pe_int (fun _ _ => rfl)) pa_nil)))) pa_nil))) (pss_one (ps_set (i := 1) sc_law_sized.nd rfl (by first | exact Or.inl rfl | exact Or.inr rfl) (pe_op o_add (pe_op o_add (pv 1) pe_int) (pe_ix ix_seq (pv 4) pe_int (fun _ _ => rfl))))))) (pss_cons (ps_expr (pe_bm PySem.F.plainAttrs_list PySem.F.slot_list_append PySem.F.type_list_append mt_append (pv 2) (pa_cons (pe_tup (pa_cons (pv 1) (pa_cons (pv 3) pa_nil))) pa_nil))) (pss_one (ps_set (i := 1) sc_law_sized.nd rfl (by first | exact Or.inl rfl | exact Or.inr rfl) (pe_op o_add (pv 1) pe_int))))))))) (pss_one (ps_ret (pe_tup (pa_cons (pv 2) (pa_cons (pe_callB (cr_sum rfl) (by rfl) T.z_sum (by decide +kernel) (pa_cons (pe_lc (own := [("_law_one", 6)]) (g := (gName 6)) (tt := tYes) rfl sc_law_sized.nd (pi_seq (pv 2)) (blkOk_by (own := [("_law_one", 6)]) (N := M_law_sized) (sc := defScope s_law_sized) (by decide +kernel)) (fun _ _ _ _ _ => (pg_name (i := 6) sc_law_sized.nd rfl (by first | exact Or.inl rfl | exact Or.inr rfl))) (fun _ _ _ _ _ => pts_nil) (fun _ _ _ _ _ => (pe_op o_add pe_int (pe_callB (cr_sum rfl) (by rfl) T.z_sum (by decide +kernel) (pa_cons (pe_lc (own := [("_law_inner", 7)]) (g := (gName 7)) (tt := tYes) rfl sc_law_sized.nd (pi_seq (pe_slice o_sl (pv 6) (po_some pe_int) po_none)) (blkOk_by (own := [("_law_inner", 7)]) (N := M_law_sized) (by rfl)) (fun _ _ _ _ _ => (pg_name (i := 7) sc_law_sized.nd rfl (by first | exact Or.inl rfl | exact Or.inr rfl))) (fun _ _ _ _ _ => pts_nil) (fun _ _ _ _ _ => (pe_f c_law_count hr (by omega) (pa_cons (pv 7) pa_nil)))) pa_nil))))) pa_nil)) pa_nil))))))), pure_law_sized K n vs H Q E h⟩
theorem ok_law_due (T : Top K mg) : Cal P w K mg base 30 "_law_due" (sp_law_due K) := by
  have c_Program_names : CalM P w K mg base 29 "Program" as_Program "names" (sp_Program_names K) := ok_Program_names T
  have c_law_walked : Cal P w K mg base 19 "_law_walked" (sp_law_walked K) := ok_law_walked T
  have c_law_sized : Cal P w K mg base 18 "_law_sized" (sp_law_sized K 9) := ok_law_sized T 9
  exact cal_of (k := 29) T.f_law_due sc_law_due (by intro vs H Q E h; repeat (first | (obtain ⟨rfl, _⟩ := h; rfl) | (obtain ⟨_, h⟩ := h))) fun f cdv A outer s H vs Q E hr h => ⟨t_law_due K, PSs.nox (pss_cons (ps_set (i := 4) sc_law_due.nd rfl (by first | exact Or.inl rfl | exact Or.inr rfl) (pe_callTy (o_dictP rfl) (by rfl) T.z_dict (by decide +kernel) (pa_cons (pe_lc (own := [("_law_name", 5)]) (g := (gName 5)) (tt := tYes) rfl sc_law_due.nd (pi_seq (pe_m0 c_Program_names hr (by decide) (pv 0))) (blkOk_by (own := [("_law_name", 5)]) (N := M_law_due) (sc := defScope s_law_due) (by decide +kernel)) (fun _ _ _ _ _ => (pg_name (i := 5) sc_law_due.nd rfl (by first | exact Or.inl rfl | exact Or.inr rfl))) (fun _ _ _ _ _ => pts_nil) (fun _ _ _ _ _ => (pe_tup (pa_cons (pv 5) (pa_cons (pe_dget2 (hu_of hr) (pv 2) (pv 5) pe_int ⟨by rfl, by rfl, by rfl, by rfl⟩) pa_nil))))) pa_nil))) (pss_cons (ps_set (i := 6) sc_law_due.nd rfl (by first | exact Or.inl rfl | exact Or.inr rfl) (pe_f c_law_walked hr (by decide) (pa_cons (pe_ix ix_seq (pe_f c_law_sized hr (by decide) (pa_cons (pv 1) (pa_cons pe_int pa_nil))) pe_int (fun _ _ => rfl)) (pa_cons (pv 4) (pa_cons (pv 3) pa_nil))))) (pss_one (ps_ret (pe_tup (pa_cons (pe_ix ix_seq (pv 6) pe_int (fun _ _ => rfl)) (pa_cons (pe_ix ix_seq (pv 6) pe_int (fun _ _ => rfl)) (pa_cons (pe_lc (own := [("_law_name", 5)]) (g := (gName 5)) (tt := tYes) rfl sc_law_due.nd (pi_seq (pe_callB (call_sortedD rfl) (by rfl) T.z_sorted (by decide +kernel) (pa_cons (pv 4) pa_nil))) (blkOk_by (own := [("_law_name", 5)]) (N := M_law_due) (sc := defScope s_law_due) (by decide +kernel)) (fun _ _ _ _ _ => (pg_name (i := 5) sc_law_due.nd rfl (by first | exact Or.inl rfl | exact Or.inr rfl))) (fun _ _ _ _ _ => pts_nil) (fun _ _ _ _ _ => (pe_tup (pa_cons (pv 5) (pa_cons (pe_dget (hu_of hr) (pv 4) (pv 5) (fun _ _ => rfl)) pa_nil))))) (pa_cons (pe_ix ix_seq (pv 6) pe_int (fun _ _ => rfl)) pa_nil))))))))), pure_law_due K vs H Q E h⟩
theorem ok_law_whole (T : Top K mg) : Cal P w K mg base 1 "_law_whole" (sp_law_whole K) := by
  exact cal_of (k := 0) T.f_law_whole sc_law_whole (by intro vs H Q E h; repeat (first | (obtain ⟨rfl, _⟩ := h; rfl) | (obtain ⟨_, h⟩ := h))) fun f cdv A outer s H vs Q E hr h => ⟨t_law_whole K, PSs.nox (pss_one (ps_ret (pe_and (pe_callB o_isi (by rfl) T.z_isinstance (by decide +kernel) (pa_cons (pv 0) (pa_cons (pe_bltn (by rfl) T.z_int (by decide +kernel) rfl) pa_nil))) (pe_one (pe_not (pe_callB o_isi (by rfl) T.z_isinstance (by decide +kernel) (pa_cons (pv 0) (pa_cons (pe_bltn (by rfl) T.z_bool (by decide +kernel) rfl) pa_nil)))))))), pure_law_whole K vs H Q E h⟩
theorem ok_law_same (T : Top K mg) : Cal P w K mg base 2 "_law_same" (sp_law_same K) := by
  have c_law_whole : Cal P w K mg base 1 "_law_whole" (sp_law_whole K) := ok_law_whole T
  exact cal_of (k := 1) T.f_law_same sc_law_same (by intro vs H Q E h; repeat (first | (obtain ⟨rfl, _⟩ := h; rfl) | (obtain ⟨_, h⟩ := h))) fun f cdv A outer s H vs Q E hr h => ⟨t_law_same K, PSs.nox (pss_cons (ps_if (PW.pt (pw_or (pt_not (pt_val (pe_callB o_isi (by rfl) T.z_isinstance (by decide +kernel) (pa_cons (pv 0) (pa_cons (pe_bltn (by rfl) T.z_tuple (by decide +kernel) rfl) pa_nil))))) (pw_or (pt_cmpR (o_ne hr.units) (pe_callB o_len (by rfl) T.z_len (by decide +kernel) (pa_cons (pv 0) pa_nil)) pe_int (by first | exact nomark _ | rfl)) (pw_or (pt_cmpR (o_ne hr.units) (pv 0) (pv 1) (by first | exact nomark _ | rfl)) (pw_or1 (pt_not (pt_val (pe_f c_law_whole hr (by decide) (pa_cons (pe_ix ix_seq (pv 0) pe_int (fun _ _ => rfl)) pa_nil))))))))) (pss_one (ps_ret pe_bl)) pss_nil) (pss_cons (ps_if (PW.pt (pw_or (pt_not (pt_val (pe_callB o_isi (by rfl) T.z_isinstance (by decide +kernel) (pa_cons (pe_ix ix_seq (pv 0) pe_int (fun _ _ => rfl)) (pa_cons (pe_bltn (by rfl) T.z_list (by decide +kernel) rfl) pa_nil))))) (pw_or1 (pt_not (pt_val (pe_callB o_isi (by rfl) T.z_isinstance (by decide +kernel) (pa_cons (pe_ix ix_seq (pv 0) pe_int (fun _ _ => rfl)) (pa_cons (pe_bltn (by rfl) T.z_list (by decide +kernel) rfl) pa_nil)))))))) (pss_one (ps_ret pe_bl)) pss_nil) (pss_one (ps_ret (pe_cmpR (o_eq hr.units) (pe_lc (own := [("_law_pair", 2)]) (g := (gName 2)) (tt := (tOr (tNot (tB (tCB (rIsi2 K) (tCons (tVar 2) (tCons (tC (.ty "tuple")) tNil))))) (tNot (tB (tF (sp_law_whole K) (tCons (tOp (rIx K) (tVar 2) (tC (.int 1))) tNil)))))) rfl sc_law_same.nd (pi_seq (pe_ix ix_seq (pv 0) pe_int (fun _ _ => rfl))) (blkOk_by (own := [("_law_pair", 2)]) (N := M_law_same) (sc := defScope s_law_same) (by decide +kernel)) (fun _ _ _ _ _ => (pg_name (i := 2) sc_law_same.nd rfl (by first | exact Or.inl rfl | exact Or.inr rfl))) (fun _ _ _ _ _ => (pts_one (PW.pt (pw_or (pt_not (pt_val (pe_callB o_isi (by rfl) T.z_isinstance (by decide +kernel) (pa_cons (pv 2) (pa_cons (pe_bltn (by rfl) T.z_tuple (by decide +kernel) rfl) pa_nil))))) (pw_or1 (pt_not (pt_val (pe_f c_law_whole hr (by decide) (pa_cons (pe_ix ix_seq (pv 2) pe_int (fun _ _ => rfl)) pa_nil))))))))) (fun _ _ _ _ _ => (pv 2))) (pe_lst pa_nil) (by first | exact nomark _ | rfl)))))), pure_law_same K vs H Q E h⟩
theorem ok_law {fa : Addr} {fd : FuncData} (T : Top K mg) (F : Fun K "law" "law" s_k06 fa fd) : FnOk P w K mg base CX0 46 fa fd ["_law_script"] (sp_k06 K) := by
  have c_law_names : Cal P w K mg base 3 "_law_names" (sp_law_names K) := ok_law_names T
  have c_law_cell_at : Cal P w K mg base 1 "_law_cell_at" (sp_law_cell_at K) := ok_law_cell_at T
  have c_law_more : Cal P w K mg base 1 "_law_more" (sp_law_more K) := ok_law_more T
  have c_law_mixed : Cal P w K mg base 1 "_law_mixed" (sp_law_mixed K) := ok_law_mixed T
  have c_law_told : Cal P w K mg base 1 "_law_told" (sp_law_told K) := ok_law_told T
  have c_law_block_by : Cal P w K mg base 21 "_law_block_by" (sp_law_block_by K) := ok_law_block_by T
  have c_Program___init__ : CalC P w K mg base 39 "Program" as_Program (sp_Program___init__ K) := ok_Program___init__ T
  have c_law_values : Cal P w K mg base 2 "_law_values" (sp_law_values K) := ok_law_values T
  have c_run : Cal P w K mg base 45 "run" (sp_run K) := ok_run T
  have c_law_due : Cal P w K mg base 30 "_law_due" (sp_law_due K) := ok_law_due T
  have c_law_same : Cal P w K mg base 2 "_law_same" (sp_law_same K) := ok_law_same T
  have c_Program_block : CalM P w K mg base 1 "Program" as_Program "block" (sp_Program_block K) := ok_Program_block T
  exact F.ok sc_k06 (by intro vs H Q E h; repeat (first | (obtain ⟨rfl, _⟩ := h; rfl) | (obtain ⟨_, h⟩ := h))) fun cdv A outer s H vs Q E hr h => ⟨t_k06 K, PSs.nox (pss_cons (ps_set (i := 1) sc_k06.nd rfl (by first | exact Or.inl rfl | exact Or.inr rfl) (pe_f c_law_names hr (by decide) (pa_cons (pe_f c_law_cell_at hr (by decide) (pa_cons (pv 0) (pa_cons pe_int pa_nil))) (pa_cons (pe_f c_law_cell_at hr (by decide) (pa_cons (pv 0) (pa_cons pe_int pa_nil))) pa_nil)))) (pss_cons (ps_set (i := 2) sc_k06.nd rfl (by first | exact Or.inl rfl | exact Or.inr rfl) (pe_f c_law_more hr (by decide) (pa_cons (pv 1) (pa_cons (pe_f c_law_mixed hr (by decide) (pa_cons (pe_f c_law_cell_at hr (by decide) (pa_cons (pv 0) (pa_cons pe_int pa_nil))) pa_nil)) pa_nil)))) (pss_cons (ps_set (i := 3) sc_k06.nd rfl (by first | exact Or.inl rfl | exact Or.inr rfl) (pe_f c_law_told hr (by decide) (pa_cons (pv 1) (pa_cons (pv 2) (pa_cons (pe_f c_law_mixed hr (by decide) (pa_cons (pe_f c_law_cell_at hr (by decide) (pa_cons (pv 0) (pa_cons pe_int pa_nil))) pa_nil)) pa_nil))))) (pss_cons (ps_set (i := 4) sc_k06.nd rfl (by first | exact Or.inl rfl | exact Or.inr rfl) (pe_op o_mod (pe_f c_law_cell_at hr (by decide) (pa_cons (pv 0) (pa_cons pe_int pa_nil))) pe_int)) (pss_cons (ps_if (pt_cmpR (o_eq hr.units) (pe_op o_mod (pe_op o_div (pe_f c_law_cell_at hr (by decide) (pa_cons (pv 0) (pa_cons pe_int pa_nil))) pe_int) pe_int) pe_int (by first | exact nomark _ | rfl)) (pss_one (ps_set (i := 4) sc_k06.nd rfl (by first | exact Or.inl rfl | exact Or.inr rfl) (pe_op o_mod (pe_op o_div (pe_f c_law_cell_at hr (by decide) (pa_cons (pv 0) (pa_cons pe_int pa_nil))) pe_int) pe_int))) pss_nil) (pss_cons (ps_set (i := 5) sc_k06.nd rfl (by first | exact Or.inl rfl | exact Or.inr rfl) (pe_f c_law_block_by hr (by decide) (pa_cons (pe_slice o_sl (pv 0) (po_some pe_int) (po_some pe_int)) (pa_cons (pv 1) (pa_cons pe_int pa_nil))))) (pss_cons (ps_if (pt_cmpR (o_eq hr.units) (pe_op o_mod (pe_op o_div (pe_f c_law_cell_at hr (by decide) (pa_cons (pv 0) (pa_cons pe_int pa_nil))) pe_int) pe_int) pe_int (by first | exact nomark _ | rfl)) (pss_cons (ps_set (i := 6) sc_k06.nd rfl (by first | exact Or.inl rfl | exact Or.inr rfl) (pe_lst (pa_cons (pe_tup (pa_cons pe_str pa_nil)) (pa_cons (pe_tup (pa_cons pe_str (pa_cons (pe_tup (pa_cons pe_str (pa_cons (pe_tup (pa_cons pe_str (pa_cons (pe_ix ix_seq (pv 1) pe_int (fun _ _ => rfl)) pa_nil))) (pa_cons (pe_tup (pa_cons pe_str (pa_cons pe_int pa_nil))) pa_nil)))) pa_nil))) pa_nil)))) (pss_cons (ps_setLc (i := 7) (own := [("_law_row", 9)]) (g := (gName 9)) (tt := (tAnd (tTest (tOp (rNe2 K) (tOp (rIx K) (tVar 9) (tC (.int 0))) (tC (.str "if")))) (tTest (tOp (rNe2 K) (tOp (rIx K) (tVar 9) (tC (.int 0))) (tC (.str "while")))))) rfl sc_k06.nd rfl rfl (sw_true rfl rfl rfl (by decide +kernel)) (pi_seq (pe_f c_law_block_by hr (by decide) (pa_cons (pe_slice o_sl (pv 0) (po_some pe_int) (po_some pe_int)) (pa_cons (pv 1) (pa_cons pe_int pa_nil))))) (blkOk_by (own := [("_law_row", 9)]) (N := M_k06) (sc := defScope s_k06) (by decide +kernel)) (fun _ _ _ _ _ => (pg_name (i := 9) sc_k06.nd rfl (by first | exact Or.inl rfl | exact Or.inr rfl))) (fun _ _ _ _ _ => (pts_one (PW.pt (pw_and (pt_cmpR (o_ne hr.units) (pe_ix ix_seq (pv 9) pe_int (fun _ _ => rfl)) pe_str (by first | exact nomark _ | rfl)) (pw_and1 (pt_cmpR (o_ne hr.units) (pe_ix ix_seq (pv 9) pe_int (fun _ _ => rfl)) pe_str (by first | exact nomark _ | rfl))))))) (fun _ _ _ _ _ => (pv 9))) (pss_cons (ps_set (i := 8) sc_k06.nd rfl (by first | exact Or.inl rfl | exact Or.inr rfl) (pe_tup (pa_cons pe_str (pa_cons (pe_tup (pa_cons pe_str (pa_cons (pe_ix ix_seq (pv 1) pe_int (fun _ _ => rfl)) pa_nil))) (pa_cons (pe_callTy o_tuple (by rfl) T.z_tuple (by decide +kernel) (pa_cons (pv 7) pa_nil)) (pa_cons (pe_callTy o_tuple (by rfl) T.z_tuple (by decide +kernel) (pa_cons (pv 6) pa_nil)) pa_nil)))))) (pss_one (ps_set (i := 5) sc_k06.nd rfl (by first | exact Or.inl rfl | exact Or.inr rfl) (pe_op o_add (pe_lst (pa_cons (pe_tup (pa_cons pe_str (pa_cons (pe_tup (pa_cons pe_str (pa_cons (pe_tup (pa_cons pe_str (pa_cons pe_int pa_nil))) (pa_cons (pe_tup (pa_cons pe_str (pa_cons pe_int pa_nil))) pa_nil)))) (pa_cons (pe_tup (pa_cons (pv 8) (pa_cons (pe_tup (pa_cons pe_str (pa_cons (pe_ix ix_seq (pv 1) pe_int (fun _ _ => rfl)) (pa_cons (pe_tup (pa_cons pe_str (pa_cons pe_int pa_nil))) pa_nil)))) pa_nil))) pa_nil)))) pa_nil)) (pv 5))))))) pss_nil) (pss_cons (ps_set (i := 5) sc_k06.nd rfl (by first | exact Or.inl rfl | exact Or.inr rfl) (pe_callTy o_tuple (by rfl) T.z_tuple (by decide +kernel) (pa_cons (pv 5) pa_nil))) (pss_cons (ps_set (i := 10) sc_k06.nd rfl (by first | exact Or.inl rfl | exact Or.inr rfl) (pe_c c_Program___init__ hr (by decide) (pa_cons (pe_ix ix_seq (pv 3) pe_int (fun _ _ => rfl)) (pa_cons (pe_ix ix_seq (pv 3) pe_int (fun _ _ => rfl)) (pa_cons (pv 5) pa_nil))))) (pss_cons (ps_set (i := 11) sc_k06.nd rfl (by first | exact Or.inl rfl | exact Or.inr rfl) (pe_f c_law_values hr (by decide) (pa_cons (pv 0) (pa_cons pe_int (pa_cons (pe_op o_add (pe_ix ix_seq (pv 3) pe_int (fun _ _ => rfl)) (pe_ix ix_seq (pv 3) pe_int (fun _ _ => rfl))) pa_nil))))) (pss_cons (ps_set (i := 12) sc_k06.nd rfl (by first | exact Or.inl rfl | exact Or.inr rfl) (pe_f c_law_values hr (by decide) (pa_cons (pv 0) (pa_cons pe_int (pa_cons (pe_op o_add (pe_ix ix_seq (pv 3) pe_int (fun _ _ => rfl)) (pe_ix ix_seq (pv 3) pe_int (fun _ _ => rfl))) pa_nil))))) (pss_cons (ps_set (i := 13) sc_k06.nd rfl (by first | exact Or.inl rfl | exact Or.inr rfl) (pe_callTy o_dict (by rfl) T.z_dict (by decide +kernel) (pa_cons (pv 11) pa_nil))) (pss_cons (ps_set (i := 14) sc_k06.nd rfl (by first | exact Or.inl rfl | exact Or.inr rfl) (pe_f c_run hr (by decide) (pa_cons (pv 10) (pa_cons (pv 13) (pa_cons (pv 4) pa_nil))))) (pss_cons (ps_set (i := 15) sc_k06.nd rfl (by first | exact Or.inl rfl | exact Or.inr rfl) (pe_f c_law_due hr (by decide) (pa_cons (pv 10) (pa_cons (pv 5) (pa_cons (pv 11) (pa_cons (pv 4) pa_nil)))))) (pss_cons (ps_if (PW.pt (pw_or (pt_not (pt_val (pe_f c_law_same hr (by decide) (pa_cons (pv 14) (pa_cons (pv 15) pa_nil))))) (pw_or1 (pt_cmpR (o_ne hr.units) (pv 13) (pv 11) (by first | exact nomark _ | rfl))))) (pss_one (ps_ret pe_bl)) pss_nil) (pss_cons (ps_expr (pe_bm0 PySem.F.plainAttrs_dict PySem.F.slot_dict_clear PySem.F.type_dict_clear mtd_clear (pv 13))) (pss_cons (ps_if (pt_not (pt_val (pe_f c_law_same hr (by decide) (pa_cons (pe_f c_run hr (by decide) (pa_cons (pv 10) (pa_cons (pv 12) (pa_cons pe_int pa_nil)))) (pa_cons (pe_f c_law_due hr (by decide) (pa_cons (pv 10) (pa_cons (pv 5) (pa_cons (pv 12) (pa_cons pe_int pa_nil))))) pa_nil))))) (pss_one (ps_ret pe_bl)) pss_nil) (pss_cons (ps_if (pt_cmpR (o_ne hr.units) (pv 14) (pv 15) (by first | exact nomark _ | rfl)) (pss_one (ps_ret pe_bl)) pss_nil) (pss_cons (ps_expr (pe_bm PySem.F.plainAttrs_list PySem.F.slot_list_append PySem.F.type_list_append mt_append (pe_ix ix_seq (pv 14) pe_int (fun _ _ => rfl)) (pa_cons pe_str pa_nil))) (pss_cons (ps_expr (pe_bm PySem.F.plainAttrs_list PySem.F.slot_list_append PySem.F.type_list_append mt_append (pe_ix ix_seq (pv 14) pe_int (fun _ _ => rfl)) (pa_cons pe_int pa_nil))) (pss_cons (ps_if (pt_not (pt_val (pe_f c_law_same hr (by decide) (pa_cons (pe_f c_run hr (by decide) (pa_cons (pv 10) (pa_cons (pe_callTy o_dict (by rfl) T.z_dict (by decide +kernel) (pa_cons (pv 11) pa_nil)) (pa_cons (pv 4) pa_nil)))) (pa_cons (pv 15) pa_nil))))) (pss_one (ps_ret pe_bl)) pss_nil) (pss_one (ps_ret (pe_and (pe_cmpR (o_eq hr.units) (pe_ix ix_seq (pv 14) pe_int (fun _ _ => rfl)) (pe_op o_add (pe_ix ix_seq (pv 15) pe_int (fun _ _ => rfl)) (pe_lst (pa_cons pe_str pa_nil))) (by first | exact nomark _ | rfl)) (pe_and (pe_cmpR (o_eq hr.units) (pe_ix ix_seq (pv 14) pe_int (fun _ _ => rfl)) (pe_op o_add (pe_ix ix_seq (pv 15) pe_int (fun _ _ => rfl)) (pe_lst (pa_cons pe_int pa_nil))) (by first | exact nomark _ | rfl)) (pe_one (pe_cmpR (o_eq hr.units) (pe_m0 c_Program_block hr (by decide) (pv 10)) (pv 5) (by first | exact nomark _ | rfl)))))))))))))))))))))))))))), pure_k06 K vs H Q E h⟩
end
theorem all_mk {P : Program} {w : World} {K : PySem.W.Frag} {h : Heap} {mg : Str → Option Value} {fa : Addr} (X : K.In h) (G : h.Ns mainGlobals mg) (hfa : mg "law" = some (.ref fa))
    {f0 f1 f2 f3 f4 f5 f6 f7 f8 f9 f10 f11 f12 f13 f14 f15 f16 f17 f18 f19 f20 f21 f22 f23 f24 f25 f26 f27 f28 f29 f30 f31 f32 f33 f34 f35 f36 f37 f38 f39 f40 f41 f42 f43 f44 f45 f46 f47 f48 f49 f50 f51 f52 f53 : Addr} {od0 an0 od1 an1 od2 an2 od3 an3 od4 an4 od5 an5 od6 an6 od7 an7 od8 an8 od9 an9 od10 an10 od11 an11 od12 an12 od13 an13 od14 an14 od15 an15 od16 an16 od17 an17 od18 an18 od19 an19 od20 an20 od21 an21 od22 an22 od23 an23 od24 an24 od25 an25 od26 an26 od27 an27 od28 an28 od29 an29 od30 an30 od31 an31 od32 an32 od33 an33 od34 an34 od35 an35 od36 an36 od37 an37 od38 an38 od39 an39 od40 an40 od41 an41 od42 an42 od43 an43 od44 an44 od45 an45 od46 an46 od47 an47 od48 an48 od49 an49 od50 an50 od51 an51 od52 an52 od53 an53 : Option Addr} {sl0 sl1 sl2 sl3 sl4 sl5 sl6 sl7 sl8 sl9 sl10 sl11 sl12 sl13 sl14 sl15 sl16 sl17 sl18 sl19 sl20 sl21 sl22 sl23 sl24 sl25 sl26 sl27 sl28 sl29 sl30 sl31 sl32 sl33 sl34 sl35 sl36 sl37 sl38 sl39 sl40 sl41 sl42 sl43 sl44 sl45 sl46 sl47 sl48 sl49 sl50 sl51 sl52 sl53 : Array (Option Value)} {oc0 kV0 dc0 pm0 cd0 ct0 oc1 kV1 dc1 pm1 cd1 ct1 oc2 kV2 dc2 pm2 cd2 ct2 oc3 kV3 dc3 pm3 cd3 ct3 oc4 kV4 dc4 pm4 cd4 ct4 oc5 kV5 dc5 pm5 cd5 ct5 oc6 kV6 dc6 pm6 cd6 ct6 oc7 kV7 dc7 pm7 cd7 ct7 oc8 kV8 dc8 pm8 cd8 ct8 oc9 kV9 dc9 pm9 cd9 ct9 oc10 kV10 dc10 pm10 cd10 ct10 oc11 kV11 dc11 pm11 cd11 ct11 oc12 kV12 dc12 pm12 cd12 ct12 oc13 kV13 dc13 pm13 cd13 ct13 oc14 kV14 dc14 pm14 cd14 ct14 oc15 kV15 dc15 pm15 cd15 ct15 oc16 kV16 dc16 pm16 cd16 ct16 oc17 kV17 dc17 pm17 cd17 ct17 oc18 kV18 dc18 pm18 cd18 ct18 oc19 kV19 dc19 pm19 cd19 ct19 oc20 kV20 dc20 pm20 cd20 ct20 oc21 kV21 dc21 pm21 cd21 ct21 oc22 kV22 dc22 pm22 cd22 ct22 oc23 kV23 dc23 pm23 cd23 ct23 oc24 kV24 dc24 pm24 cd24 ct24 oc25 kV25 dc25 pm25 cd25 ct25 oc26 kV26 dc26 pm26 cd26 ct26 oc27 kV27 dc27 pm27 cd27 ct27 oc28 kV28 dc28 pm28 cd28 ct28 oc29 kV29 dc29 pm29 cd29 ct29 oc30 kV30 dc30 pm30 cd30 ct30 oc31 kV31 dc31 pm31 cd31 ct31 oc32 kV32 dc32 pm32 cd32 ct32 oc33 kV33 dc33 pm33 cd33 ct33 oc34 kV34 dc34 pm34 cd34 ct34 oc35 kV35 dc35 pm35 cd35 ct35 oc36 kV36 dc36 pm36 cd36 ct36 oc37 kV37 dc37 pm37 cd37 ct37 oc38 kV38 dc38 pm38 cd38 ct38 oc39 kV39 dc39 pm39 cd39 ct39 oc40 kV40 dc40 pm40 cd40 ct40 oc41 kV41 dc41 pm41 cd41 ct41 oc42 kV42 dc42 pm42 cd42 ct42 oc43 kV43 dc43 pm43 cd43 ct43 oc44 kV44 dc44 pm44 cd44 ct44 oc45 kV45 dc45 pm45 cd45 ct45 oc46 kV46 dc46 pm46 cd46 ct46 oc47 kV47 dc47 pm47 cd47 ct47 oc48 kV48 dc48 pm48 cd48 ct48 oc49 kV49 dc49 pm49 cd49 ct49 oc50 kV50 dc50 pm50 cd50 ct50 oc51 kV51 dc51 pm51 cd51 ct51 oc52 kV52 dc52 pm52 cd52 ct52 oc53 kV53 dc53 pm53 cd53 ct53 : Value}
    {C_Program C_Runner : Addr}
    (aC_Program : PySem.W.nsIn K mainGlobals "Program" = some (some (.ref C_Program))) (pg_Program : PySem.W.plainGet K C_Program Str.empty = true) (hd_Program : PySem.W.hasDictIn K C_Program = true) (po_Program : PySem.W.plainOver K C_Program = true) (sa_Program : PySem.W.findIn K (.ref C_Program) "__setattr__" = some (some (.builtin "object.__setattr__"))) (mk_Program : PySem.W.makesIn K C_Program = true) (kc_Program : PySem.W.keepIn K (.ref C_Program) = true)
    (n_Program_opened : PySem.W.findIn K (.ref C_Program) "opened" = some none)
    (n_Program_hidden : PySem.W.findIn K (.ref C_Program) "hidden" = some none)
    (n_Program_inner : PySem.W.findIn K (.ref C_Program) "inner" = some none)
    (aC_Runner : PySem.W.nsIn K mainGlobals "Runner" = some (some (.ref C_Runner))) (pg_Runner : PySem.W.plainGet K C_Runner Str.empty = true) (hd_Runner : PySem.W.hasDictIn K C_Runner = true) (po_Runner : PySem.W.plainOver K C_Runner = true) (sa_Runner : PySem.W.findIn K (.ref C_Runner) "__setattr__" = some (some (.builtin "object.__setattr__"))) (mk_Runner : PySem.W.makesIn K C_Runner = true) (kc_Runner : PySem.W.keepIn K (.ref C_Runner) = true)
    (n_Runner_numbers : PySem.W.findIn K (.ref C_Runner) "numbers" = some none)
    (n_Runner_turns : PySem.W.findIn K (.ref C_Runner) "turns" = some none)
    (n_Runner_said : PySem.W.findIn K (.ref C_Runner) "said" = some none)
    (n_Runner_way : PySem.W.findIn K (.ref C_Runner) "way" = some none)
    (n_Runner_row : PySem.W.findIn K (.ref C_Runner) "row" = some none)
    (a0 : PySem.W.nsIn K mainGlobals "_law_mixed" = some (some (.ref f0))) (l0 : K.lookup f0 = some ⟨oc0, od0, .func (PySem.W.fnOf "_law_mixed" "_law_mixed" (defArgs s_law_mixed) (defBody s_law_mixed) (defScope s_law_mixed) .none kV0 dc0 pm0 an0 cd0 ct0), sl0⟩) (c0 : PySem.W.codeIn K cd0 "_law_mixed" = true) (k0 : PySem.W.keepIn K (.ref f0) = true)
    (a1 : PySem.W.nsIn K mainGlobals "_law_name_by" = some (some (.ref f1))) (l1 : K.lookup f1 = some ⟨oc1, od1, .func (PySem.W.fnOf "_law_name_by" "_law_name_by" (defArgs s_law_name_by) (defBody s_law_name_by) (defScope s_law_name_by) .none kV1 dc1 pm1 an1 cd1 ct1), sl1⟩) (c1 : PySem.W.codeIn K cd1 "_law_name_by" = true) (k1 : PySem.W.keepIn K (.ref f1) = true)
    (a2 : PySem.W.nsIn K mainGlobals "_law_twin" = some (some (.ref f2))) (l2 : K.lookup f2 = some ⟨oc2, od2, .func (PySem.W.fnOf "_law_twin" "_law_twin" (defArgs s_law_twin) (defBody s_law_twin) (defScope s_law_twin) .none kV2 dc2 pm2 an2 cd2 ct2), sl2⟩) (c2 : PySem.W.codeIn K cd2 "_law_twin" = true) (k2 : PySem.W.keepIn K (.ref f2) = true)
    (a3 : PySem.W.nsIn K mainGlobals "_law_names" = some (some (.ref f3))) (l3 : K.lookup f3 = some ⟨oc3, od3, .func (PySem.W.fnOf "_law_names" "_law_names" (defArgs s_law_names) (defBody s_law_names) (defScope s_law_names) .none kV3 dc3 pm3 an3 cd3 ct3), sl3⟩) (c3 : PySem.W.codeIn K cd3 "_law_names" = true) (k3 : PySem.W.keepIn K (.ref f3) = true)
    (a4 : PySem.W.nsIn K mainGlobals "_law_cell_at" = some (some (.ref f4))) (l4 : K.lookup f4 = some ⟨oc4, od4, .func (PySem.W.fnOf "_law_cell_at" "_law_cell_at" (defArgs s_law_cell_at) (defBody s_law_cell_at) (defScope s_law_cell_at) .none kV4 dc4 pm4 an4 cd4 ct4), sl4⟩) (c4 : PySem.W.codeIn K cd4 "_law_cell_at" = true) (k4 : PySem.W.keepIn K (.ref f4) = true)
    (a5 : PySem.W.nsIn K mainGlobals "_law_more" = some (some (.ref f5))) (l5 : K.lookup f5 = some ⟨oc5, od5, .func (PySem.W.fnOf "_law_more" "_law_more" (defArgs s_law_more) (defBody s_law_more) (defScope s_law_more) .none kV5 dc5 pm5 an5 cd5 ct5), sl5⟩) (c5 : PySem.W.codeIn K cd5 "_law_more" = true) (k5 : PySem.W.keepIn K (.ref f5) = true)
    (a6 : PySem.W.nsIn K mainGlobals "_law_told" = some (some (.ref f6))) (l6 : K.lookup f6 = some ⟨oc6, od6, .func (PySem.W.fnOf "_law_told" "_law_told" (defArgs s_law_told) (defBody s_law_told) (defScope s_law_told) .none kV6 dc6 pm6 an6 cd6 ct6), sl6⟩) (c6 : PySem.W.codeIn K cd6 "_law_told" = true) (k6 : PySem.W.keepIn K (.ref f6) = true)
    (a7 : PySem.W.nsIn K mainGlobals "_law_end_by" = some (some (.ref f7))) (l7 : K.lookup f7 = some ⟨oc7, od7, .func (PySem.W.fnOf "_law_end_by" "_law_end_by" (defArgs s_law_end_by) (defBody s_law_end_by) (defScope s_law_end_by) .none kV7 dc7 pm7 an7 cd7 ct7), sl7⟩) (c7 : PySem.W.codeIn K cd7 "_law_end_by" = true) (k7 : PySem.W.keepIn K (.ref f7) = true)
    (a8 : PySem.W.nsIn K mainGlobals "_law_formula_by" = some (some (.ref f8))) (l8 : K.lookup f8 = some ⟨oc8, od8, .func (PySem.W.fnOf "_law_formula_by" "_law_formula_by" (defArgs s_law_formula_by) (defBody s_law_formula_by) (defScope s_law_formula_by) .none kV8 dc8 pm8 an8 cd8 ct8), sl8⟩) (c8 : PySem.W.codeIn K cd8 "_law_formula_by" = true) (k8 : PySem.W.keepIn K (.ref f8) = true)
    (a9 : PySem.W.nsIn K mainGlobals "_law_all_names" = some (some (.ref f9))) (l9 : K.lookup f9 = some ⟨oc9, od9, .func (PySem.W.fnOf "_law_all_names" "_law_all_names" (defArgs s_law_all_names) (defBody s_law_all_names) (defScope s_law_all_names) .none kV9 dc9 pm9 an9 cd9 ct9), sl9⟩) (c9 : PySem.W.codeIn K cd9 "_law_all_names" = true) (k9 : PySem.W.keepIn K (.ref f9) = true)
    (a10 : PySem.W.nsIn K mainGlobals "_law_row_by" = some (some (.ref f10))) (l10 : K.lookup f10 = some ⟨oc10, od10, .func (PySem.W.fnOf "_law_row_by" "_law_row_by" (defArgs s_law_row_by) (defBody s_law_row_by) (defScope s_law_row_by) .none kV10 dc10 pm10 an10 cd10 ct10), sl10⟩) (c10 : PySem.W.codeIn K cd10 "_law_row_by" = true) (k10 : PySem.W.keepIn K (.ref f10) = true)
    (a11 : PySem.W.nsIn K mainGlobals "_law_closed" = some (some (.ref f11))) (l11 : K.lookup f11 = some ⟨oc11, od11, .func (PySem.W.fnOf "_law_closed" "_law_closed" (defArgs s_law_closed) (defBody s_law_closed) (defScope s_law_closed) .none kV11 dc11 pm11 an11 cd11 ct11), sl11⟩) (c11 : PySem.W.codeIn K cd11 "_law_closed" = true) (k11 : PySem.W.keepIn K (.ref f11) = true)
    (a12 : PySem.W.nsIn K mainGlobals "_law_put" = some (some (.ref f12))) (l12 : K.lookup f12 = some ⟨oc12, od12, .func (PySem.W.fnOf "_law_put" "_law_put" (defArgs s_law_put) (defBody s_law_put) (defScope s_law_put) .none kV12 dc12 pm12 an12 cd12 ct12), sl12⟩) (c12 : PySem.W.codeIn K cd12 "_law_put" = true) (k12 : PySem.W.keepIn K (.ref f12) = true)
    (a13 : PySem.W.nsIn K mainGlobals "_law_block_by" = some (some (.ref f13))) (l13 : K.lookup f13 = some ⟨oc13, od13, .func (PySem.W.fnOf "_law_block_by" "_law_block_by" (defArgs s_law_block_by) (defBody s_law_block_by) (defScope s_law_block_by) .none kV13 dc13 pm13 an13 cd13 ct13), sl13⟩) (c13 : PySem.W.codeIn K cd13 "_law_block_by" = true) (k13 : PySem.W.keepIn K (.ref f13) = true)
    (a14 : PySem.W.nsIn K mainGlobals "is_list" = some (some (.ref f14))) (l14 : K.lookup f14 = some ⟨oc14, od14, .func (PySem.W.fnOf "is_list" "is_list" (defArgs s_is_list) (defBody s_is_list) (defScope s_is_list) .none kV14 dc14 pm14 an14 cd14 ct14), sl14⟩) (c14 : PySem.W.codeIn K cd14 "is_list" = true) (k14 : PySem.W.keepIn K (.ref f14) = true)
    (a15 : PySem.W.nsIn K mainGlobals "is_name" = some (some (.ref f15))) (l15 : K.lookup f15 = some ⟨oc15, od15, .func (PySem.W.fnOf "is_name" "is_name" (defArgs s_is_name) (defBody s_is_name) (defScope s_is_name) .none kV15 dc15 pm15 an15 cd15 ct15), sl15⟩) (c15 : PySem.W.codeIn K cd15 "is_name" = true) (k15 : PySem.W.keepIn K (.ref f15) = true)
    (a16 : PySem.W.nsIn K mainGlobals "need_names" = some (some (.ref f16))) (l16 : K.lookup f16 = some ⟨oc16, od16, .func (PySem.W.fnOf "need_names" "need_names" (defArgs s_need_names) (defBody s_need_names) (defScope s_need_names) .none kV16 dc16 pm16 an16 cd16 ct16), sl16⟩) (c16 : PySem.W.codeIn K cd16 "need_names" = true) (k16 : PySem.W.keepIn K (.ref f16) = true)
    (a17 : PySem.W.nsIn K mainGlobals "things_of" = some (some (.ref f17))) (l17 : K.lookup f17 = some ⟨oc17, od17, .func (PySem.W.fnOf "things_of" "things_of" (defArgs s_things_of) (defBody s_things_of) (defScope s_things_of) .none kV17 dc17 pm17 an17 cd17 ct17), sl17⟩) (c17 : PySem.W.codeIn K cd17 "things_of" = true) (k17 : PySem.W.keepIn K (.ref f17) = true)
    (a18 : PySem.W.nsIn K mainGlobals "blocks_of" = some (some (.ref f18))) (l18 : K.lookup f18 = some ⟨oc18, od18, .func (PySem.W.fnOf "blocks_of" "blocks_of" (defArgs s_blocks_of) (defBody s_blocks_of) (defScope s_blocks_of) .none kV18 dc18 pm18 an18 cd18 ct18), sl18⟩) (c18 : PySem.W.codeIn K cd18 "blocks_of" = true) (k18 : PySem.W.keepIn K (.ref f18) = true)
    (a19 : PySem.W.nsIn K mainGlobals "need_form" = some (some (.ref f19))) (l19 : K.lookup f19 = some ⟨oc19, od19, .func (PySem.W.fnOf "need_form" "need_form" (defArgs s_need_form) (defBody s_need_form) (defScope s_need_form) .none kV19 dc19 pm19 an19 cd19 ct19), sl19⟩) (c19 : PySem.W.codeIn K cd19 "need_form" = true) (k19 : PySem.W.keepIn K (.ref f19) = true)
    (a20 : PySem.W.nsIn K mainGlobals "is_whole" = some (some (.ref f20))) (l20 : K.lookup f20 = some ⟨oc20, od20, .func (PySem.W.fnOf "is_whole" "is_whole" (defArgs s_is_whole) (defBody s_is_whole) (defScope s_is_whole) .none kV20 dc20 pm20 an20 cd20 ct20), sl20⟩) (c20 : PySem.W.codeIn K cd20 "is_whole" = true) (k20 : PySem.W.keepIn K (.ref f20) = true)
    (a21 : PySem.W.nsIn K mainGlobals "is_number" = some (some (.ref f21))) (l21 : K.lookup f21 = some ⟨oc21, od21, .func (PySem.W.fnOf "is_number" "is_number" (defArgs s_is_number) (defBody s_is_number) (defScope s_is_number) .none kV21 dc21 pm21 an21 cd21 ct21), sl21⟩) (c21 : PySem.W.codeIn K cd21 "is_number" = true) (k21 : PySem.W.keepIn K (.ref f21) = true)
    (a22 : PySem.W.nsIn K mainGlobals "is_end" = some (some (.ref f22))) (l22 : K.lookup f22 = some ⟨oc22, od22, .func (PySem.W.fnOf "is_end" "is_end" (defArgs s_is_end) (defBody s_is_end) (defScope s_is_end) .none kV22 dc22 pm22 an22 cd22 ct22), sl22⟩) (c22 : PySem.W.codeIn K cd22 "is_end" = true) (k22 : PySem.W.keepIn K (.ref f22) = true)
    (a23 : PySem.W.nsIn K mainGlobals "need_formula" = some (some (.ref f23))) (l23 : K.lookup f23 = some ⟨oc23, od23, .func (PySem.W.fnOf "need_formula" "need_formula" (defArgs s_need_formula) (defBody s_need_formula) (defScope s_need_formula) .none kV23 dc23 pm23 an23 cd23 ct23), sl23⟩) (c23 : PySem.W.codeIn K cd23 "need_formula" = true) (k23 : PySem.W.keepIn K (.ref f23) = true)
    (a24 : PySem.W.nsIn K mainGlobals "formula_of" = some (some (.ref f24))) (l24 : K.lookup f24 = some ⟨oc24, od24, .func (PySem.W.fnOf "formula_of" "formula_of" (defArgs s_formula_of) (defBody s_formula_of) (defScope s_formula_of) .none kV24 dc24 pm24 an24 cd24 ct24), sl24⟩) (c24 : PySem.W.codeIn K cd24 "formula_of" = true) (k24 : PySem.W.keepIn K (.ref f24) = true)
    (a25 : PySem.W.nsIn K mainGlobals "need_row" = some (some (.ref f25))) (l25 : K.lookup f25 = some ⟨oc25, od25, .func (PySem.W.fnOf "need_row" "need_row" (defArgs s_need_row) (defBody s_need_row) (defScope s_need_row) .none kV25 dc25 pm25 an25 cd25 ct25), sl25⟩) (c25 : PySem.W.codeIn K cd25 "need_row" = true) (k25 : PySem.W.keepIn K (.ref f25) = true)
    (a26 : PySem.W.nsIn K mainGlobals "need_block" = some (some (.ref f26))) (l26 : K.lookup f26 = some ⟨oc26, od26, .func (PySem.W.fnOf "need_block" "need_block" (defArgs s_need_block) (defBody s_need_block) (defScope s_need_block) .none kV26 dc26 pm26 an26 cd26 ct26), sl26⟩) (c26 : PySem.W.codeIn K cd26 "need_block" = true) (k26 : PySem.W.keepIn K (.ref f26) = true)
    (a27 : PySem.W.nsIn K mainGlobals "_law_values" = some (some (.ref f27))) (l27 : K.lookup f27 = some ⟨oc27, od27, .func (PySem.W.fnOf "_law_values" "_law_values" (defArgs s_law_values) (defBody s_law_values) (defScope s_law_values) .none kV27 dc27 pm27 an27 cd27 ct27), sl27⟩) (c27 : PySem.W.codeIn K cd27 "_law_values" = true) (k27 : PySem.W.keepIn K (.ref f27) = true)
    (a28 : PySem.W.nsIn K mainGlobals "need_values" = some (some (.ref f28))) (l28 : K.lookup f28 = some ⟨oc28, od28, .func (PySem.W.fnOf "need_values" "need_values" (defArgs s_need_values) (defBody s_need_values) (defScope s_need_values) .none kV28 dc28 pm28 an28 cd28 ct28), sl28⟩) (c28 : PySem.W.codeIn K cd28 "need_values" = true) (k28 : PySem.W.keepIn K (.ref f28) = true)
    (a29 : PySem.W.nsIn K mainGlobals "all_names" = some (some (.ref f29))) (l29 : K.lookup f29 = some ⟨oc29, od29, .func (PySem.W.fnOf "all_names" "all_names" (defArgs s_all_names) (defBody s_all_names) (defScope s_all_names) .none kV29 dc29 pm29 an29 cd29 ct29), sl29⟩) (c29 : PySem.W.codeIn K cd29 "all_names" = true) (k29 : PySem.W.keepIn K (.ref f29) = true)
    (a30 : PySem.W.nsIn K mainGlobals "names_in" = some (some (.ref f30))) (l30 : K.lookup f30 = some ⟨oc30, od30, .func (PySem.W.fnOf "names_in" "names_in" (defArgs s_names_in) (defBody s_names_in) (defScope s_names_in) .none kV30 dc30 pm30 an30 cd30 ct30), sl30⟩) (c30 : PySem.W.codeIn K cd30 "names_in" = true) (k30 : PySem.W.keepIn K (.ref f30) = true)
    (a31 : PySem.W.nsIn K mainGlobals "all_in" = some (some (.ref f31))) (l31 : K.lookup f31 = some ⟨oc31, od31, .func (PySem.W.fnOf "all_in" "all_in" (defArgs s_all_in) (defBody s_all_in) (defScope s_all_in) .none kV31 dc31 pm31 an31 cd31 ct31), sl31⟩) (c31 : PySem.W.codeIn K cd31 "all_in" = true) (k31 : PySem.W.keepIn K (.ref f31) = true)
    (a32 : PySem.W.nsIn K mainGlobals "put_together" = some (some (.ref f32))) (l32 : K.lookup f32 = some ⟨oc32, od32, .func (PySem.W.fnOf "put_together" "put_together" (defArgs s_put_together) (defBody s_put_together) (defScope s_put_together) .none kV32 dc32 pm32 an32 cd32 ct32), sl32⟩) (c32 : PySem.W.codeIn K cd32 "put_together" = true) (k32 : PySem.W.keepIn K (.ref f32) = true)
    (a33 : PySem.W.nsIn K mainGlobals "reckoned" = some (some (.ref f33))) (l33 : K.lookup f33 = some ⟨oc33, od33, .func (PySem.W.fnOf "reckoned" "reckoned" (defArgs s_reckoned) (defBody s_reckoned) (defScope s_reckoned) .none kV33 dc33 pm33 an33 cd33 ct33), sl33⟩) (c33 : PySem.W.codeIn K cd33 "reckoned" = true) (k33 : PySem.W.keepIn K (.ref f33) = true)
    (a34 : PySem.W.nsIn K mainGlobals "turned" = some (some (.ref f34))) (l34 : K.lookup f34 = some ⟨oc34, od34, .func (PySem.W.fnOf "turned" "turned" (defArgs s_turned) (defBody s_turned) (defScope s_turned) .none kV34 dc34 pm34 an34 cd34 ct34), sl34⟩) (c34 : PySem.W.codeIn K cd34 "turned" = true) (k34 : PySem.W.keepIn K (.ref f34) = true)
    (a35 : PySem.W.nsIn K mainGlobals "size_of" = some (some (.ref f35))) (l35 : K.lookup f35 = some ⟨oc35, od35, .func (PySem.W.fnOf "size_of" "size_of" (defArgs s_size_of) (defBody s_size_of) (defScope s_size_of) .none kV35 dc35 pm35 an35 cd35 ct35), sl35⟩) (c35 : PySem.W.codeIn K cd35 "size_of" = true) (k35 : PySem.W.keepIn K (.ref f35) = true)
    (a36 : PySem.W.nsIn K mainGlobals "many_in" = some (some (.ref f36))) (l36 : K.lookup f36 = some ⟨oc36, od36, .func (PySem.W.fnOf "many_in" "many_in" (defArgs s_many_in) (defBody s_many_in) (defScope s_many_in) .none kV36 dc36 pm36 an36 cd36 ct36), sl36⟩) (c36 : PySem.W.codeIn K cd36 "many_in" = true) (k36 : PySem.W.keepIn K (.ref f36) = true)
    (a37 : PySem.W.nsIn K mainGlobals "stepped" = some (some (.ref f37))) (l37 : K.lookup f37 = some ⟨oc37, od37, .func (PySem.W.fnOf "stepped" "stepped" (defArgs s_stepped) (defBody s_stepped) (defScope s_stepped) .none kV37 dc37 pm37 an37 cd37 ct37), sl37⟩) (c37 : PySem.W.codeIn K cd37 "stepped" = true) (k37 : PySem.W.keepIn K (.ref f37) = true)
    (a38 : PySem.W.nsIn K mainGlobals "gone" = some (some (.ref f38))) (l38 : K.lookup f38 = some ⟨oc38, od38, .func (PySem.W.fnOf "gone" "gone" (defArgs s_gone) (defBody s_gone) (defScope s_gone) .none kV38 dc38 pm38 an38 cd38 ct38), sl38⟩) (c38 : PySem.W.codeIn K cd38 "gone" = true) (k38 : PySem.W.keepIn K (.ref f38) = true)
    (a39 : PySem.W.nsIn K mainGlobals "run" = some (some (.ref f39))) (l39 : K.lookup f39 = some ⟨oc39, od39, .func (PySem.W.fnOf "run" "run" (defArgs s_run) (defBody s_run) (defScope s_run) .none kV39 dc39 pm39 an39 cd39 ct39), sl39⟩) (c39 : PySem.W.codeIn K cd39 "run" = true) (k39 : PySem.W.keepIn K (.ref f39) = true)
    (a40 : PySem.W.nsIn K mainGlobals "_law_value" = some (some (.ref f40))) (l40 : K.lookup f40 = some ⟨oc40, od40, .func (PySem.W.fnOf "_law_value" "_law_value" (defArgs s_law_value) (defBody s_law_value) (defScope s_law_value) .none kV40 dc40 pm40 an40 cd40 ct40), sl40⟩) (c40 : PySem.W.codeIn K cd40 "_law_value" = true) (k40 : PySem.W.keepIn K (.ref f40) = true)
    (a41 : PySem.W.nsIn K mainGlobals "_law_walked" = some (some (.ref f41))) (l41 : K.lookup f41 = some ⟨oc41, od41, .func (PySem.W.fnOf "_law_walked" "_law_walked" (defArgs s_law_walked) (defBody s_law_walked) (defScope s_law_walked) .none kV41 dc41 pm41 an41 cd41 ct41), sl41⟩) (c41 : PySem.W.codeIn K cd41 "_law_walked" = true) (k41 : PySem.W.keepIn K (.ref f41) = true)
    (a42 : PySem.W.nsIn K mainGlobals "_law_count" = some (some (.ref f42))) (l42 : K.lookup f42 = some ⟨oc42, od42, .func (PySem.W.fnOf "_law_count" "_law_count" (defArgs s_law_count) (defBody s_law_count) (defScope s_law_count) .none kV42 dc42 pm42 an42 cd42 ct42), sl42⟩) (c42 : PySem.W.codeIn K cd42 "_law_count" = true) (k42 : PySem.W.keepIn K (.ref f42) = true)
    (a43 : PySem.W.nsIn K mainGlobals "_law_sized" = some (some (.ref f43))) (l43 : K.lookup f43 = some ⟨oc43, od43, .func (PySem.W.fnOf "_law_sized" "_law_sized" (defArgs s_law_sized) (defBody s_law_sized) (defScope s_law_sized) .none kV43 dc43 pm43 an43 cd43 ct43), sl43⟩) (c43 : PySem.W.codeIn K cd43 "_law_sized" = true) (k43 : PySem.W.keepIn K (.ref f43) = true)
    (a44 : PySem.W.nsIn K mainGlobals "_law_due" = some (some (.ref f44))) (l44 : K.lookup f44 = some ⟨oc44, od44, .func (PySem.W.fnOf "_law_due" "_law_due" (defArgs s_law_due) (defBody s_law_due) (defScope s_law_due) .none kV44 dc44 pm44 an44 cd44 ct44), sl44⟩) (c44 : PySem.W.codeIn K cd44 "_law_due" = true) (k44 : PySem.W.keepIn K (.ref f44) = true)
    (a45 : PySem.W.nsIn K mainGlobals "_law_whole" = some (some (.ref f45))) (l45 : K.lookup f45 = some ⟨oc45, od45, .func (PySem.W.fnOf "_law_whole" "_law_whole" (defArgs s_law_whole) (defBody s_law_whole) (defScope s_law_whole) .none kV45 dc45 pm45 an45 cd45 ct45), sl45⟩) (c45 : PySem.W.codeIn K cd45 "_law_whole" = true) (k45 : PySem.W.keepIn K (.ref f45) = true)
    (a46 : PySem.W.nsIn K mainGlobals "_law_same" = some (some (.ref f46))) (l46 : K.lookup f46 = some ⟨oc46, od46, .func (PySem.W.fnOf "_law_same" "_law_same" (defArgs s_law_same) (defBody s_law_same) (defScope s_law_same) .none kV46 dc46 pm46 an46 cd46 ct46), sl46⟩) (c46 : PySem.W.codeIn K cd46 "_law_same" = true) (k46 : PySem.W.keepIn K (.ref f46) = true)
    (a47 : PySem.W.nsIn K mainGlobals "law" = some (some (.ref f47))) (l47 : K.lookup f47 = some ⟨oc47, od47, .func (PySem.W.fnOf "law" "law" (defArgs s_k06) (defBody s_k06) (defScope s_k06) .none kV47 dc47 pm47 an47 cd47 ct47), sl47⟩) (c47 : PySem.W.codeIn K cd47 "law" = true) (k47 : PySem.W.keepIn K (.ref f47) = true)
    (a48 : PySem.W.findIn K (.ref C_Program) "__init__" = some (some (.ref f48))) (i48 : PySem.W.isFn K (.ref f48) = true) (l48 : K.lookup f48 = some ⟨oc48, od48, .func (PySem.W.fnOf "__init__" "Program.__init__" (defArgs s_Program___init__) (defBody s_Program___init__) (defScope s_Program___init__) .none kV48 dc48 pm48 an48 cd48 ct48), sl48⟩) (c48 : PySem.W.codeIn K cd48 "Program.__init__" = true) (k48 : PySem.W.keepIn K (.ref f48) = true)
    (a49 : PySem.W.findIn K (.ref C_Program) "told" = some (some (.ref f49))) (i49 : PySem.W.isFn K (.ref f49) = true) (l49 : K.lookup f49 = some ⟨oc49, od49, .func (PySem.W.fnOf "told" "Program.told" (defArgs s_Program_told) (defBody s_Program_told) (defScope s_Program_told) .none kV49 dc49 pm49 an49 cd49 ct49), sl49⟩) (c49 : PySem.W.codeIn K cd49 "Program.told" = true) (k49 : PySem.W.keepIn K (.ref f49) = true)
    (a50 : PySem.W.findIn K (.ref C_Program) "names" = some (some (.ref f50))) (i50 : PySem.W.isFn K (.ref f50) = true) (l50 : K.lookup f50 = some ⟨oc50, od50, .func (PySem.W.fnOf "names" "Program.names" (defArgs s_Program_names) (defBody s_Program_names) (defScope s_Program_names) .none kV50 dc50 pm50 an50 cd50 ct50), sl50⟩) (c50 : PySem.W.codeIn K cd50 "Program.names" = true) (k50 : PySem.W.keepIn K (.ref f50) = true)
    (a51 : PySem.W.findIn K (.ref C_Runner) "__init__" = some (some (.ref f51))) (i51 : PySem.W.isFn K (.ref f51) = true) (l51 : K.lookup f51 = some ⟨oc51, od51, .func (PySem.W.fnOf "__init__" "Runner.__init__" (defArgs s_Runner___init__) (defBody s_Runner___init__) (defScope s_Runner___init__) .none kV51 dc51 pm51 an51 cd51 ct51), sl51⟩) (c51 : PySem.W.codeIn K cd51 "Runner.__init__" = true) (k51 : PySem.W.keepIn K (.ref f51) = true)
    (a52 : PySem.W.findIn K (.ref C_Runner) "stops" = some (some (.ref f52))) (i52 : PySem.W.isFn K (.ref f52) = true) (l52 : K.lookup f52 = some ⟨oc52, od52, .func (PySem.W.fnOf "stops" "Runner.stops" (defArgs s_Runner_stops) (defBody s_Runner_stops) (defScope s_Runner_stops) .none kV52 dc52 pm52 an52 cd52 ct52), sl52⟩) (c52 : PySem.W.codeIn K cd52 "Runner.stops" = true) (k52 : PySem.W.keepIn K (.ref f52) = true)
    (a53 : PySem.W.findIn K (.ref C_Program) "block" = some (some (.ref f53))) (i53 : PySem.W.isFn K (.ref f53) = true) (l53 : K.lookup f53 = some ⟨oc53, od53, .func (PySem.W.fnOf "block" "Program.block" (defArgs s_Program_block) (defBody s_Program_block) (defScope s_Program_block) .none kV53 dc53 pm53 an53 cd53 ct53), sl53⟩) (c53 : PySem.W.codeIn K cd53 "Program.block" = true) (k53 : PySem.W.keepIn K (.ref f53) = true)
    (z_range : PySem.W.nsIn K mainGlobals "range" = some none)
    (z_len : PySem.W.nsIn K mainGlobals "len" = some none)
    (z_str : PySem.W.nsIn K mainGlobals "str" = some none)
    (z_list : PySem.W.nsIn K mainGlobals "list" = some none)
    (z_enumerate : PySem.W.nsIn K mainGlobals "enumerate" = some none)
    (z_max : PySem.W.nsIn K mainGlobals "max" = some none)
    (z_int : PySem.W.nsIn K mainGlobals "int" = some none)
    (z_tuple : PySem.W.nsIn K mainGlobals "tuple" = some none)
    (z_isinstance : PySem.W.nsIn K mainGlobals "isinstance" = some none)
    (z_bool : PySem.W.nsIn K mainGlobals "bool" = some none)
    (z_dict : PySem.W.nsIn K mainGlobals "dict" = some none)
    (z_sorted : PySem.W.nsIn K mainGlobals "sorted" = some none)
    (z_set : PySem.W.nsIn K mainGlobals "set" = some none)
    (z_sum : PySem.W.nsIn K mainGlobals "sum" = some none)
    (z_reversed : PySem.W.nsIn K mainGlobals "reversed" = some none)
    {a_WORDS : Addr} {d_WORDS : Option Addr} {n_WORDS : Nat} {sl_WORDS : Array (Option Value)} {t_WORDS0 t_WORDS1 t_WORDS2 t_WORDS3 t_WORDS4 t_WORDS5 t_WORDS6 : Tok} (g_WORDS : PySem.W.nsIn K mainGlobals "WORDS" = some (some (.ref a_WORDS))) (l_WORDS : K.lookup a_WORDS = some ⟨.type "tuple", d_WORDS, .seq #[.str "set" t_WORDS0, .str "tell" t_WORDS1, .str "skip" t_WORDS2, .str "if" t_WORDS3, .str "else" t_WORDS4, .str "while" t_WORDS5, .str "end" t_WORDS6] n_WORDS, sl_WORDS⟩)
    {t_LETTERS : Tok} (g_LETTERS : PySem.W.nsIn K mainGlobals "LETTERS" = some (some (.str "abcdefghijklmnopqrstuvwxyz" t_LETTERS)))
    {t_FIGURES : Tok} (g_FIGURES : PySem.W.nsIn K mainGlobals "FIGURES" = some (some (.str "0123456789" t_FIGURES)))
    {t_LIMIT : Tok} (g_LIMIT : PySem.W.nsIn K mainGlobals "LIMIT" = some (some (.int 1000000 t_LIMIT)))
    {a_SIGNS : Addr} {d_SIGNS : Option Addr} {n_SIGNS : Nat} {sl_SIGNS : Array (Option Value)} {t_SIGNS0 t_SIGNS1 t_SIGNS2 t_SIGNS3 t_SIGNS4 t_SIGNS5 : Tok} (g_SIGNS : PySem.W.nsIn K mainGlobals "SIGNS" = some (some (.ref a_SIGNS))) (l_SIGNS : K.lookup a_SIGNS = some ⟨.type "tuple", d_SIGNS, .seq #[.str "+" t_SIGNS0, .str "-" t_SIGNS1, .str "*" t_SIGNS2, .str "/" t_SIGNS3, .str "<" t_SIGNS4, .str "=" t_SIGNS5] n_SIGNS, sl_SIGNS⟩)
    {t_DEEPEST_ROW : Tok} (g_DEEPEST_ROW : PySem.W.nsIn K mainGlobals "DEEPEST_ROW" = some (some (.int 8 t_DEEPEST_ROW)))
    {t_MOST_DEEP : Tok} (g_MOST_DEEP : PySem.W.nsIn K mainGlobals "MOST_DEEP" = some (some (.int 12 t_MOST_DEEP)))
    {t_MOST_TURNS : Tok} (g_MOST_TURNS : PySem.W.nsIn K mainGlobals "MOST_TURNS" = some (some (.int 1000 t_MOST_TURNS)))
    : ∃ fd : FuncData, (∀ (s : Shared) (v : Value), BindsTo s fd ⟨[v], []⟩ [("_law_script", v)]) ∧ ∀ base : Heap, K.In base → base.Ns mainGlobals mg → FnOk P w K mg base CX0 46 fa fd ["_law_script"] (sp_k06 K) := by
  have e := hfa.symm.trans (PySem.W.mg_of X G a47)
  cases e
  have d0 : DefAt K mg "_law_mixed" s_law_mixed ["_law_number"] := ⟨⟨f0, _, (fun_mk (st := s_law_mixed) l0 c0 k0), PySem.W.mg_of X G a0, (fun_mk (st := s_law_mixed) l0 c0 k0).binds (ps := ["_law_number"]) fun _ _ _ _ _ _ us hl => match us, hl with | [_], _ => rfl⟩⟩
  have d1 : DefAt K mg "_law_name_by" s_law_name_by ["_law_cell"] := ⟨⟨f1, _, (fun_mk (st := s_law_name_by) l1 c1 k1), PySem.W.mg_of X G a1, (fun_mk (st := s_law_name_by) l1 c1 k1).binds (ps := ["_law_cell"]) fun _ _ _ _ _ _ us hl => match us, hl with | [_], _ => rfl⟩⟩
  have d2 : DefAt K mg "_law_twin" s_law_twin ["_law_name", "_law_cell"] := ⟨⟨f2, _, (fun_mk (st := s_law_twin) l2 c2 k2), PySem.W.mg_of X G a2, (fun_mk (st := s_law_twin) l2 c2 k2).binds (ps := ["_law_name", "_law_cell"]) fun _ _ _ _ _ _ us hl => match us, hl with | [_, _], _ => rfl⟩⟩
  have d3 : DefAt K mg "_law_names" s_law_names ["_law_one", "_law_other"] := ⟨⟨f3, _, (fun_mk (st := s_law_names) l3 c3 k3), PySem.W.mg_of X G a3, (fun_mk (st := s_law_names) l3 c3 k3).binds (ps := ["_law_one", "_law_other"]) fun _ _ _ _ _ _ us hl => match us, hl with | [_, _], _ => rfl⟩⟩
  have d4 : DefAt K mg "_law_cell_at" s_law_cell_at ["_law_script", "_law_k"] := ⟨⟨f4, _, (fun_mk (st := s_law_cell_at) l4 c4 k4), PySem.W.mg_of X G a4, (fun_mk (st := s_law_cell_at) l4 c4 k4).binds (ps := ["_law_script", "_law_k"]) fun _ _ _ _ _ _ us hl => match us, hl with | [_, _], _ => rfl⟩⟩
  have d5 : DefAt K mg "_law_more" s_law_more ["_law_names_here", "_law_cell"] := ⟨⟨f5, _, (fun_mk (st := s_law_more) l5 c5 k5), PySem.W.mg_of X G a5, (fun_mk (st := s_law_more) l5 c5 k5).binds (ps := ["_law_names_here", "_law_cell"]) fun _ _ _ _ _ _ us hl => match us, hl with | [_, _], _ => rfl⟩⟩
  have d6 : DefAt K mg "_law_told" s_law_told ["_law_names_here", "_law_more_here", "_law_cell"] := ⟨⟨f6, _, (fun_mk (st := s_law_told) l6 c6 k6), PySem.W.mg_of X G a6, (fun_mk (st := s_law_told) l6 c6 k6).binds (ps := ["_law_names_here", "_law_more_here", "_law_cell"]) fun _ _ _ _ _ _ us hl => match us, hl with | [_, _, _], _ => rfl⟩⟩
  have d7 : DefAt K mg "_law_end_by" s_law_end_by ["_law_number", "_law_names_here"] := ⟨⟨f7, _, (fun_mk (st := s_law_end_by) l7 c7 k7), PySem.W.mg_of X G a7, (fun_mk (st := s_law_end_by) l7 c7 k7).binds (ps := ["_law_number", "_law_names_here"]) fun _ _ _ _ _ _ us hl => match us, hl with | [_, _], _ => rfl⟩⟩
  have d8 : DefAt K mg "_law_formula_by" s_law_formula_by ["_law_number", "_law_names_here", "_law_low", "_law_divide", "_law_left"] := ⟨⟨f8, _, (fun_mk (st := s_law_formula_by) l8 c8 k8), PySem.W.mg_of X G a8, (fun_mk (st := s_law_formula_by) l8 c8 k8).binds (ps := ["_law_number", "_law_names_here", "_law_low", "_law_divide", "_law_left"]) fun _ _ _ _ _ _ us hl => match us, hl with | [_, _, _, _, _], _ => rfl⟩⟩
  have d9 : DefAt K mg "_law_all_names" s_law_all_names ["_law_formula"] := ⟨⟨f9, _, (fun_mk (st := s_law_all_names) l9 c9 k9), PySem.W.mg_of X G a9, (fun_mk (st := s_law_all_names) l9 c9 k9).binds (ps := ["_law_formula"]) fun _ _ _ _ _ _ us hl => match us, hl with | [_], _ => rfl⟩⟩
  have d10 : DefAt K mg "_law_row_by" s_law_row_by ["_law_names_here", "_law_more_here", "_law_dark", "_law_mode"] := ⟨⟨f10, _, (fun_mk (st := s_law_row_by) l10 c10 k10), PySem.W.mg_of X G a10, (fun_mk (st := s_law_row_by) l10 c10 k10).binds (ps := ["_law_names_here", "_law_more_here", "_law_dark", "_law_mode"]) fun _ _ _ _ _ _ us hl => match us, hl with | [_, _, _, _], _ => rfl⟩⟩
  have d11 : DefAt K mg "_law_closed" s_law_closed ["_law_stack"] := ⟨⟨f11, _, (fun_mk (st := s_law_closed) l11 c11 k11), PySem.W.mg_of X G a11, (fun_mk (st := s_law_closed) l11 c11 k11).binds (ps := ["_law_stack"]) fun _ _ _ _ _ _ us hl => match us, hl with | [_], _ => rfl⟩⟩
  have d12 : DefAt K mg "_law_put" s_law_put ["_law_stack", "_law_names_here", "_law_more_here", "_law_mode"] := ⟨⟨f12, _, (fun_mk (st := s_law_put) l12 c12 k12), PySem.W.mg_of X G a12, (fun_mk (st := s_law_put) l12 c12 k12).binds (ps := ["_law_stack", "_law_names_here", "_law_more_here", "_law_mode"]) fun _ _ _ _ _ _ us hl => match us, hl with | [_, _, _, _], _ => rfl⟩⟩
  have d13 : DefAt K mg "_law_block_by" s_law_block_by ["_law_cells", "_law_names_here", "_law_loose"] := ⟨⟨f13, _, (fun_mk (st := s_law_block_by) l13 c13 k13), PySem.W.mg_of X G a13, (fun_mk (st := s_law_block_by) l13 c13 k13).binds (ps := ["_law_cells", "_law_names_here", "_law_loose"]) fun _ _ _ _ _ _ us hl => match us, hl with | [_, _, _], _ => rfl⟩⟩
  have d14 : DefAt K mg "is_list" s_is_list ["thing"] := ⟨⟨f14, _, (fun_mk (st := s_is_list) l14 c14 k14), PySem.W.mg_of X G a14, (fun_mk (st := s_is_list) l14 c14 k14).binds (ps := ["thing"]) fun _ _ _ _ _ _ us hl => match us, hl with | [_], _ => rfl⟩⟩
  have d15 : DefAt K mg "is_name" s_is_name ["thing"] := ⟨⟨f15, _, (fun_mk (st := s_is_name) l15 c15 k15), PySem.W.mg_of X G a15, (fun_mk (st := s_is_name) l15 c15 k15).binds (ps := ["thing"]) fun _ _ _ _ _ _ us hl => match us, hl with | [_], _ => rfl⟩⟩
  have d16 : DefAt K mg "need_names" s_need_names ["names", "told"] := ⟨⟨f16, _, (fun_mk (st := s_need_names) l16 c16 k16), PySem.W.mg_of X G a16, (fun_mk (st := s_need_names) l16 c16 k16).binds (ps := ["names", "told"]) fun _ _ _ _ _ _ us hl => match us, hl with | [_, _], _ => rfl⟩⟩
  have d17 : DefAt K mg "things_of" s_things_of ["word"] := ⟨⟨f17, _, (fun_mk (st := s_things_of) l17 c17 k17), PySem.W.mg_of X G a17, (fun_mk (st := s_things_of) l17 c17 k17).binds (ps := ["word"]) fun _ _ _ _ _ _ us hl => match us, hl with | [_], _ => rfl⟩⟩
  have d18 : DefAt K mg "blocks_of" s_blocks_of ["row"] := ⟨⟨f18, _, (fun_mk (st := s_blocks_of) l18 c18 k18), PySem.W.mg_of X G a18, (fun_mk (st := s_blocks_of) l18 c18 k18).binds (ps := ["row"]) fun _ _ _ _ _ _ us hl => match us, hl with | [_], _ => rfl⟩⟩
  have d19 : DefAt K mg "need_form" s_need_form ["row"] := ⟨⟨f19, _, (fun_mk (st := s_need_form) l19 c19 k19), PySem.W.mg_of X G a19, (fun_mk (st := s_need_form) l19 c19 k19).binds (ps := ["row"]) fun _ _ _ _ _ _ us hl => match us, hl with | [_], _ => rfl⟩⟩
  have d20 : DefAt K mg "is_whole" s_is_whole ["thing"] := ⟨⟨f20, _, (fun_mk (st := s_is_whole) l20 c20 k20), PySem.W.mg_of X G a20, (fun_mk (st := s_is_whole) l20 c20 k20).binds (ps := ["thing"]) fun _ _ _ _ _ _ us hl => match us, hl with | [_], _ => rfl⟩⟩
  have d21 : DefAt K mg "is_number" s_is_number ["thing"] := ⟨⟨f21, _, (fun_mk (st := s_is_number) l21 c21 k21), PySem.W.mg_of X G a21, (fun_mk (st := s_is_number) l21 c21 k21).binds (ps := ["thing"]) fun _ _ _ _ _ _ us hl => match us, hl with | [_], _ => rfl⟩⟩
  have d22 : DefAt K mg "is_end" s_is_end ["thing"] := ⟨⟨f22, _, (fun_mk (st := s_is_end) l22 c22 k22), PySem.W.mg_of X G a22, (fun_mk (st := s_is_end) l22 c22 k22).binds (ps := ["thing"]) fun _ _ _ _ _ _ us hl => match us, hl with | [_], _ => rfl⟩⟩
  have d23 : DefAt K mg "need_formula" s_need_formula ["thing", "left"] := ⟨⟨f23, _, (fun_mk (st := s_need_formula) l23 c23 k23), PySem.W.mg_of X G a23, (fun_mk (st := s_need_formula) l23 c23 k23).binds (ps := ["thing", "left"]) fun _ _ _ _ _ _ us hl => match us, hl with | [_, _], _ => rfl⟩⟩
  have d24 : DefAt K mg "formula_of" s_formula_of ["row"] := ⟨⟨f24, _, (fun_mk (st := s_formula_of) l24 c24 k24), PySem.W.mg_of X G a24, (fun_mk (st := s_formula_of) l24 c24 k24).binds (ps := ["row"]) fun _ _ _ _ _ _ us hl => match us, hl with | [_], _ => rfl⟩⟩
  have d25 : DefAt K mg "need_row" s_need_row ["row", "deep"] := ⟨⟨f25, _, (fun_mk (st := s_need_row) l25 c25 k25), PySem.W.mg_of X G a25, (fun_mk (st := s_need_row) l25 c25 k25).binds (ps := ["row", "deep"]) fun _ _ _ _ _ _ us hl => match us, hl with | [_, _], _ => rfl⟩⟩
  have d26 : DefAt K mg "need_block" s_need_block ["block", "deep"] := ⟨⟨f26, _, (fun_mk (st := s_need_block) l26 c26 k26), PySem.W.mg_of X G a26, (fun_mk (st := s_need_block) l26 c26 k26).binds (ps := ["block", "deep"]) fun _ _ _ _ _ _ us hl => match us, hl with | [_, _], _ => rfl⟩⟩
  have d27 : DefAt K mg "_law_values" s_law_values ["_law_script", "_law_at", "_law_names_here"] := ⟨⟨f27, _, (fun_mk (st := s_law_values) l27 c27 k27), PySem.W.mg_of X G a27, (fun_mk (st := s_law_values) l27 c27 k27).binds (ps := ["_law_script", "_law_at", "_law_names_here"]) fun _ _ _ _ _ _ us hl => match us, hl with | [_, _, _], _ => rfl⟩⟩
  have d28 : DefAt K mg "need_values" s_need_values ["program", "values"] := ⟨⟨f28, _, (fun_mk (st := s_need_values) l28 c28 k28), PySem.W.mg_of X G a28, (fun_mk (st := s_need_values) l28 c28 k28).binds (ps := ["program", "values"]) fun _ _ _ _ _ _ us hl => match us, hl with | [_, _], _ => rfl⟩⟩
  have d29 : DefAt K mg "all_names" s_all_names ["formula"] := ⟨⟨f29, _, (fun_mk (st := s_all_names) l29 c29 k29), PySem.W.mg_of X G a29, (fun_mk (st := s_all_names) l29 c29 k29).binds (ps := ["formula"]) fun _ _ _ _ _ _ us hl => match us, hl with | [_], _ => rfl⟩⟩
  have d30 : DefAt K mg "names_in" s_names_in ["formula"] := ⟨⟨f30, _, (fun_mk (st := s_names_in) l30 c30 k30), PySem.W.mg_of X G a30, (fun_mk (st := s_names_in) l30 c30 k30).binds (ps := ["formula"]) fun _ _ _ _ _ _ us hl => match us, hl with | [_], _ => rfl⟩⟩
  have d31 : DefAt K mg "all_in" s_all_in ["block"] := ⟨⟨f31, _, (fun_mk (st := s_all_in) l31 c31 k31), PySem.W.mg_of X G a31, (fun_mk (st := s_all_in) l31 c31 k31).binds (ps := ["block"]) fun _ _ _ _ _ _ us hl => match us, hl with | [_], _ => rfl⟩⟩
  have d32 : DefAt K mg "put_together" s_put_together ["sign", "one", "other"] := ⟨⟨f32, _, (fun_mk (st := s_put_together) l32 c32 k32), PySem.W.mg_of X G a32, (fun_mk (st := s_put_together) l32 c32 k32).binds (ps := ["sign", "one", "other"]) fun _ _ _ _ _ _ us hl => match us, hl with | [_, _, _], _ => rfl⟩⟩
  have d33 : DefAt K mg "reckoned" s_reckoned ["formula", "values"] := ⟨⟨f33, _, (fun_mk (st := s_reckoned) l33 c33 k33), PySem.W.mg_of X G a33, (fun_mk (st := s_reckoned) l33 c33 k33).binds (ps := ["formula", "values"]) fun _ _ _ _ _ _ us hl => match us, hl with | [_, _], _ => rfl⟩⟩
  have d34 : DefAt K mg "turned" s_turned ["runner", "row", "number"] := ⟨⟨f34, _, (fun_mk (st := s_turned) l34 c34 k34), PySem.W.mg_of X G a34, (fun_mk (st := s_turned) l34 c34 k34).binds (ps := ["runner", "row", "number"]) fun _ _ _ _ _ _ us hl => match us, hl with | [_, _, _], _ => rfl⟩⟩
  have d35 : DefAt K mg "size_of" s_size_of ["row"] := ⟨⟨f35, _, (fun_mk (st := s_size_of) l35 c35 k35), PySem.W.mg_of X G a35, (fun_mk (st := s_size_of) l35 c35 k35).binds (ps := ["row"]) fun _ _ _ _ _ _ us hl => match us, hl with | [_], _ => rfl⟩⟩
  have d36 : DefAt K mg "many_in" s_many_in ["block"] := ⟨⟨f36, _, (fun_mk (st := s_many_in) l36 c36 k36), PySem.W.mg_of X G a36, (fun_mk (st := s_many_in) l36 c36 k36).binds (ps := ["block"]) fun _ _ _ _ _ _ us hl => match us, hl with | [_], _ => rfl⟩⟩
  have d37 : DefAt K mg "stepped" s_stepped ["runner", "row", "number"] := ⟨⟨f37, _, (fun_mk (st := s_stepped) l37 c37 k37), PySem.W.mg_of X G a37, (fun_mk (st := s_stepped) l37 c37 k37).binds (ps := ["runner", "row", "number"]) fun _ _ _ _ _ _ us hl => match us, hl with | [_, _, _], _ => rfl⟩⟩
  have d38 : DefAt K mg "gone" s_gone ["runner", "block", "number"] := ⟨⟨f38, _, (fun_mk (st := s_gone) l38 c38 k38), PySem.W.mg_of X G a38, (fun_mk (st := s_gone) l38 c38 k38).binds (ps := ["runner", "block", "number"]) fun _ _ _ _ _ _ us hl => match us, hl with | [_, _, _], _ => rfl⟩⟩
  have d39 : DefAt K mg "run" s_run ["program", "values", "turns"] := ⟨⟨f39, _, (fun_mk (st := s_run) l39 c39 k39), PySem.W.mg_of X G a39, (fun_mk (st := s_run) l39 c39 k39).binds (ps := ["program", "values", "turns"]) fun _ _ _ _ _ _ us hl => match us, hl with | [_, _, _], _ => rfl⟩⟩
  have d40 : DefAt K mg "_law_value" s_law_value ["_law_formula", "_law_values_here"] := ⟨⟨f40, _, (fun_mk (st := s_law_value) l40 c40 k40), PySem.W.mg_of X G a40, (fun_mk (st := s_law_value) l40 c40 k40).binds (ps := ["_law_formula", "_law_values_here"]) fun _ _ _ _ _ _ us hl => match us, hl with | [_, _], _ => rfl⟩⟩
  have d41 : DefAt K mg "_law_walked" s_law_walked ["_law_rows", "_law_values_here", "_law_turns"] := ⟨⟨f41, _, (fun_mk (st := s_law_walked) l41 c41 k41), PySem.W.mg_of X G a41, (fun_mk (st := s_law_walked) l41 c41 k41).binds (ps := ["_law_rows", "_law_values_here", "_law_turns"]) fun _ _ _ _ _ _ us hl => match us, hl with | [_, _, _], _ => rfl⟩⟩
  have d42 : DefAt K mg "_law_count" s_law_count ["_law_rows"] := ⟨⟨f42, _, (fun_mk (st := s_law_count) l42 c42 k42), PySem.W.mg_of X G a42, (fun_mk (st := s_law_count) l42 c42 k42).binds (ps := ["_law_rows"]) fun _ _ _ _ _ _ us hl => match us, hl with | [_], _ => rfl⟩⟩
  have d43 : DefAt K mg "_law_sized" s_law_sized ["_law_block", "_law_number"] := ⟨⟨f43, _, (fun_mk (st := s_law_sized) l43 c43 k43), PySem.W.mg_of X G a43, (fun_mk (st := s_law_sized) l43 c43 k43).binds (ps := ["_law_block", "_law_number"]) fun _ _ _ _ _ _ us hl => match us, hl with | [_, _], _ => rfl⟩⟩
  have d44 : DefAt K mg "_law_due" s_law_due ["_law_program", "_law_block", "_law_values_here", "_law_turns"] := ⟨⟨f44, _, (fun_mk (st := s_law_due) l44 c44 k44), PySem.W.mg_of X G a44, (fun_mk (st := s_law_due) l44 c44 k44).binds (ps := ["_law_program", "_law_block", "_law_values_here", "_law_turns"]) fun _ _ _ _ _ _ us hl => match us, hl with | [_, _, _, _], _ => rfl⟩⟩
  have d45 : DefAt K mg "_law_whole" s_law_whole ["_law_found"] := ⟨⟨f45, _, (fun_mk (st := s_law_whole) l45 c45 k45), PySem.W.mg_of X G a45, (fun_mk (st := s_law_whole) l45 c45 k45).binds (ps := ["_law_found"]) fun _ _ _ _ _ _ us hl => match us, hl with | [_], _ => rfl⟩⟩
  have d46 : DefAt K mg "_law_same" s_law_same ["_law_told_here", "_law_due_here"] := ⟨⟨f46, _, (fun_mk (st := s_law_same) l46 c46 k46), PySem.W.mg_of X G a46, (fun_mk (st := s_law_same) l46 c46 k46).binds (ps := ["_law_told_here", "_law_due_here"]) fun _ _ _ _ _ _ us hl => match us, hl with | [_, _], _ => rfl⟩⟩
  have cc_Program : CC K "Program" as_Program C_Program := ⟨aC_Program, ⟨pg_Program, hd_Program, po_Program, sa_Program⟩, fun f hf => by
    simp only [as_Program, List.mem_cons, List.not_mem_nil, or_false] at hf
    rcases hf with rfl | rfl | rfl
    · exact n_Program_opened
    · exact n_Program_hidden
    · exact n_Program_inner⟩
  have cc_Runner : CC K "Runner" as_Runner C_Runner := ⟨aC_Runner, ⟨pg_Runner, hd_Runner, po_Runner, sa_Runner⟩, fun f hf => by
    simp only [as_Runner, List.mem_cons, List.not_mem_nil, or_false] at hf
    rcases hf with rfl | rfl | rfl | rfl | rfl
    · exact n_Runner_numbers
    · exact n_Runner_turns
    · exact n_Runner_said
    · exact n_Runner_way
    · exact n_Runner_row⟩
  have T : Top K mg := ⟨d0, d1, d2, d3, d4, d5, d6, d7, d8, d9, d10, d11, d12, d13, d14, d15, d16, d17, d18, d19, d20, d21, d22, d23, d24, d25, d26, d27, d28, d29, d30, d31, d32, d33, d34, d35, d36, d37, d38, d39, d40, d41, d42, d43, d44, d45, d46, ⟨C_Program, cc_Program, PySem.W.mg_of X G aC_Program, ⟨⟨f48, _, (fun_mk (x := "__init__") (qual := "Program.__init__") (st := s_Program___init__) l48 c48 k48), ⟨mk_Program, a48, i48, kc_Program⟩, (fun_mk (x := "__init__") (qual := "Program.__init__") (st := s_Program___init__) l48 c48 k48).binds (ps := ["self", "opens", "secrets", "block"]) fun _ _ _ _ _ _ us hl => match us, hl with | [_, _, _, _], _ => rfl⟩⟩, ⟨⟨f49, _, (fun_mk (x := "told") (qual := "Program.told") (st := s_Program_told) l49 c49 k49), ⟨a49, i49, k49⟩, (fun_mk (x := "told") (qual := "Program.told") (st := s_Program_told) l49 c49 k49).binds (ps := ["self"]) fun _ _ _ _ _ _ us hl => match us, hl with | [_], _ => rfl⟩⟩, ⟨⟨f50, _, (fun_mk (x := "names") (qual := "Program.names") (st := s_Program_names) l50 c50 k50), ⟨a50, i50, k50⟩, (fun_mk (x := "names") (qual := "Program.names") (st := s_Program_names) l50 c50 k50).binds (ps := ["self"]) fun _ _ _ _ _ _ us hl => match us, hl with | [_], _ => rfl⟩⟩, ⟨⟨f53, _, (fun_mk (x := "block") (qual := "Program.block") (st := s_Program_block) l53 c53 k53), ⟨a53, i53, k53⟩, (fun_mk (x := "block") (qual := "Program.block") (st := s_Program_block) l53 c53 k53).binds (ps := ["self"]) fun _ _ _ _ _ _ us hl => match us, hl with | [_], _ => rfl⟩⟩⟩, ⟨C_Runner, cc_Runner, PySem.W.mg_of X G aC_Runner, ⟨⟨f51, _, (fun_mk (x := "__init__") (qual := "Runner.__init__") (st := s_Runner___init__) l51 c51 k51), ⟨mk_Runner, a51, i51, kc_Runner⟩, (fun_mk (x := "__init__") (qual := "Runner.__init__") (st := s_Runner___init__) l51 c51 k51).binds (ps := ["self", "values", "turns"]) fun _ _ _ _ _ _ us hl => match us, hl with | [_, _, _], _ => rfl⟩⟩, ⟨⟨f52, _, (fun_mk (x := "stops") (qual := "Runner.stops") (st := s_Runner_stops) l52 c52 k52), ⟨a52, i52, k52⟩, (fun_mk (x := "stops") (qual := "Runner.stops") (st := s_Runner_stops) l52 c52 k52).binds (ps := ["self", "way", "number"]) fun _ _ _ _ _ _ us hl => match us, hl with | [_, _, _], _ => rfl⟩⟩⟩, PySem.W.mg_none_of X G z_range, PySem.W.mg_none_of X G z_len, PySem.W.mg_none_of X G z_str, PySem.W.mg_none_of X G z_list, PySem.W.mg_none_of X G z_enumerate, PySem.W.mg_none_of X G z_max, PySem.W.mg_none_of X G z_int, PySem.W.mg_none_of X G z_tuple, PySem.W.mg_none_of X G z_isinstance, PySem.W.mg_none_of X G z_bool, PySem.W.mg_none_of X G z_dict, PySem.W.mg_none_of X G z_sorted, PySem.W.mg_none_of X G z_set, PySem.W.mg_none_of X G z_sum, PySem.W.mg_none_of X G z_reversed, ⟨_, PySem.W.mg_of X G g_WORDS, fun H => .inr ⟨_, _, _, l_WORDS, rfl, rfl, show 7 ≤ sizeLine from by decide, .cons ⟨_, rfl⟩ (.cons ⟨_, rfl⟩ (.cons ⟨_, rfl⟩ (.cons ⟨_, rfl⟩ (.cons ⟨_, rfl⟩ (.cons ⟨_, rfl⟩ (.cons ⟨_, rfl⟩ (.nil)))))))⟩⟩, ⟨_, PySem.W.mg_of X G g_LETTERS⟩, ⟨_, PySem.W.mg_of X G g_FIGURES⟩, ⟨_, PySem.W.mg_of X G g_LIMIT⟩, ⟨_, PySem.W.mg_of X G g_SIGNS, fun H => .inr ⟨_, _, _, l_SIGNS, rfl, rfl, show 6 ≤ sizeLine from by decide, .cons ⟨_, rfl⟩ (.cons ⟨_, rfl⟩ (.cons ⟨_, rfl⟩ (.cons ⟨_, rfl⟩ (.cons ⟨_, rfl⟩ (.cons ⟨_, rfl⟩ (.nil))))))⟩⟩, ⟨_, PySem.W.mg_of X G g_DEEPEST_ROW⟩, ⟨_, PySem.W.mg_of X G g_MOST_DEEP⟩, ⟨_, PySem.W.mg_of X G g_MOST_TURNS⟩⟩
  exact ⟨PySem.W.fnOf "law" "law" (defArgs s_k06) (defBody s_k06) (defScope s_k06) .none kV47 dc47 pm47 an47 cd47 ct47, fun s v => .of_eq rfl, fun base _ _ => ok_law T (fun_mk (st := s_k06) l47 c47 k47)⟩
theorem walk {l : PySem.W.OpenLaw} {q : Program} {loose : List Str} {XP : (Str → Option Value) → Heap → Prop} {YP : World → Heap → Prop} {d : DefRec} {K : Params → PySem.W.Frag} (hn : l.most = some 63) (hdf : d.params.defaults = [])
    (hY : ∀ (w : World) (h : Heap), YP w h → (K w.params).In h)
    (F : ∀ (w : World) (mg : Str → Option Value) (fa : Addr) (h : Heap), (K w.params).In h → h.Ns mainGlobals mg → mg d.name = some (.ref fa) →
      ∃ fd : FuncData, (∀ (s : Shared) (u : Value), BindsTo s fd ⟨[u], []⟩ [("_law_script", u)]) ∧ ∀ base : Heap, (K w.params).In base → base.Ns mainGlobals mg → FnOk l.prog w (K w.params) mg base CX0 46 fa fd ["_law_script"] (sp_k06 (K w.params))) :
    PySem.W.WalkO q loose XP YP l.row.toRowW d [] (fun f vs => PySem.call f vs) :=
  L2.walk_of (n := 63) (k := 46) (x := "_law_script") (CX := fun _ => CX0) (sp := fun w => sp_k06 (K w.params)) hn (by decide) hdf ⟨rfl, by decide, by decide⟩ hY F (fun w H a ns hl ho hS => law_in_k06 (K w.params) H a ns hl hS) fun _ _ _ _ _ z => z
end Hu
open PySem PySem.W PyProof.Rows
set_option maxRecDepth 100000 in
set_option maxHeartbeats 0 in
theorem PySem.Challenge.cw_hushkind_k06_runs_holds : PySem.Challenge.rw_hushkind_k06_runs.Holds := by
  w_on; o_law; k_head; (case hw => w_witness2)
  k_fill
  refine Hu.walk (l := PySem.Challenge.rw_hushkind_k06_runs) rfl rfl (fun w h Y => PySem.W.kIn_of Y) ?F
  case F =>
    intro w mg fa h KX G hmg
    refine' Hu.all_mk KX G hmg ?aC_Program ?pg_Program ?hd_Program ?po_Program ?sa_Program ?mk_Program ?kc_Program ?n_Program_opened ?n_Program_hidden ?n_Program_inner ?aC_Runner ?pg_Runner ?hd_Runner ?po_Runner ?sa_Runner ?mk_Runner ?kc_Runner ?n_Runner_numbers ?n_Runner_turns ?n_Runner_said ?n_Runner_way ?n_Runner_row ?a0 ?l0 ?c0 ?k0 ?a1 ?l1 ?c1 ?k1 ?a2 ?l2 ?c2 ?k2 ?a3 ?l3 ?c3 ?k3 ?a4 ?l4 ?c4 ?k4 ?a5 ?l5 ?c5 ?k5 ?a6 ?l6 ?c6 ?k6 ?a7 ?l7 ?c7 ?k7 ?a8 ?l8 ?c8 ?k8 ?a9 ?l9 ?c9 ?k9 ?a10 ?l10 ?c10 ?k10 ?a11 ?l11 ?c11 ?k11 ?a12 ?l12 ?c12 ?k12 ?a13 ?l13 ?c13 ?k13 ?a14 ?l14 ?c14 ?k14 ?a15 ?l15 ?c15 ?k15 ?a16 ?l16 ?c16 ?k16 ?a17 ?l17 ?c17 ?k17 ?a18 ?l18 ?c18 ?k18 ?a19 ?l19 ?c19 ?k19 ?a20 ?l20 ?c20 ?k20 ?a21 ?l21 ?c21 ?k21 ?a22 ?l22 ?c22 ?k22 ?a23 ?l23 ?c23 ?k23 ?a24 ?l24 ?c24 ?k24 ?a25 ?l25 ?c25 ?k25 ?a26 ?l26 ?c26 ?k26 ?a27 ?l27 ?c27 ?k27 ?a28 ?l28 ?c28 ?k28 ?a29 ?l29 ?c29 ?k29 ?a30 ?l30 ?c30 ?k30 ?a31 ?l31 ?c31 ?k31 ?a32 ?l32 ?c32 ?k32 ?a33 ?l33 ?c33 ?k33 ?a34 ?l34 ?c34 ?k34 ?a35 ?l35 ?c35 ?k35 ?a36 ?l36 ?c36 ?k36 ?a37 ?l37 ?c37 ?k37 ?a38 ?l38 ?c38 ?k38 ?a39 ?l39 ?c39 ?k39 ?a40 ?l40 ?c40 ?k40 ?a41 ?l41 ?c41 ?k41 ?a42 ?l42 ?c42 ?k42 ?a43 ?l43 ?c43 ?k43 ?a44 ?l44 ?c44 ?k44 ?a45 ?l45 ?c45 ?k45 ?a46 ?l46 ?c46 ?k46 ?a47 ?l47 ?c47 ?k47 ?a48 ?i48 ?l48 ?c48 ?k48 ?a49 ?i49 ?l49 ?c49 ?k49 ?a50 ?i50 ?l50 ?c50 ?k50 ?a51 ?i51 ?l51 ?c51 ?k51 ?a52 ?i52 ?l52 ?c52 ?k52 ?a53 ?i53 ?l53 ?c53 ?k53 ?z_range ?z_len ?z_str ?z_list ?z_enumerate ?z_max ?z_int ?z_tuple ?z_isinstance ?z_bool ?z_dict ?z_sorted ?z_set ?z_sum ?z_reversed ?g_WORDS ?l_WORDS ?g_LETTERS ?g_FIGURES ?g_LIMIT ?g_SIGNS ?l_SIGNS ?g_DEEPEST_ROW ?g_MOST_DEEP ?g_MOST_TURNS
    (case aC_Program => k_is)
    (case pg_Program => k_is)
    (case hd_Program => k_is)
    (case po_Program => k_is)
    (case sa_Program => k_is)
    (case mk_Program => k_is)
    (case kc_Program => k_is)
    (case n_Program_opened => k_is)
    (case n_Program_hidden => k_is)
    (case n_Program_inner => k_is)
    (case aC_Runner => k_is)
    (case pg_Runner => k_is)
    (case hd_Runner => k_is)
    (case po_Runner => k_is)
    (case sa_Runner => k_is)
    (case mk_Runner => k_is)
    (case kc_Runner => k_is)
    (case n_Runner_numbers => k_is)
    (case n_Runner_turns => k_is)
    (case n_Runner_said => k_is)
    (case n_Runner_way => k_is)
    (case n_Runner_row => k_is)
    (case a0 => k_is)
    (case l0 => k_is)
    (case c0 => k_is)
    (case k0 => k_is)
    (case a1 => k_is)
    (case l1 => k_is)
    (case c1 => k_is)
    (case k1 => k_is)
    (case a2 => k_is)
    (case l2 => k_is)
    (case c2 => k_is)
    (case k2 => k_is)
    (case a3 => k_is)
    (case l3 => k_is)
    (case c3 => k_is)
    (case k3 => k_is)
    (case a4 => k_is)
    (case l4 => k_is)
    (case c4 => k_is)
    (case k4 => k_is)
    (case a5 => k_is)
    (case l5 => k_is)
    (case c5 => k_is)
    (case k5 => k_is)
    (case a6 => k_is)
    (case l6 => k_is)
    (case c6 => k_is)
    (case k6 => k_is)
    (case a7 => k_is)
    (case l7 => k_is)
    (case c7 => k_is)
    (case k7 => k_is)
    (case a8 => k_is)
    (case l8 => k_is)
    (case c8 => k_is)
    (case k8 => k_is)
    (case a9 => k_is)
    (case l9 => k_is)
    (case c9 => k_is)
    (case k9 => k_is)
    (case a10 => k_is)
    (case l10 => k_is)
    (case c10 => k_is)
    (case k10 => k_is)
    (case a11 => k_is)
    (case l11 => k_is)
    (case c11 => k_is)
    (case k11 => k_is)
    (case a12 => k_is)
    (case l12 => k_is)
    (case c12 => k_is)
    (case k12 => k_is)
    (case a13 => k_is)
    (case l13 => k_is)
    (case c13 => k_is)
    (case k13 => k_is)
    (case a14 => k_is)
    (case l14 => k_is)
    (case c14 => k_is)
    (case k14 => k_is)
    (case a15 => k_is)
    (case l15 => k_is)
    (case c15 => k_is)
    (case k15 => k_is)
    (case a16 => k_is)
    (case l16 => k_is)
    (case c16 => k_is)
    (case k16 => k_is)
    (case a17 => k_is)
    (case l17 => k_is)
    (case c17 => k_is)
    (case k17 => k_is)
    (case a18 => k_is)
    (case l18 => k_is)
    (case c18 => k_is)
    (case k18 => k_is)
    (case a19 => k_is)
    (case l19 => k_is)
    (case c19 => k_is)
    (case k19 => k_is)
    (case a20 => k_is)
    (case l20 => k_is)
    (case c20 => k_is)
    (case k20 => k_is)
    (case a21 => k_is)
    (case l21 => k_is)
    (case c21 => k_is)
    (case k21 => k_is)
    (case a22 => k_is)
    (case l22 => k_is)
    (case c22 => k_is)
    (case k22 => k_is)
    (case a23 => k_is)
    (case l23 => k_is)
    (case c23 => k_is)
    (case k23 => k_is)
    (case a24 => k_is)
    (case l24 => k_is)
    (case c24 => k_is)
    (case k24 => k_is)
    (case a25 => k_is)
    (case l25 => k_is)
    (case c25 => k_is)
    (case k25 => k_is)
    (case a26 => k_is)
    (case l26 => k_is)
    (case c26 => k_is)
    (case k26 => k_is)
    (case a27 => k_is)
    (case l27 => k_is)
    (case c27 => k_is)
    (case k27 => k_is)
    (case a28 => k_is)
    (case l28 => k_is)
    (case c28 => k_is)
    (case k28 => k_is)
    (case a29 => k_is)
    (case l29 => k_is)
    (case c29 => k_is)
    (case k29 => k_is)
    (case a30 => k_is)
    (case l30 => k_is)
    (case c30 => k_is)
    (case k30 => k_is)
    (case a31 => k_is)
    (case l31 => k_is)
    (case c31 => k_is)
    (case k31 => k_is)
    (case a32 => k_is)
    (case l32 => k_is)
    (case c32 => k_is)
    (case k32 => k_is)
    (case a33 => k_is)
    (case l33 => k_is)
    (case c33 => k_is)
    (case k33 => k_is)
    (case a34 => k_is)
    (case l34 => k_is)
    (case c34 => k_is)
    (case k34 => k_is)
    (case a35 => k_is)
    (case l35 => k_is)
    (case c35 => k_is)
    (case k35 => k_is)
    (case a36 => k_is)
    (case l36 => k_is)
    (case c36 => k_is)
    (case k36 => k_is)
    (case a37 => k_is)
    (case l37 => k_is)
    (case c37 => k_is)
    (case k37 => k_is)
    (case a38 => k_is)
    (case l38 => k_is)
    (case c38 => k_is)
    (case k38 => k_is)
    (case a39 => k_is)
    (case l39 => k_is)
    (case c39 => k_is)
    (case k39 => k_is)
    (case a40 => k_is)
    (case l40 => k_is)
    (case c40 => k_is)
    (case k40 => k_is)
    (case a41 => k_is)
    (case l41 => k_is)
    (case c41 => k_is)
    (case k41 => k_is)
    (case a42 => k_is)
    (case l42 => k_is)
    (case c42 => k_is)
    (case k42 => k_is)
    (case a43 => k_is)
    (case l43 => k_is)
    (case c43 => k_is)
    (case k43 => k_is)
    (case a44 => k_is)
    (case l44 => k_is)
    (case c44 => k_is)
    (case k44 => k_is)
    (case a45 => k_is)
    (case l45 => k_is)
    (case c45 => k_is)
    (case k45 => k_is)
    (case a46 => k_is)
    (case l46 => k_is)
    (case c46 => k_is)
    (case k46 => k_is)
    (case a47 => k_is)
    (case l47 => k_is)
    (case c47 => k_is)
    (case k47 => k_is)
    (case a48 => k_is)
    (case i48 => k_is)
    (case l48 => k_is)
    (case c48 => k_is)
    (case k48 => k_is)
    (case a49 => k_is)
    (case i49 => k_is)
    (case l49 => k_is)
    (case c49 => k_is)
    (case k49 => k_is)
    (case a50 => k_is)
    (case i50 => k_is)
    (case l50 => k_is)
    (case c50 => k_is)
    (case k50 => k_is)
    (case a51 => k_is)
    (case i51 => k_is)
    (case l51 => k_is)
    (case c51 => k_is)
    (case k51 => k_is)
    (case a52 => k_is)
    (case i52 => k_is)
    (case l52 => k_is)
    (case c52 => k_is)
    (case k52 => k_is)
    (case a53 => k_is)
    (case i53 => k_is)
    (case l53 => k_is)
    (case c53 => k_is)
    (case k53 => k_is)
    (case z_range => k_is)
    (case z_len => k_is)
    (case z_str => k_is)
    (case z_list => k_is)
    (case z_enumerate => k_is)
    (case z_max => k_is)
    (case z_int => k_is)
    (case z_tuple => k_is)
    (case z_isinstance => k_is)
    (case z_bool => k_is)
    (case z_dict => k_is)
    (case z_sorted => k_is)
    (case z_set => k_is)
    (case z_sum => k_is)
    (case z_reversed => k_is)
    (case g_WORDS => k_is)
    (case l_WORDS => k_is)
    (case g_LETTERS => k_is)
    (case g_FIGURES => k_is)
    (case g_LIMIT => k_is)
    (case g_SIGNS => k_is)
    (case l_SIGNS => k_is)
    (case g_DEEPEST_ROW => k_is)
    (case g_MOST_DEEP => k_is)
    (case g_MOST_TURNS => k_is)
#print axioms PySem.Challenge.cw_hushkind_k06_runs_holds
