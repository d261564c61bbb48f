import PyProof.Rows.All
import Wide.All
import OpenK.AllK
import Wide.FinOn
import HandS.ForMost
import HandS.TupAny
import HandS.IsInst
import HandS.Codes
import HandS.More
import HandS.Small
import HandS.DictComp
import HandS.DeepEq
import HandS.SetFor
import HandS.Strs
import PyProof.Rows.SortShellAny
import PySem.Challenge.RW_hushkind_k02_formulas_reckoned
set_option Elab.async false
set_option linter.all false
set_option maxRecDepth 100000
set_option maxHeartbeats 4000000
/-! the ground: merged rules by values, steps of a reading, a def as it is called -/
namespace Hu
open PySem PySem.Spec PyProof.Rows L2

/-! ### merged rules -/
def rAddI : R2 := rI0 fun i j => .int (i + j)
def rAddT : R2 := fun x y H Q => ∃ i j, x = .str i ∧ y = .str j ∧ i.length + j.length ≤ sizeLine ∧ Q (.str (i ++ j)) H
def rAdd (K : PySem.W.Frag) : R2 := fun x y H Q => rAddI x y H Q ∨ rAddT x y H Q ∨ rCat x y H Q ∨ rCatA K x y H Q
def rSub : R2 := rI0 fun i j => .int (i - j)
def rMulI : R2 := rI CMul fun i j => .int (i * j)
def rMul : R2 := fun x y H Q => rMulI x y H Q ∨ rRep x y H Q
def rMod : R2 := rI (fun _ j => 0 < j) fun i j => .int (i % j)
def rDiv : R2 := rI CDiv fun i j => .int (i / j)
def rPow : R2 := rI CPow fun i j => .int (i ^ j.toNat)
def rLt : R2 := rI0 fun i j => .bl (decide (i < j))
def rLe : R2 := rI0 fun i j => .bl (decide (i ≤ j))
def rGt : R2 := rI0 fun i j => .bl (decide (j < i))
def rGe : R2 := rI0 fun i j => .bl (decide (j ≤ i))
def rEq2 (K : PySem.W.Frag) : R2 := fun x y H Q => rEq x y H Q ∨ rEqD K x y H Q ∨ rEqDA x y H Q ∨ rEqV K x y H Q
def rNe2 (K : PySem.W.Frag) : R2 := fun x y H Q => rNe x y H Q ∨ rNeD K x y H Q ∨ rNeDA x y H Q
def rInSg (neg : Bool) : R2 := fun x y H Q => ∃ (c : Nat) (z : Str), x = .str ⟨#[c]⟩ ∧ y = .str z ∧ Q (.bl (if neg then !decide (c ∈ z.cps.toList) else decide (c ∈ z.cps.toList))) H
def rIn2 (K : PySem.W.Frag) (neg : Bool) : R2 := fun x y H Q => rIn K neg x y H Q ∨ rInSg neg x y H Q
def rDIn (neg : Bool) : R2 := fun y x H Q => ∃ a o, x = .ref a ∧ DGet H a y o ∧ Q (.bl (if neg then !o.isSome else o.isSome)) H
def rIsN2 (neg : Bool) : R2 := fun x y H Q => y = .non ∧ Q (.bl (if neg then !decide (x = .non) else decide (x = .non))) H
def rNeg : V → Hp → VK → Prop := rU fun i => .int (-i)
def rSl (K : PySem.W.Frag) : V → Option Int → Option Int → Hp → VK → Prop := fun x lo hi H Q => rSlL K x lo hi H Q ∨ rSlA K x lo hi H Q ∨ C8.rSlX x lo hi H Q
def rLenA (K : PySem.W.Frag) : List V → Hp → VK → Prop := fun xs H Q => ∃ x n, xs = [x] ∧ LenV K x H n ∧ Q (.int (n : Nat)) H
def rIntB : List V → Hp → VK → Prop := fun xs H Q => (∃ i, xs = [.int i] ∧ Q (.int i) H) ∨ ∃ k, xs = [.bl k] ∧ Q (.int (if k then 1 else 0)) H
def rIntS : List V → Hp → VK → Prop := fun xs H Q => ∃ a n, xs = [.str a] ∧ PySem.intText? a = some n ∧ a.length ≤ 640 ∧ Q (.int n) H
def rInt : List V → Hp → VK → Prop := fun xs H Q => rIntB xs H Q ∨ rIntS xs H Q
def rStr : List V → Hp → VK → Prop := fun xs H Q => ∃ i, xs = [.int i] ∧ i.natAbs.log2 < 1920 ∧ Q (.str (toString i)) H
def rListS (K : PySem.W.Frag) : List V → Hp → VK → Prop := fun xs H Q => ∃ p ys, xs = [.ref p] ∧ (SqL K H p ys ∨ SqT K H p ys) ∧ ∀ l, H l = none → Q (.ref l) (upd H l (.lst ys))
def rListD : List V → Hp → VK → Prop := fun xs H Q => ∃ (a : Addr) (kvs : List (Key × V)), xs = [.ref a] ∧ Rd H a (.dK kvs) ∧ ∀ p, H p = none → Q (.ref p) (upd H p (.lst (kvs.map fun kv => kV kv.1)))
def rList (K : PySem.W.Frag) : List V → Hp → VK → Prop := fun xs H Q => rListS K xs H Q ∨ rListD xs H Q
def rTupO (K : PySem.W.Frag) : List V → Hp → VK → Prop := fun xs H Q => ∃ p ys, xs = [.ref p] ∧ ((SqL K H p ys ∧ ∀ l, H l = none → Q (.ref l) (upd H l (.tup ys))) ∨ (SqT K H p ys ∧ Q (.ref p) H))
def rIsi2 (K : PySem.W.Frag) : List V → Hp → VK → Prop := fun xs H Q => rIsi K xs H Q ∨ rIsiT K xs H Q
section
variable {X : Cx}
theorem o_add : OpR X (binaryOp .Add) (rAdd X.K) := OpR.or op_add (OpR.or op_add_str (OpR.or op_cat op_catA))
theorem o_sub : OpR X (binaryOp .Sub) rSub := op_sub
theorem o_mul : OpR X (binaryOp .Mult) rMul := OpR.or op_mul op_rep
theorem o_mod : OpR X (binaryOp .Mod) rMod := op_mod
theorem o_div : OpR X (binaryOp .FloorDiv) rDiv := op_fdiv
theorem o_pow : OpR X (binaryOp .Pow) rPow := op_pow
theorem o_lt : OpR X (compareOp .Lt) rLt := op_lt
theorem o_le : OpR X (compareOp .LtE) rLe := op_le
theorem o_gt : OpR X (compareOp .Gt) rGt := op_gt
theorem o_ge : OpR X (compareOp .GtE) rGe := op_ge
theorem o_eq (hu : X.A.units + 64 < cLine) : OpR X (compareOp .Eq) (rEq2 X.K) := OpR.or op_eq (OpR.or (op_eqD hu) (OpR.or (op_eq_dictA (Nat.lt_of_le_of_lt (Nat.le_add_right _ _) hu)) (op_eqV hu)))
theorem o_ne (hu : X.A.units + 64 < cLine) : OpR X (compareOp .NotEq) (rNe2 X.K) := OpR.or op_ne (OpR.or (op_neD hu) (op_ne_dictA (Nat.lt_of_le_of_lt (Nat.le_add_right _ _) hu)))
theorem o_in : OpR X (compareOp .In) (rIn2 X.K false) := OpR.or op_in_seq op_in_sign
theorem o_nin : OpR X (compareOp .NotIn) (rIn2 X.K true) := OpR.or op_notIn_seq op_notIn_sign
theorem o_din (hu : X.A.units + 64 < cLine) : OpR X (compareOp .In) (rDIn false) := by
  intro pins s σ H y x v u Q I ry rx h
  obtain ⟨a, o, hx, g, q⟩ := h
  subst hx
  cases rx
  exact d_in (Nat.lt_of_le_of_lt (Nat.add_le_add_left (by decide) _) hu) I g ry fun s3 I3 => ⟨.bl o.isSome, H, I3, rfl, q⟩
theorem o_ndin (hu : X.A.units + 64 < cLine) : OpR X (compareOp .NotIn) (rDIn true) := by
  intro pins s σ H y x v u Q I ry rx h
  obtain ⟨a, o, hx, g, q⟩ := h
  subst hx
  cases rx
  exact d_notIn (Nat.lt_of_le_of_lt (Nat.add_le_add_left (by decide) _) hu) I g ry fun s3 I3 => ⟨.bl (!o.isSome), H, I3, rfl, q⟩
theorem o_isN : OpR X (compareOp .Is) (rIsN2 false) := op_isN
theorem o_notN : OpR X (compareOp .IsNot) (rIsN2 true) := op_notN
theorem o_neg : UnR X (unaryOp .USub) rNeg := un_neg
theorem o_sl : SlR X (rSl X.K) := SlR.or sl_list (SlR.or sl_tupA C8.sl_txt)
theorem o_len : CallR X (.builtin "len") (rLenA X.K) := call_len
theorem o_int : CallR X (.type "int") rInt := CallR.or call_int1 call_int_str
theorem o_str : CallR X (.type "str") rStr := call_str_int
theorem o_list (hc : X.calm = true) : CallR X (.type "list") (rList X.K) := CallR.or call_list_of (call_listD hc)
theorem o_tuple : CallR X (.type "tuple") (rTupO X.K) := call_tuple_of
theorem o_isi : CallR X (.builtin "isinstance") (rIsi2 X.K) := CallR.or call_isi call_isiT
end

def rDictC : List V → Hp → VK → Prop := fun xs H Q => ∃ (a : Addr) (kvs : List (Key × V)), xs = [.ref a] ∧ Rd H a (.dK kvs) ∧ ∀ p, H p = none → Q (.ref p) (upd H p (.dK kvs))
theorem o_dict {X : Cx} : CallR X (.type "dict") rDictC := call_dictD
theorem pe_globI {X : Cx} {x : Str} {i : Int} {pos : Pos} (hg : Gl X x) (hm : ∃ t, X.mg x = some (.int i t)) (hd : (x == ("__debug__" : Str)) = false := by decide) : PE X (.Name x pos) (tC (.int i)) := by
  obtain ⟨t, hm⟩ := hm
  exact pe_glob hg hm ⟨t, rfl⟩ hd
theorem pe_globS {X : Cx} {x z : Str} {pos : Pos} (hg : Gl X x) (hm : ∃ t, X.mg x = some (.str z t)) (hd : (x == ("__debug__" : Str)) = false := by decide) : PE X (.Name x pos) (tC (.str z)) := by
  obtain ⟨t, hm⟩ := hm
  exact pe_glob hg hm ⟨t, rfl⟩ hd
/-! ### a loop over a list or a tuple -/
def iSeq (K : PySem.W.Frag) (tl : TE) : TI := fun σ H R => tl σ H fun x H1 => ∃ a, x = .ref a ∧ (((∃ xs, SqL K H1 a xs) ∧ R (Itl K a) H1) ∨ ((∃ xs, SqT K H1 a xs) ∧ R (Itt K a) H1))
section
variable {X : Cx} {tg : Expr}
theorem pi_seq {l : Expr} {tl : TE} (hl : PE X l tl) : PI X tg l (iSeq X.K tl) := by
  refine ⟨fun pins s σ H R I h => ?_⟩
  refine thn (hl.run pins s σ H _ I h) fun v s1 ⟨x, H1, I1, r1, q1⟩ => ?_
  obtain ⟨a, e, q⟩ := q1
  subst e
  cases r1
  rcases q with ⟨⟨xs, hq⟩, q⟩ | ⟨⟨xs, hq⟩, q⟩
  · obtain ⟨its, rv, pl, _⟩ := I1.list hq
    refine wpAny_pyIter_list pl.isList ?_
    refine ⟨s1.heap.objs.size, [s1.heap.objs.size], _, _, H1, rfl, I1.kept (t' := s1.toks) fun b o e => Heap.get?_push_of_some _ e, turn_list a _, ⟨_, Heap.get?_push_size _ rfl, rfl, rfl⟩, fun b hb => ?_, q⟩
    obtain rfl : b = s1.heap.objs.size := by simpa using hb
    exact I1.fpOk (Nat.le_refl _) (I1.hok.fresh (Nat.le_refl _))
  · obtain ⟨its, rv, pt, _⟩ := I1.tuple hq
    refine wpAny_pyIter_tuple (show s1.heap.IsTuple a its.toArray from pt) ?_
    refine ⟨s1.heap.objs.size, [s1.heap.objs.size], _, _, H1, rfl, I1.kept (t' := s1.toks) fun b o e => Heap.get?_push_of_some _ e, turn_tuple a _, ⟨_, Heap.get?_push_size _ rfl, rfl, rfl⟩, fun b hb => ?_, q⟩
    obtain rfl : b = s1.heap.objs.size := by simpa using hb
    exact I1.fpOk (Nat.le_refl _) (I1.hok.fresh (Nat.le_refl _))
end

/-! ### a def as it is called -/
structure Cal (P : Program) (w : World) (K : PySem.W.Frag) (mg : Str → Option Value) (base : Heap) (k : Nat) (x : Str) (sp : Sp) : Prop where
  ex : ∃ (f : Addr) (fd : FuncData) (ps : List Str), FnOk P w K mg base CX0 k f fd ps sp ∧ mg x = some (.ref f) ∧ PySem.W.keepIn K (.ref f) = true ∧ Binds K fd ps []
theorem Cal.mono {P : Program} {w : World} {K : PySem.W.Frag} {mg : Str → Option Value} {base : Heap} {j k : Nat} {x : Str} {sp : Sp} (c : Cal P w K mg base j x sp) (h : j ≤ k) : Cal P w K mg base k x sp := by
  obtain ⟨f, fd, ps, F, r⟩ := c.ex
  exact ⟨f, fd, ps, F.mono h, r⟩
theorem Cal.imp {P : Program} {w : World} {K : PySem.W.Frag} {mg : Str → Option Value} {base : Heap} {k : Nat} {x : Str} {sp sp' : Sp} (c : Cal P w K mg base k x sp) (h : ∀ vs H Q E, sp' vs H Q E → sp vs H Q E) : Cal P w K mg base k x sp' := by
  obtain ⟨f, fd, ps, F, r⟩ := c.ex
  exact ⟨f, fd, ps, F.imp h, r⟩
/-- a def of the top -/
structure DefAt (K : PySem.W.Frag) (mg : Str → Option Value) (x : Str) (st : Stmt) (ps : List Str) : Prop where
  ex : ∃ (f : Addr) (fd : FuncData), Fun K x x st f fd ∧ mg x = some (.ref f) ∧ Binds K fd ps []
section
variable {P : Program} {w : World} {K : PySem.W.Frag} {mg : Str → Option Value} {base : Heap}
theorem cal_of {x : Str} {st : Stmt} {N ps : List Str} {k : Nat} {sp : Sp} (D : DefAt K mg x st ps) (S : FnScope N ps (defScope st)) (len : ∀ vs H Q E, sp vs H Q E → vs.length = ps.length)
    (hbody : ∀ (f : Addr) (cdv : Value) (A : Around) (outer : List Env) (s : Shared) (H : Hp) (vs : List V) (Q : VK) (E : XK), Room k (A.deeper (envOfC x (defScope st) s.heap.objs.size f cdv)) → sp vs H Q E →
      ∃ t, PSs (cxOf CX0 P w K mg base N x (defScope st) f cdv A outer s H E).nox (defBody st) t ∧ t { nx := fun _ H' => Q .non H', rt := Q } (start N vs) H) : Cal P w K mg base (k + 1) x sp := by
  obtain ⟨f, fd, F, m, b⟩ := D.ex
  exact ⟨f, fd, ps, F.ok S len fun cdv A outer s H vs Q E => hbody f cdv A outer s H vs Q E, m, F.kp, b⟩
/-- nothing is promised: a def at no depth -/
theorem cal_none {x : Str} {st : Stmt} {ps : List Str} {k : Nat} {sp : Sp} (D : DefAt K mg x st ps) (no : ∀ vs H Q E, ¬ sp vs H Q E) : Cal P w K mg base k x sp := by
  obtain ⟨f, fd, F, m, b⟩ := D.ex
  exact ⟨f, fd, ps, ⟨fun vs H Q E h => absurd h (no vs H Q E), fun A outer s H args us vs Q E _ _ _ _ h => absurd h (no vs H Q E)⟩, m, F.kp, b⟩
end
section
variable {X : Cx} {k j : Nat} {x : Str} {sp : Sp} {p pos : Pos} {e : Expr} {es : List Expr} {t : TA}
def tF (sp : Sp) (t : TA) : TE := fun σ H Q => t σ H fun vs H1 => sp vs H1 Q E0
theorem pe_f (c : Cal X.prog X.w X.K X.mg X.base k x sp) (hr : Room j X.A) (hk : k ≤ j) (ha : PA X (e :: es) t) (hg : Gl X x := by rfl)
    (hdb : (x == ("__debug__" : Str)) = false := by decide) (he : starEach (e :: es) X.env = (false, eval e X.env) :: starEach es X.env := by rfl) (hpl : (backTo pos (starEach es X.env)).any (·.1) = false := by rfl) :
    PE X (.Call (.Name x p) (e :: es) [] pos) (tF sp t) := by
  obtain ⟨f, fd, ps, F, hm, kp, b⟩ := c.ex
  have h := pe_call (p := p) F (hr.mono hk) hg hm kp b .nil (pass0 (X := X)) ha hdb he hpl
  refine ⟨fun pins s σ H Q I q => h.run pins s σ H Q I ?_⟩
  show t σ H fun vs H1 => sp (vs ++ []) H1 Q E0
  have e : (fun (vs : List V) (H1 : Hp) => sp (vs ++ []) H1 Q E0) = fun vs H1 => sp vs H1 Q E0 := by
    funext vs H1
    rw [List.append_nil]
  rw [e]
  exact q
end

/-! ### promises -/
def SpecOf {α : Type} (args : α → List V) (pre : α → Hp → Prop) (post : α → Hp → V → Hp → Prop) : Sp := fun vs H Q _ => ∃ x, vs = args x ∧ pre x H ∧ ∀ v H', post x H v H' → Q v H'
theorem spec_len {α : Type} {args : α → List V} {pre : α → Hp → Prop} {post : α → Hp → V → Hp → Prop} {n : Nat} (h : ∀ x, (args x).length = n) : ∀ vs H Q E, SpecOf args pre post vs H Q E → vs.length = n := by
  intro vs H Q E ⟨x, e, _⟩
  rw [e, h]
theorem spec_use {α : Type} {args : α → List V} {pre : α → Hp → Prop} {post : α → Hp → V → Hp → Prop} {vs : List V} {H : Hp} {Q : VK} {E : XK} (x : α) (e : vs = args x) (p : pre x H) (q : ∀ v H', post x H v H' → Q v H') : SpecOf args pre post vs H Q E := ⟨x, e, p, q⟩

/-! ### heaps -/
theorem same_new {H : Hp} {p : Addr} {o : HO} (h : H p = none) : Same H (upd H p o) := fun b u q => by rw [upd_ne (ne_of_none q h)]; exact q
theorem same_mut {H H' : Hp} {p : Addr} {o : HO} (e : Same H H') (h : H p = none) : Same H (upd H' p o) := fun a u ha => by
  rw [upd_ne (ne_of_none ha h)]
  exact e a u ha
theorem same_rd {H H' : Hp} {a : Addr} {u : HO} (e : Same H H') (h : Rd H a u) : Rd H' a u := by
  rcases h with h | ⟨o, h⟩
  · exact .inl (e a _ h)
  · exact .inr ⟨o, e a _ h⟩
theorem same_l {K : PySem.W.Frag} {H H' : Hp} {a : Addr} {xs : List V} (e : Same H H') (h : SqL K H a xs) : SqL K H' a xs := h.elim (fun h => .inl (same_rd e h)) .inr
theorem same_t {K : PySem.W.Frag} {H H' : Hp} {a : Addr} {xs : List V} (e : Same H H') (h : SqT K H a xs) : SqT K H' a xs := h.elim (fun h => .inl (same_rd e h)) .inr
theorem sz {n : Nat} (h : n ≤ 16000000) : n ≤ sizeLine := Nat.le_trans h (by decide)

/-! ### steps of a reading -/
section
variable {K : PySem.W.Frag} {σ : L2.St} {H : Hp} {Q : VK} {x y v : V} {ta tb tc te : TE} {t u : TT} {D : Ends} {ts tu tw : TS}
theorem w_eqDict {a b : Addr} {ks ls : List (Key × V)} (ha : H a = some (.dK ks)) (hb : H b = some (.dK ls)) (hl : ks.length = ls.length) (h : ∀ p ∈ ks, valV ls p.1 = some p.2 ∧ flatB p.2 = true) (q : Q (.bl true) H) : rEq2 K (.ref a) (.ref b) H Q := .inr (.inr (.inl ⟨a, b, ks, ls, rfl, rfl, ha, hb, hl, h, q⟩))
theorem w_eqV {n : Nat} (hn : n ≤ 60) (h : EqR K H (EqV K H n) x y) (q : Q (.bl true) H) : rEq2 K x y H Q := .inr (.inr (.inr ⟨n, hn, h, q⟩))
theorem w_neDict {a b : Addr} {ks ls : List (Key × V)} (ha : H a = some (.dK ks)) (hb : H b = some (.dK ls)) (hl : ks.length = ls.length) (h : ∀ p ∈ ks, valV ls p.1 = some p.2 ∧ flatB p.2 = true) (q : Q (.bl false) H) : rNe2 K (.ref a) (.ref b) H Q := .inr (.inr ⟨a, b, ks, ls, rfl, rfl, ha, hb, hl, h, q⟩)
theorem w_dictC {a : Addr} {kvs : List (Key × V)} (h : H a = some (.dK kvs)) (q : ∀ p, H p = none → Q (.ref p) (upd H p (.dK kvs))) : rDictC [.ref a] H Q := ⟨a, kvs, rfl, .inl h, q⟩
theorem dec_int {i j : Int} : decide (V.int i = V.int j) = decide (i = j) := by simp
theorem dec_str {i j : Str} : decide (V.str i = V.str j) = decide (i = j) := by simp
theorem w_var {i : Nat} (h : σ[i]? = some (some v)) (q : Q v H) : tVar i σ H Q := ⟨v, h, q⟩
theorem w_c (q : Q v H) : tC v σ H Q := q
theorem w_op {r : R2} (q : ta σ H fun x H1 => tb σ H1 fun y H2 => r x y H2 Q) : tOp r ta tb σ H Q := q
theorem w_un {r : V → Hp → VK → Prop} (q : ta σ H fun x H1 => r x H1 Q) : tUn r ta σ H Q := q
theorem w_neg {i : Int} (q : Q (.int (-i)) H) : rNeg (.int i) H Q := ⟨i, rfl, q⟩
theorem w_addI {i j : Int} (q : Q (.int (i + j)) H) : rAdd K (.int i) (.int j) H Q := .inl ⟨i, j, rfl, rfl, q⟩
theorem w_addT {i j : Str} (h : i.length + j.length ≤ sizeLine) (q : Q (.str (i ++ j)) H) : rAdd K (.str i) (.str j) H Q := .inr (.inl ⟨i, j, rfl, rfl, h, q⟩)
theorem w_addL {a b : Addr} {xs ys : List V} (ha : H a = some (.lst xs)) (hb : H b = some (.lst ys)) (h : xs.length + ys.length ≤ sizeLine) (q : ∀ p, H p = none → Q (.ref p) (upd H p (.lst (xs ++ ys)))) : rAdd K (.ref a) (.ref b) H Q :=
  .inr (.inr (.inl ⟨a, b, xs, ys, rfl, rfl, ha, hb, h, q⟩))
theorem w_sub {i j : Int} (q : Q (.int (i - j)) H) : rSub (.int i) (.int j) H Q := ⟨i, j, rfl, rfl, q⟩
theorem w_mulI {i j : Int} (h : CMul i j) (q : Q (.int (i * j)) H) : rMul (.int i) (.int j) H Q := .inl ⟨i, j, rfl, rfl, h, q⟩
theorem w_mod {i j : Int} (h : 0 < j) (q : Q (.int (i % j)) H) : rMod (.int i) (.int j) H Q := ⟨i, j, rfl, rfl, h, q⟩
theorem w_div {i j : Int} (h : CDiv i j) (q : Q (.int (i / j)) H) : rDiv (.int i) (.int j) H Q := ⟨i, j, rfl, rfl, h, q⟩
theorem w_pow {i j : Int} (h : CPow i j) (q : Q (.int (i ^ j.toNat)) H) : rPow (.int i) (.int j) H Q := ⟨i, j, rfl, rfl, h, q⟩
theorem w_lt {i j : Int} (q : Q (.bl (decide (i < j))) H) : rLt (.int i) (.int j) H Q := ⟨i, j, rfl, rfl, q⟩
theorem w_le {i j : Int} (q : Q (.bl (decide (i ≤ j))) H) : rLe (.int i) (.int j) H Q := ⟨i, j, rfl, rfl, q⟩
theorem w_gt {i j : Int} (q : Q (.bl (decide (j < i))) H) : rGt (.int i) (.int j) H Q := ⟨i, j, rfl, rfl, q⟩
theorem w_ge {i j : Int} (q : Q (.bl (decide (j ≤ i))) H) : rGe (.int i) (.int j) H Q := ⟨i, j, rfl, rfl, q⟩
theorem w_eqI {i j : Int} (q : Q (.bl (decide (i = j))) H) : rEq2 K (.int i) (.int j) H Q := .inl ⟨rfl, by rw [dec_int]; exact q⟩
theorem w_eqS {i j : Str} (q : Q (.bl (decide (i = j))) H) : rEq2 K (.str i) (.str j) H Q := .inl ⟨rfl, by rw [dec_str]; exact q⟩
theorem w_neI {i j : Int} (q : Q (.bl (!decide (i = j))) H) : rNe2 K (.int i) (.int j) H Q := .inl ⟨rfl, by rw [dec_int]; exact q⟩
theorem w_neS {i j : Str} (q : Q (.bl (!decide (i = j))) H) : rNe2 K (.str i) (.str j) H Q := .inl ⟨rfl, by rw [dec_str]; exact q⟩
theorem w_eqD {d e : PyData} (hx : Dp K H x d) (hy : Dp K H y e) (sd : SeqAt.shaped d = true) (se : SeqAt.shaped e = true) (q : Q (.bl (PyData.eqv d e)) H) : rEq2 K x y H Q := .inr (.inl ⟨d, e, hx, hy, sd, se, q⟩)
theorem w_neD {d e : PyData} (hx : Dp K H x d) (hy : Dp K H y e) (sd : SeqAt.shaped d = true) (se : SeqAt.shaped e = true) (q : Q (.bl (!PyData.eqv d e)) H) : rNe2 K x y H Q := .inr (.inl ⟨d, e, hx, hy, sd, se, q⟩)
theorem w_inL {neg : Bool} {p : Addr} {xs : List V} (h : SqL K H p xs) (hx : flatV x = true) (ha : xs.all flatV = true) (q : Q (.bl (if neg then !inV x xs else inV x xs)) H) : rIn2 K neg x (.ref p) H Q := .inl ⟨p, xs, rfl, .inl h, hx, ha, q⟩
theorem w_inT {neg : Bool} {p : Addr} {xs : List V} (h : SqT K H p xs) (hx : flatV x = true) (ha : xs.all flatV = true) (q : Q (.bl (if neg then !inV x xs else inV x xs)) H) : rIn2 K neg x (.ref p) H Q := .inl ⟨p, xs, rfl, .inr h, hx, ha, q⟩
theorem w_ixT {p : Addr} {xs : List V} {i : Int} (h : SqT K H p xs) (e : atI xs i = some v) (q : Q v H) : rIx K (.ref p) (.int i) H Q := .inr (.inl ⟨p, xs, i, v, rfl, rfl, h, e, q⟩)
theorem w_ixL {p : Addr} {xs : List V} {i : Int} (h : SqL K H p xs) (e : atI xs i = some v) (q : Q v H) : rIx K (.ref p) (.int i) H Q := .inl ⟨p, xs, i, v, rfl, rfl, h, e, q⟩
theorem w_ixS {z : Str} {i : Int} {c : Nat} (h : z.length ≤ sizeLine) (e : atI z.cps.toList i = some c) (q : Q (.str ⟨#[c]⟩) H) : rIx K (.str z) (.int i) H Q := .inr (.inr ⟨z, i, c, rfl, rfl, h, e, q⟩)
theorem w_lenL {p : Addr} {xs : List V} (h : SqL K H p xs) (q : Q (.int ((xs.length : Nat) : Int)) H) : rLenA K [.ref p] H Q := ⟨.ref p, xs.length, rfl, .inl ⟨xs, h, rfl⟩, q⟩
theorem w_lenT {p : Addr} {xs : List V} (h : SqT K H p xs) (q : Q (.int ((xs.length : Nat) : Int)) H) : rLenA K [.ref p] H Q := ⟨.ref p, xs.length, rfl, .inr ⟨xs, h, rfl⟩, q⟩
theorem w_lenS {z : Str} (h : z.length ≤ sizeLine) (q : Q (.int ((z.length : Nat) : Int)) H) : rLenA K [.str z] H Q := ⟨.str z, z.length, rfl, ⟨h, rfl⟩, q⟩
theorem w_intI {i : Int} (q : Q (.int i) H) : rInt [.int i] H Q := .inl (.inl ⟨i, rfl, q⟩)
theorem w_intB {k : Bool} (q : Q (.int (if k then 1 else 0)) H) : rInt [.bl k] H Q := .inl (.inr ⟨k, rfl, q⟩)
theorem w_nil {Q : List V → Hp → Prop} (q : Q [] H) : tNil σ H Q := q
theorem w_cons {tr : TA} {Q : List V → Hp → Prop} (q : ta σ H fun x H1 => tr σ H1 fun xs H2 => Q (x :: xs) H2) : tCons ta tr σ H Q := q
theorem w_f {sp : Sp} {t : TA} (q : t σ H fun vs H1 => sp vs H1 Q E0) : tF sp t σ H Q := q
theorem w_cb {r : List V → Hp → VK → Prop} {t : TA} (q : t σ H fun vs H1 => r vs H1 Q) : tCB r t σ H Q := q
theorem w_lst {t : TA} (q : t σ H fun xs H1 => xs.length ≤ sizeLine ∧ ∀ p, H1 p = none → Q (.ref p) (upd H1 p (.lst xs))) : tLst t σ H Q := q
theorem w_tup {t : TA} (q : t σ H fun xs H1 => xs.length ≤ sizeLine ∧ ∀ p, H1 p = none → Q (.ref p) (upd H1 p (.tup xs))) : tTup t σ H Q := q
theorem w_test {Q : Bool → Hp → Prop} (q : te σ H fun x H' => ∃ k, x = .bl k ∧ Q k H') : tTest te σ H Q := q
theorem w_tB {Q : Bool → Hp → Prop} (q : te σ H fun x H' => ∃ k, x = .bl k ∧ Q k H') : tB te σ H Q := q
theorem w_bl {b : Bool} {R : Bool → Prop} (q : R b) : ∃ k, V.bl b = .bl k ∧ R k := ⟨b, rfl, q⟩
theorem w_and {Q : Bool → Hp → Prop} (q : t σ H fun c H1 => if c = true then u σ H1 Q else Q false H1) : tAnd t u σ H Q := q
theorem w_or {Q : Bool → Hp → Prop} (q : t σ H fun c H1 => if c = true then Q true H1 else u σ H1 Q) : tOr t u σ H Q := q
theorem w_not {Q : Bool → Hp → Prop} (q : t σ H fun c H1 => Q (!c) H1) : tNot t σ H Q := q
theorem w_andV (q : ta σ H fun x H1 => ∃ c, x = .bl c ∧ if c = true then tb σ H1 Q else Q (.bl false) H1) : tAndV ta tb σ H Q := q
theorem w_orV (q : ta σ H fun x H1 => ∃ c, x = .bl c ∧ if c = true then Q (.bl true) H1 else tb σ H1 Q) : tOrV ta tb σ H Q := q
theorem w_notV (q : ta σ H fun x H1 => ∃ c, x = .bl c ∧ Q (.bl (!c)) H1) : tNotV ta σ H Q := q
theorem w_seq (q : ts { D with nx := tu D } σ H) : tSeq ts tu D σ H := q
theorem w_next (q : D.nx σ H) : tNext D σ H := q
theorem w_asg {i : Nat} (q : te σ H fun x H1 => D.nx (σ.set i (some x)) H1) : tAsg te (gName i) D σ H := q
theorem w_asgT {n : Nat} {g : TGs} (q : te σ H fun x H1 => gTup K n g x σ H1 D.nx) : tAsg te (gTup K n g) D σ H := q
theorem w_ret (q : te σ H D.rt) : tRet te D σ H := q
theorem w_drop (q : te σ H fun _ H1 => D.nx σ H1) : tDrop te D σ H := q
theorem w_if (q : t σ H fun b H1 => if b = true then ts D σ H1 else tu D σ H1) : tIfS t ts tu D σ H := q
theorem w_yes {c : Bool} {A B : Prop} (e : c = true) (a : A) : if c = true then A else B := by rw [if_pos e]; exact a
theorem w_no {c : Bool} {A B : Prop} (e : c = false) (b : B) : if c = true then A else B := by rw [e]; exact iteF b
theorem w_two {c : Bool} {A B : Prop} (a : c = true → A) (b : c = false → B) : if c = true then A else B := by
  cases c with
  | true => exact iteT (a rfl)
  | false => exact iteF (b rfl)
end
end Hu
/-! sets of texts: set(xs) of a list, sorted(set(xs)); worked out along the layer's own sets of numbers -/
namespace HuS
open PySem PySem.Spec PyProof.Rows L2
def nameOf (e : Int × Value) : Str := match e.2 with
  | .str x _ => x
  | _ => Str.empty
def Fit (w : World) (e : Int × Value) : Prop := ∃ x tk, e.2 = Value.str x tk ∧ e.1 = hashStr w x
def TxtSet (w : World) (h : Heap) (a : Addr) (S : Str → Bool) (n : Nat) : Prop :=
  ∃ o es ep t, h.get? a = some o ∧ o.ExactSet ∧ o.data = .set es ep t ∧ (∀ e ∈ es.toList, Fit w e) ∧ (es.toList.map nameOf).Nodup ∧ (∀ x, S x = true ↔ x ∈ es.toList.map nameOf) ∧
    es.size < scanBound ∧ t.fits es.size = true ∧ es.size = n ∧ Ris t.place.toList ∧ (w.params.followText "set-order" = true ∨ t.led = true)
section
variable {P : Program} {w : World} {h h' : Heap} {a : Addr} {S : Str → Bool} {n : Nat}
theorem TxtSet.at (R : TxtSet w h a S n) (k : ∀ o, h.get? a = some o → h'.get? a = some o) : TxtSet w h' a S n := by
  obtain ⟨o, es, ep, t, ho, r⟩ := R
  exact ⟨o, es, ep, t, k o ho, r⟩
theorem TxtSet.congr {S' : Str → Bool} (R : TxtSet w h a S n) (e : ∀ x, S' x = S x) : TxtSet w h a S' n := (funext e : S' = S) ▸ R
theorem fit_elems {l : List (Int × Value)} (g : ∀ e ∈ l, Fit w e) : ElemsOf (PySem.strKind P w) l := fun e he => by
  obtain ⟨x, tk, h1, h2⟩ := g e he
  exact ⟨⟨x, by rw [h1]; exact strKind_is P w x tk, h2⟩, by rw [h1] <;> rfl⟩
theorem fit_is {e : Int × Value} (g : Fit w e) (x : Str) : (PySem.strKind P w).is x e.2 = true ↔ nameOf e = x := by
  obtain ⟨y, tk, h1, _⟩ := g
  unfold nameOf
  rw [h1]
  constructor
  · intro z
    obtain ⟨t, e⟩ := Value.isStrOf_shape (show Value.isStrOf x (.str y tk) = true from z)
    injection e
  · intro z
    subst z
    exact strKind_is P w _ tk
theorem fit_mem {l : List (Int × Value)} (g : ∀ e ∈ l, Fit w e) (x : Str) : x ∈ l.map nameOf ↔ ∃ e ∈ l, (PySem.strKind P w).is x e.2 = true := by
  rw [List.mem_map]
  exact ⟨fun ⟨e, he, q⟩ => ⟨e, he, (fit_is (g e he) x).2 q⟩, fun ⟨e, he, q⟩ => ⟨e, he, (fit_is (g e he) x).1 q⟩⟩
end
section
variable {P : Program} {w : World} {A : Around} {E : Value → Shared → Prop} {s : Shared} {a : Addr} {S : Str → Bool} {n : Nat}
theorem put_tail {g : Bool → Sem Unit} (hg : ∀ (b : Bool) (s₁ : Shared) (Q' : Unit → Shared → Prop), Q' () s₁ → wpAny (model P w) A (g b) Q' E s₁)
    {o : Obj} {es : Array (Int × Value)} {ep : Nat} {t : SetTable} (ho : s.heap.get? a = some o) (hex : o.ExactSet) (hd : o.data = .set es ep t)
    {fs : Array (Int × Value)} {t2 : SetTable} {T : Str → Bool} (g1 : ∀ e ∈ fs.toList, Fit w e) (nd1 : (fs.toList.map nameOf).Nodup) (m1 : ∀ x, T x = true ↔ x ∈ fs.toList.map nameOf)
    (hb1 : fs.size < scanBound) (hf2 : t2.fits fs.size = true) (hr : Ris t2.place.toList) (hl : w.params.followText "set-order" = true ∨ t2.led = true) {dummy : Bool} {R : Option Bool → Shared → Prop}
    (hR : ∀ h', Heap.SameBut a s.heap h' → TxtSet w h' a T fs.size → R (some true) { s with heap := h' }) :
    wpAny (model P w) A (do
        storeSet a fs t2
        if (!dummy && t2.tooFull) = true then do
            g (relayAll t2 fs (SetTable.grown fs.size)).2.2
            storeSet a (relayAll t2 fs (SetTable.grown fs.size)).1 (relayAll t2 fs (SetTable.grown fs.size)).2.1
            pure (some true)
          else pure (some true)) R E s := by
  refine wpAny_bind (wpAny_storeSet_of ho hd ?_ (fits_of_scanBound hb1))
  have o1 := store_at (es' := fs) (t' := t2) ho hd
  have b1 := Heap.SameBut.update s.heap a (Obj.putSet fs t2)
  split
  · have pm := relayAll_perm t2 fs (SetTable.grown fs.size)
    have hf3 := relayAll_fits t2 fs (SetTable.grown fs.size)
    have hr3 := relayAll_ris t2 fs (SetTable.grown fs.size)
    have hl3 := relayAll_led t2 fs (SetTable.grown fs.size)
    generalize relayAll t2 fs (SetTable.grown fs.size) = Z at pm hf3 hr3 hl3 ⊢
    obtain ⟨gs, t3, gave⟩ := Z
    dsimp only at pm hf3 hr3 hl3 ⊢
    have z : gs.size = fs.size := by rw [← Array.length_toList, pm.length_eq, Array.length_toList]
    have hb2 : gs.size < scanBound := z ▸ hb1
    refine wpAny_bind (hg _ _ _ ?_)
    refine wpAny_bind (wpAny_storeSet_of o1 rfl ?_ (fits_of_scanBound hb2))
    have o2 := store_at (es' := gs) (t' := t3) o1 rfl
    refine wpAny_pure (hR _ (b1.trans (Heap.SameBut.update _ a _)) ?_)
    exact ⟨_, gs, _, t3, o2, hex, rfl, fun e he => g1 e (pm.mem_iff.mp he), (pm.map nameOf).nodup_iff.mpr nd1, fun x => (m1 x).trans (pm.map nameOf).mem_iff.symm, hb2, hf3, z, hr3,
      hl.imp id fun q => by rw [hl3]; exact q⟩
  · exact wpAny_pure (hR _ b1 ⟨_, fs, _, t2, o1, hex, rfl, g1, nd1, m1, hb1, hf2, rfl, hr, hl⟩)
theorem put_hashed {x : Str} {tk : Tok} {Q : Bool → Shared → Prop} (R : TxtSet w s.heap a S n) (room : n + 1 < scanBound)
    (hQ : ∀ h', Heap.SameBut a s.heap h' → TxtSet w h' a (fun y => S y || decide (y = x)) (if S x = true then n else n + 1) → Q (!S x) { s with heap := h' }) :
    wpAny (model P w) A (setAddHashed a (.str x tk) ((PySem.strKind P w).hash x)) Q E s := by
  obtain ⟨o, es, ep, t, ho, hex, hd, g, nd, hm, hb, hf, hn, hr, hl⟩ := R
  have hkey : (PySem.strKind P w).is x (.str x tk) = true := strKind_is P w x tk
  have hsc : (Value.str x tk).scannable = true := rfl
  have hel : ElemsOf (PySem.strKind P w) es.toList := fit_elems g
  unfold setAddHashed setAddHashedIn
  refine wpAny_holding (wpAny_bind (wpAny_setState_of ho hd hf ?_))
  dsimp only
  rw [byScan_of hsc hb hel]
  simp only [↓reduceIte]
  unfold setAddByScan
  refine wpAny_bind ?_
  refine wpAny_bind (wpAny_rule ?_)
  refine wpAny_bind (wpAny_setScan_of hkey ho hd hf hel ?_)
  cases hfi : List.findIdx? (fun e => (PySem.strKind P w).is x e.2) es.toList with
  | some j =>
    dsimp only
    obtain ⟨hj, pj, _⟩ := List.findIdx?_eq_some_iff_getElem.mp hfi
    have hS : S x = true := (hm x).2 ((fit_mem (P := P) (w := w) g x).2 ⟨es.toList[j], List.getElem_mem hj, pj⟩)
    refine wpAny_pure (wpAny_pure ?_)
    have q := hQ s.heap (Heap.SameBut.refl a s.heap) ⟨o, es, ep, t, ho, hex, hd, g, nd, fun y => by
      rw [Bool.or_eq_true, decide_eq_true_eq, ← hm y]
      exact ⟨fun z => z.elim id (fun e => e ▸ hS), .inl⟩, hb, hf, by rw [if_pos hS]; exact hn, hr, hl⟩
    rw [hS] at q
    exact q
  | none =>
    dsimp only
    have hno : x ∉ es.toList.map nameOf := fun z => by
      obtain ⟨e, he, q⟩ := (fit_mem (P := P) (w := w) g x).1 z
      have c := List.findIdx?_eq_none_iff.mp hfi e he
      rw [q] at c
      cases c
    have hS : S x = false := by
      cases q : S x with
      | false => rfl
      | true => exact absurd ((hm x).1 q) hno
    have hgw : ∀ (b : Bool) {s₁ : Shared} {Q' : Unit → Shared → Prop}, Q' () s₁ → wpAny (model P w) A (match b with | true => rule "set.scan.the-table-gave-way" | false => pure ()) Q' E s₁ :=
      fun b s₁ Q' q => by cases b <;> first | exact wpAny_pure q | exact wpAny_rule q
    have pm := layNew_perm t es ((PySem.strKind P w).hash x) (.str x tk)
    have hf1 := layNew_fits t es ((PySem.strKind P w).hash x) (.str x tk)
    have hr1 := layNew_ris t es ((PySem.strKind P w).hash x) (.str x tk) hr
    have hl1 := layNew_led t es ((PySem.strKind P w).hash x) (.str x tk)
    generalize layNew t es ((PySem.strKind P w).hash x) (.str x tk) = Z at pm hf1 hr1 hl1 ⊢
    obtain ⟨fs, t1, wasDummy, gave⟩ := Z
    dsimp only at pm hf1 hr1 hl1 ⊢
    rw [Array.toList_push] at pm
    have pc : fs.toList.Perm (((PySem.strKind P w).hash x, Value.str x tk) :: es.toList) := pm.trans (List.perm_append_singleton _ _)
    have pk : (fs.toList.map nameOf).Perm (x :: es.toList.map nameOf) := pc.map nameOf
    have g1 : ∀ e ∈ fs.toList, Fit w e := fun e he => by
      rcases List.mem_cons.mp (pc.mem_iff.mp he) with z | z
      · rw [z]; exact ⟨x, tk, rfl, rfl⟩
      · exact g e z
    have nd1 : (fs.toList.map nameOf).Nodup := pk.nodup_iff.mpr (List.nodup_cons.mpr ⟨hno, nd⟩)
    have m1 : ∀ y, (S y || decide (y = x)) = true ↔ y ∈ fs.toList.map nameOf := fun y => by
      rw [Bool.or_eq_true, decide_eq_true_eq, hm y, pk.mem_iff, List.mem_cons]
      exact Or.comm
    have z : fs.size = n + 1 := by rw [← Array.length_toList, pc.length_eq, List.length_cons, Array.length_toList, hn]
    have hb1 : fs.size < scanBound := by rw [z]; exact room
    have hled : w.params.followText "set-order" = true ∨ t1.led = true := hl.imp id fun q => by rw [hl1]; exact q
    have fin : ∀ h', Heap.SameBut a s.heap h' → TxtSet w h' a (fun y => S y || decide (y = x)) fs.size → Q true { s with heap := h' } := fun h' sb r => by
      have q := hQ h' sb
      rw [hS] at q
      rw [z] at r
      exact q r
    refine wpAny_bind (hgw _ ?_)
    split
    · refine wpAny_bind ?_
      rw [hashByValue_scannable 8 hsc]
      refine wpAny_pure ?_
      refine put_tail ?_ ho hex hd g1 nd1 m1 hb1 ?_ ?_ ?_ ?_
      · intro b s₁ Q' q; cases b <;> first | exact wpAny_pure q | exact wpAny_rule q
      · first | (split <;> first | exact hf1 | exact SetTable.fits_plain_off hf1) | exact hf1
      · first | (split <;> exact hr1) | exact hr1
      · first | (split <;> exact hled) | exact hled
      · intro h' sb r; dsimp only; exact wpAny_pure (fin h' sb r)
    · refine wpAny_bind (wpAny_pure ?_)
      simp only [↓reduceIte]
      refine put_tail ?_ ho hex hd g1 nd1 m1 hb1 hf1 hr1 hled ?_
      · intro b s₁ Q' q; cases b <;> first | exact wpAny_pure q | exact wpAny_rule q
      · intro h' sb r; dsimp only; exact wpAny_pure (fin h' sb r)
abbrev freshSet (w : World) : Obj := { cls := .type "set", dict := none, data := .set #[] 0 (.fresh 0 0 (!w.params.followText "set-order")) }
theorem fresh_txt {h : Heap} {a : Addr} {xs : List Str} (ho : h.get? a = some (freshSet w)) : TxtSet w h a (fun y => decide (y ∈ xs.take 0)) 0 :=
  ⟨_, #[], 0, _, ho, ⟨rfl, rfl, rfl⟩, rfl, (fun e he => by simp at he), (by simp), (fun x => by simp), (by decide), (by rfl), rfl, List.Pairwise.nil, by
    show _ ∨ (!w.params.followText "set-order") = true
    cases w.params.followText "set-order"
    · exact .inr rfl
    · exact .inl rfl⟩
/-- a set whose members all stand in ns is no longer than ns -/
theorem nodup_le {α : Type} [DecidableEq α] : ∀ {l m : List α}, l.Nodup → (∀ x ∈ l, x ∈ m) → l.length ≤ m.length
  | [], _, _, _ => Nat.zero_le _
  | x :: l, m, hn, hs => by
    obtain ⟨h1, h2⟩ := List.nodup_cons.mp hn
    have hx : x ∈ m := hs x List.mem_cons_self
    have ih := nodup_le (l := l) (m := m.erase x) h2 fun y hy => (List.mem_erase_of_ne (fun e : y = x => h1 (by rw [← e]; exact hy))).mpr (hs y (List.mem_cons_of_mem _ hy))
    have e := List.length_erase_of_mem hx
    have pos := List.length_pos_of_mem hx
    rw [List.length_cons]
    omega
theorem TxtSet.le (R : TxtSet w s.heap a S n) {ns : List Str} (h : ∀ x, S x = true → x ∈ ns) : n ≤ ns.length := by
  obtain ⟨o, es, ep, t, ho, hex, hd, g, nd, hm, hb, hf, hn, hr, hl⟩ := R
  have z := nodup_le nd fun x hx => h x ((hm x).2 hx)
  rw [List.length_map, Array.length_toList] at z
  omega
theorem put_loop {I : Addr} {fp wr : List Addr} {G : Array GenState → Array GenState → Prop} {n : Nat} {Pv : Nat → Value → Prop} {St : Nat → Shared → Prop} {R : Result → Shared → Prop}
    (W : WalksS P w A.in1 I fp wr G n Pv St) (D : Addr) (hSf : D ∉ fp) (xs ns : List Str) (hn : n = xs.length) (hsub : ∀ x ∈ xs, x ∈ ns) (hb : ns.length + 1 < scanBound) (hval : ∀ i v, Pv i v → ∃ x t, xs[i]? = some x ∧ v = .str x t) :
    ∀ (k i : Nat) (s : Shared), n - i = k → i ≤ n → St i s → (∃ c, TxtSet w s.heap D (fun y => decide (y ∈ xs.take i)) c) →
      (∀ s' c, Moved (D :: wr) G s s' → TxtSet w s'.heap D (fun y => decide (y ∈ xs)) c → R (.ok (.ret .none)) s') →
      codeAny (model P w) A (.builtin "set.update.loop" ⟨[.ref D, .ref I], []⟩) R s := by
  have hSw : D ∉ wr := fun h => hSf (W.sub _ h)
  have more : ∀ b ∈ wr, b ∈ D :: wr := fun b hb => List.mem_cons_of_mem _ hb
  intro k
  induction k with
  | zero =>
    intro i s hk hi hst ⟨c, hS⟩ hR
    obtain rfl : i = n := by omega
    refine codeAny_builtin F.entry_set_update_loop ?_
    rw [Around.under_plainId F.plain_set_update_loop _]
    show wpAny _ A.in1 (pyNext (.ref I) >>= _) _ _ s
    refine wpAny_bind (W.done s _ _ hst fun s' hm => ?_)
    show wpAny _ A.in1 (ret Value.none) _ _ s'
    rw [List.take_of_length_le (by omega)] at hS
    exact wpAny_pure (hR s' c (hm.mono more) (hS.at fun o e => hm.heap D o hSw e))
  | succ k ih =>
    intro i s hk hi hst ⟨c, hS⟩ hR
    have hlt : i < n := by omega
    refine codeAny_builtin F.entry_set_update_loop ?_
    rw [Around.under_plainId F.plain_set_update_loop _]
    show wpAny _ A.in1 (pyNext (.ref I) >>= _) _ _ s
    refine wpAny_bind (W.item i s _ _ hlt hst fun v s' hP hst' hm => ?_)
    obtain ⟨z, t, hz, rfl⟩ := hval i v hP
    have hS' : TxtSet w s'.heap D (fun y => decide (y ∈ xs.take i)) c := hS.at fun o e => hm.heap D o hSw e
    have hc : c ≤ ns.length := hS'.le fun x hx => hsub x (List.mem_of_mem_take (of_decide_eq_true hx))
    show wpAny _ A.in1 (holding [Value.str z t] (setAdd D (.str z t)) >>= _) _ _ s'
    refine wpAny_bind (wpAny_holding ?_)
    unfold setAdd
    refine wpAny_holding ?_
    refine wpAny_bind ((PySem.strKind P w).pyHash (k := z) (strKind_is _ _ _ _) ?_)
    refine put_hashed (s := { s' with toks := s'.toks + 1 }) hS' (by omega) fun h' hsb hS2 => ?_
    have hS3 : TxtSet w h' D (fun y => decide (y ∈ xs.take (i + 1))) (if decide (z ∈ xs.take i) = true then c else c + 1) := hS2.congr fun y => by
      rw [List.take_add_one, hz]
      simp [List.mem_append]
    refine wpAny_pure ⟨plainId_quiet F.plain_set_update_loop _, ih (i + 1) _ (by omega) hlt (W.frame _ s' _ _ hst' (Nat.le_succ _) fun b hb o e => ?_) ⟨_, hS3⟩ fun s'' c2 hm2 hS4 => ?_⟩
    · rw [hsb.2 b (fun h : b = D => hSf (h ▸ hb))]; exact e
    · refine hR s'' c2 (Moved.trans W.gtrans ((hm.mono more).then_heap (Nat.le_succ _) fun b o hb e => ?_) hm2) hS4
      rw [hsb.2 b (fun h : b = D => hb (h ▸ List.mem_cons_self))]; exact e
theorem txt_at : ∀ {us : List Value} {xs : List Str}, StrsAre us xs → ∀ (i : Nat) (v : Value), us[i]? = some v → ∃ x t, xs[i]? = some x ∧ v = .str x t
  | _, _, .nil, i, v, h => by simp at h
  | _, _, .cons n t hr, 0, v, h => ⟨n, t, rfl, by simpa using h.symm⟩
  | _, _, .cons n t hr, i + 1, v, h => by simpa using txt_at hr i v (by simpa using h)
set_option maxHeartbeats 3200000 in
theorem call_set_list {l : Addr} {items : Array Value} (xs ns : List Str) {Q : Value → Shared → Prop} (hh : A.handled = none) (hl : s.heap.IsList l items) (hit : StrsAre items.toList xs) (hsub : ∀ x ∈ xs, x ∈ ns) (hb : ns.length + 1 < scanBound)
    (h : ∀ (h' : Heap) (tk c : Nat), TxtSet w h' s.heap.objs.size (fun y => decide (y ∈ xs)) c → (∀ b o, s.heap.get? b = some o → h'.get? b = some o) → Q (.ref s.heap.objs.size) { s with heap := h', toks := tk }) :
    wpAny (model P w) A (call (.type "set") [.ref l]) Q E s := by
  have hisz : items.size = xs.length := by
    have q := StrsAre.length hit
    rw [Array.length_toList] at q
    exact q
  obtain ⟨c, tl, hmro⟩ := F.called_set.mro
  have hmade := F.called_set.made
  have hsb := F.called_set.sub
  refine wpAny_call (codeAny_of_tree ?_)
  show wpAny _ _ (callAny (.type "set") _) _ _ _
  refine wpAny_pure ⟨Code.quiet_builtin _ (by decide +kernel), codeAny_builtin F.entry_type_call ?_⟩
  rw [Around.under_plain (weight_type_call_type "set" [.ref l] []) rfl]
  have h1 := F.called_set.notType
  have h2 := F.called_set.canCreate
  have hct := F.typeCall_set_1 (.ref l)
  repeat (any_goals (first | assumption | wp_step))
  refine codeAny_mono (code_set_led1 (.ref l) (E := E) (Q₁ := fun obj s₁ => obj = .ref s.heap.objs.size ∧ s₁ = { s with heap := s.heap.push (freshSet w) }) ⟨rfl, rfl⟩) fun r s₁ hr => ?_
  cases r with
  | error e => exact hr
  | ok fl =>
    cases fl with
    | ret obj =>
      obtain ⟨rfl, rfl⟩ := hr
      have hS : (s.heap.push (freshSet w)).get? s.heap.objs.size = some (freshSet w) := Heap.get?_push_size _ rfl
      have hT : Shared.TypeIs { s with heap := s.heap.push (freshSet w) } (.ref s.heap.objs.size) "set" := ⟨_, hS, rfl⟩
      have hli := F.called_set.init.lookup
      have hbi := F.called_set.init.bind (.ref s.heap.objs.size)
      repeat (any_goals (first | assumption | wp_step))
      refine codeAny_mono (codeAny_call_builtin (R := wants (fun r s₂ => r = .none ∧ ∃ h' tk c, s₂ = { s with heap := h', toks := tk } ∧ TxtSet w h' s.heap.objs.size (fun y => decide (y ∈ xs)) c ∧
          (∀ b o, s.heap.get? b = some o → h'.get? b = some o)) E) F.called_set.init.plain F.entry_set_init (check_set_init_1 hT ?_)) fun r₂ s₂ hr₂ => ?_
      · obtain ⟨ol, hol, hcl, nl, hdl⟩ := hl
        obtain ⟨ocls, odict, odata, oslots⟩ := ol
        simp only at hcl hdl
        subst hcl; subst hdl
        have hol' : (s.heap.push (freshSet w)).get? l = some { cls := .type "list", dict := odict, data := .seq items nl, slots := oslots } := Heap.get?_push_of_some _ hol
        have hsls := PySem.F.sub_list_set
        have hslf := PySem.F.sub_list_frozenset
        have hne : (Value.type "list" == Value.type "dict") = false := by decide
        have hl1 : (s.heap.push (freshSet w)).IsList l items := ⟨_, hol', rfl, nl, rfl⟩
        unfold Builtin.«set.__init__» noKeywords Builtin.Frozenset.updateFrom
        generalize hPI : pyIter = PI
        wp_walk
        subst hPI
        refine wpAny_pyIter_list hl1 ?_
        refine wpAny_bind (wpAny_runValue ?_)
        have hlS : l < s.heap.objs.size := Heap.lt_size hol
        have hh3 : A.in1.in1.in1.handled = none := by simp [hh]
        have z1 : (s.heap.push (freshSet w)).objs.size = s.heap.objs.size + 1 := Heap.size_push ..
        have hneI : l ≠ (s.heap.push (freshSet w)).objs.size := by rw [z1]; exact Nat.ne_of_lt (Nat.lt_succ_of_lt hlS)
        have hSf : s.heap.objs.size ∉ [(s.heap.push (freshSet w)).objs.size, l] := by
          rw [z1]; simp only [List.mem_cons, List.mem_singleton, List.not_mem_nil, or_false, not_or]
          exact ⟨Nat.ne_of_lt (Nat.lt_succ_self _), Nat.ne_of_gt hlS⟩
        have hval : ∀ (i : Nat) (v : Value), items[i]? = some v → ∃ x t, xs[i]? = some x ∧ v = .str x t := fun i v hv => by
          exact txt_at hit i v (by rw [Array.getElem?_toList]; exact hv)
        refine put_loop ((Walks.list hh3 _ l hneI items).toS) s.heap.objs.size hSf xs ns hisz hsub hb hval (items.size - 0) 0 _ (by omega) (Nat.zero_le _)
          ⟨⟨_, Heap.get?_push_size _ rfl, rfl, rfl⟩, (hl1.push _)⟩ ?hS0 ?hR
        case hS0 => exact ⟨0, fresh_txt (Heap.get?_push_of_some _ hS)⟩
        case hR =>
          intro s' c' hm hS'
          obtain ⟨h', g2, d', tk', os'⟩ := s'
          have eg : g2 = s.gens := hm.gens
          have ed : d' = s.drawn := hm.drawn
          have eo : os' = s.os := hm.os
          subst eg; subst ed; subst eo
          show wpAny _ _ _ _ _ _
          refine wpAny_pure ?_
          show wpAny _ _ (ret Value.none) _ _ _
          refine wpAny_pure ⟨rfl, h', tk', c', rfl, hS', fun b o e => ?_⟩
          have hb0 : b < s.heap.objs.size := Heap.lt_size e
          refine hm.heap b o ?_ (Heap.get?_push_of_some _ (Heap.get?_push_of_some _ e))
          rw [z1]; simp only [List.mem_cons, List.mem_singleton, List.not_mem_nil, or_false, not_or]
          exact ⟨Nat.ne_of_lt hb0, Nat.ne_of_lt (Nat.lt_succ_of_lt hb0)⟩
      · cases r₂ with
        | error e => exact hr₂
        | ok fl₂ =>
          cases fl₂ with
          | ret r =>
            obtain ⟨rfl, h', tk, c', rfl, hS', hk'⟩ := hr₂
            repeat (any_goals (first | assumption | wp_step))
            exact h _ _ _ hS' hk'
          | _ => exact hr₂.elim
    | _ => exact hr.elim
theorem strsAre_names : ∀ (l : List (Int × Value)), (∀ e ∈ l, Fit w e) → StrsAre (l.map (·.2)) (l.map nameOf)
  | [], _ => .nil
  | e :: l, h => by
    obtain ⟨x, tk, h1, h2⟩ := h e List.mem_cons_self
    have q := strsAre_names l fun e he => h e (List.mem_cons_of_mem _ he)
    have z : nameOf e = x := by unfold nameOf; rw [h1]
    rw [List.map_cons, List.map_cons, z, h1]
    exact .cons x tk q
theorem strsAre_perm {us vs : List Value} (p : vs.Perm us) : ∀ {xs : List Str}, StrsAre us xs → ∃ ys : List Str, StrsAre vs ys ∧ ys.Perm xs := by
  intro xs h
  induction p generalizing xs with
  | nil => exact ⟨xs, h, .refl _⟩
  | cons v _ ih =>
    cases h with
    | cons x t h =>
      obtain ⟨ys, h1, h2⟩ := ih h
      exact ⟨x :: ys, .cons x t h1, h2.cons x⟩
  | swap v u l =>
    cases h with
    | cons x t h =>
      cases h with
      | cons y t' h => exact ⟨y :: x :: _, .cons y t' (.cons x t h), .swap x y _⟩
  | trans _ _ i1 i2 =>
    obtain ⟨ys, h1, h2⟩ := i2 h
    obtain ⟨zs, h3, h4⟩ := i1 h1
    exact ⟨zs, h3, h4.trans h2⟩
theorem sorted_txt {Q : Value → Shared → Prop} (R : TxtSet w s.heap a S n) (hh : A.handled = none)
    (hQ : ∀ s' p (out : Array Value) (c : Nat) (ys : List Str), (∀ b o, s.heap.get? b = some o → s'.heap.get? b = some o) → s'.gens = s.gens → s'.os = s.os → s.heap.objs.size ≤ p →
      s'.heap.get? p = some (seqObj "list" out c) → StrsAre out.toList ys → sortedS ys = true → ys.Nodup → (∀ x, x ∈ ys ↔ S x = true) → ys.length = n → Q (.ref p) s') :
    wpAny (model P w) A (call (.builtin "sorted") [.ref a]) Q E s := by
  obtain ⟨o, es, ep, t, ho, hex, hd, g, nd, hm, hb, hf, hn, hr, hl⟩ := R
  refine Calls.call_function_entry kind_sorted plain_sorted entry_sorted (args_sorted1 _) ?_
  unfold Builtin.«sorted»
  refine wpAny_bind (m := checkCount "sorted" 1 1 _) (wpAny_pure ?_)
  refine wpAny_bind (collect_set (A := A.in1) hh ⟨o, ho, hex.1, hd⟩ hf hb hr hl fun s1 vs k1 hz g1 o1 pm => ?_)
  have hvl : vs.length = n := by rw [pm.length_eq, List.length_map, Array.length_toList]; exact hn
  have hvz : vs.length ≤ sizeLine := by rw [hvl, ← hn]; exact fits_of_scanBound hb
  obtain ⟨zs, hZ, pz⟩ := strsAre_perm pm (strsAre_names es.toList g)
  refine wpAny_bind (wpAny_newList ?_ hvz)
  have hoL : (s1.heap.push (seqObj "list" vs.toArray 0)).get? s1.heap.objs.size = some (seqObj "list" vs.toArray 0) := Heap.get?_push_size _ rfl
  refine wpAny_bind (wpAny_holding (wpAny_call_entry slot_list_sort ⟨_, hoL, rfl⟩ entry_list_sort
    (list_sort_treeKAny strKind_oneLt hoL hZ.keysOf (fun v1 v2 rest e => keyKind_strs (by rw [← e]; exact hZ)) hvz fun st' hp hs => ⟨_, rfl, ?_⟩) (args_list_sort _)))
  obtain ⟨ys, a1, a2, a3⟩ := sorted_out_str hZ hp hs
  obtain ⟨c, hc⟩ := sortedHeap_at (vs := vs) (out := (arrOf st').map (·.2)) hoL
  have pn : ys.Perm (es.toList.map nameOf) := a2.trans pz
  refine wpAny_pure ⟨_, rfl, hQ _ s1.heap.objs.size _ c ys (fun b u e => ?_) g1 o1 hz hc a1 a3 (pn.nodup_iff.mpr nd) (fun x => by rw [pn.mem_iff, ← hm x]) ?_⟩
  · have q := k1 b u e
    have hlt := Heap.lt_size q
    show (sortedHeap (s1.heap.push (seqObj "list" vs.toArray 0)) s1.heap.objs.size vs _).get? b = some u
    rw [sortedHeap_old (Nat.ne_of_lt hlt) (by rw [size_push']; exact Nat.lt_succ_of_lt hlt)]
    exact Heap.get?_push_of_some _ q
  · rw [pn.length_eq, List.length_map, Array.length_toList]; exact hn
end
/-! ### the rule -/
def tSortSet (K : PySem.W.Frag) (ta : TE) : TE := fun σ H Q => ta σ H fun x H1 => ∃ (l : Addr) (xs ns : List Str), x = .ref l ∧ SqL K H1 l (xs.map V.str) ∧ (∀ y ∈ xs, y ∈ ns) ∧ ns.length ≤ 4000 ∧
  ∀ (ys : List Str) (p : Addr) (H2 : Hp), sortedS ys = true → ys.Nodup → (∀ y, y ∈ ys ↔ y ∈ xs) → Same H1 H2 → H1 p = none → H2 p = some (.lst (ys.map V.str)) → Q (.ref p) H2
theorem vals_strs : ∀ {us : List Value} {xs : List Str}, StrsAre us xs → Vals (xs.map V.str) us
  | _, _, .nil => .nil
  | _, _, .cons x t h => .cons ⟨t, rfl⟩ (vals_strs h)
def TxtO (w : World) (a : Addr) (S : Str → Bool) (n : Nat) : HO := .ext fun h => TxtSet w h a S n
theorem txtO_new {w : World} {P : Program} {H : Hp} {h : Heap} {a : Addr} {S : Str → Bool} {n : Nat} (R : TxtSet w h a S n) : ObjOk P w H h a (TxtO w a S n) := by
  obtain ⟨o, es, ep, t, ho, r⟩ := id R
  exact ⟨R, ⟨o, ho⟩, fun h1 h2 f k => TxtSet.at f k⟩
def rSetL (K : PySem.W.Frag) (w : World) : List V → Hp → VK → Prop := fun vs H Q => ∃ (l : Addr) (xs ns : List Str), vs = [.ref l] ∧ SqL K H l (xs.map V.str) ∧ (∀ y ∈ xs, y ∈ ns) ∧ ns.length ≤ 4000 ∧
  ∀ p c, H p = none → Q (.ref p) (upd H p (TxtO w p (fun y => decide (y ∈ xs)) c))
def rSortT (w : World) : List V → Hp → VK → Prop := fun vs H Q => ∃ (a : Addr) (S : Str → Bool) (n : Nat), vs = [.ref a] ∧ H a = some (TxtO w a S n) ∧
  ∀ (ys : List Str) (p : Addr), sortedS ys = true → ys.Nodup → (∀ y, y ∈ ys ↔ S y = true) → H p = none → Q (.ref p) (upd H p (.lst (ys.map V.str)))
section
variable {X : Cx}
theorem cr_setL (hc : X.calm = true) : CallR X (.type "set") (rSetL X.K X.w) := by
  intro pins s σ H vs us Q I r h
  obtain ⟨l, xs, ns, rfl, hs, hsub, hn, q⟩ := h
  rw [Vals.ref1 r]
  obtain ⟨its, rv, pl, _⟩ := I.list hs
  have hS : StrsAre its xs := strsAre_of rv
  refine call_set_list xs ns (I.ok.hd hc) pl.isList hS hsub (by unfold scanBound; omega) fun h' tk c R k => ?_
  have hf : H s.heap.objs.size = none := I.hok.fresh (Nat.le_refl _)
  exact ⟨.ref s.heap.objs.size, _, I.laid (t' := tk) k (Nat.le_refl _) (txtO_new R), rfl, q _ c hf⟩
theorem cr_sortT (hc : X.calm = true) : CallR X (.builtin "sorted") (rSortT X.w) := by
  intro pins s σ H vs us Q I r h
  obtain ⟨a, S, n, rfl, ha, q⟩ := h
  rw [Vals.ref1 r]
  have R : TxtSet X.w s.heap a S n := (I.hok a _ ha).1
  refine sorted_txt R (I.ok.hd hc) fun s' p out c ys k g o hp hg hi hs hd hm hl => ?_
  have hlen : (ys.map V.str).length ≤ sizeLine := by
    obtain ⟨o', es, ep, t, _, _, _, _, _, _, hb, _, hn, _⟩ := R
    rw [List.length_map, hl, ← hn]
    exact fits_of_scanBound hb
  have hn : H p = none := I.hok.fresh hp
  have J : Inv X pins σ (upd H p (.lst (ys.map V.str))) { s with heap := s'.heap, gens := s'.gens, drawn := s'.drawn, toks := s'.toks } :=
    I.call (ch := []) (Un.laid k hp hn) (I.hok.laid k hp ⟨hlen, out.toList, c, vals_strs hi, hg⟩) (by rw [g]; exact I.bare) (fun _ z => nomatch z)
  have e : s' = { s with heap := s'.heap, gens := s'.gens, drawn := s'.drawn, toks := s'.toks } := by
    cases s'
    cases s
    cases o
    rfl
  rw [e]
  exact ⟨.ref p, _, J, rfl, q ys p hs hd hm hn⟩
variable {a : Expr} {ta : TE} {p p2 q pos : Pos}
/-- an expression at one place, its wish weakened -/
theorem pe_at {e : Expr} {t : TE} (h : PE X e t) (σ : L2.St) (H : Hp) (Q0 : VK) (h0 : t σ H Q0) : PE X e (fun σ' H' Q' => σ' = σ ∧ H' = H ∧ ∀ x H1, Q0 x H1 → Q' x H1) :=
  ⟨fun pins s σ' H' Q' I ⟨e1, e2, k⟩ => by
    subst e1 e2
    exact thn (h.run pins s _ _ Q0 I h0) fun v s1 ⟨x, H1, I1, r1, q1⟩ => ⟨x, H1, I1, r1, k x H1 q1⟩⟩
theorem pe_sortSet (hc : X.calm = true) (hg : Gl X "sorted") (hm : X.mg "sorted" = none) (hg2 : Gl X "set") (hm2 : X.mg "set" = none) (ha : PE X a ta)
    (hs : starEach [a] X.env = (false, eval a X.env) :: starEach [] X.env := by rfl) (hs2 : starEach [.Call (.Name "set" p2) [a] [] q] X.env = (false, eval (.Call (.Name "set" p2) [a] [] q) X.env) :: starEach [] X.env := by rfl)
    (e1 : (backTo q (starEach [] X.env)).any (·.1) = false := by rfl) (e2 : (backTo pos (starEach [] X.env)).any (·.1) = false := by rfl) :
    PE X (.Call (.Name "sorted" p) [.Call (.Name "set" p2) [a] [] q] [] pos) (tSortSet X.K ta) := by
  refine ⟨fun pins s σ H Q I h => ?_⟩
  have hp1 := pa_cons (pe_at ha σ H _ h) pa_nil hs
  have hp2 := pe_callTy (pos := q) (p := p2) (cr_setL hc) hg2 hm2 (by decide +kernel) hp1 (by decide) (by decide) hs e1
  have hp3 := pe_callB (pos := pos) (p := p) (cr_sortT hc) hg hm (by decide +kernel) (pa_cons hp2 pa_nil hs2) (by decide) (by decide) hs2 e2
  refine hp3.run pins s σ H Q I ⟨rfl, rfl, fun x H1 ⟨l, xs, ns, e, hl, hsub, hn, k⟩ => ?_⟩
  refine ⟨l, xs, ns, by rw [e], hl, hsub, hn, fun p c hp => ?_⟩
  refine ⟨p, _, c, rfl, upd_same, fun ys r h1 h2 h3 hr => ?_⟩
  have new : ∀ {H : Hp} {p : Addr} {o : HO}, H p = none → Same H (upd H p o) := fun h b u q => by rw [upd_ne (ne_of_none q h)]; exact q
  exact k ys r _ h1 h2 (fun y => (h3 y).trans decide_eq_true_iff) ((new hp).trans (new hr)) ((new hp).free hr) upd_same
end
end HuS
namespace Hu
open PySem PySem.Spec PyProof.Rows L2 HuS
/-! ### texts as lists of signs -/
abbrev cs (x : Str) : List Nat := x.cps.toList
theorem cs_app (x y : Str) : cs (x ++ y) = cs x ++ cs y := TL.tl_append x y
theorem cs_len (x : Str) : x.length = (cs x).length := by simp [Str.length]
theorem cs_ext {x y : Str} (h : cs x = cs y) : x = y := TL.ext_tl h
theorem cs_one (c : Nat) : cs ⟨#[c]⟩ = [c] := rfl
theorem cs_slTo {x : Str} {i : Int} (h : 0 ≤ i) : cs (Txt.slice x none (some i)) = (cs x).take i.toNat := by
  have e := SX.slice_to (a := cs x) h
  rw [SX.S_tl] at e
  rw [e]
theorem cs_slFrom {x : Str} {i : Int} (h : 0 ≤ i) : cs (Txt.slice x (some i) none) = (cs x).drop i.toNat := by
  have e := SX.slice_from (a := cs x) h
  rw [SX.S_tl] at e
  rw [e]
def az : Str := "abcdefghijklmnopqrstuvwxyz"
def az9 : Str := "abcdefghijklmnopqrstuvwxyz0123456789"
def n09 : Str := "0123456789"
def words : List Str := ["set", "tell", "skip", "if", "else", "while", "end"]
def IsLet (c : Nat) : Prop := 97 ≤ c ∧ c ≤ 122
def IsSgn (c : Nat) : Prop := (97 ≤ c ∧ c ≤ 122) ∨ (48 ≤ c ∧ c ≤ 57)
theorem az_cs : cs az = (List.range 26).map (· + 97) := by decide +kernel
theorem n09_cs : cs n09 = (List.range 10).map (· + 48) := by decide +kernel
theorem az9_eq : az9 = az ++ n09 := by decide +kernel
theorem az9_cs : cs az9 = (List.range 26).map (· + 97) ++ (List.range 10).map (· + 48) := by rw [az9_eq, cs_app, az_cs, n09_cs]
theorem az_at {i : Int} (h0 : 0 ≤ i) (h : i < 26) : atI (cs az) i = some (i.toNat + 97) := by
  obtain ⟨j, rfl⟩ := Int.eq_ofNat_of_zero_le h0
  rw [Int.toNat_natCast]
  refine atI_nat ?_
  rw [az_cs, List.getElem?_map, List.getElem?_range (by omega)]
  rfl
theorem az9_at {i : Int} (h0 : 0 ≤ i) (h : i < 36) : ∃ c, atI (cs az9) i = some c ∧ IsSgn c := by
  obtain ⟨j, rfl⟩ := Int.eq_ofNat_of_zero_le h0
  by_cases hj : j < 26
  · refine ⟨j + 97, atI_nat ?_, .inl ⟨by omega, by omega⟩⟩
    rw [az9_cs, List.getElem?_append_left (by simpa using hj), List.getElem?_map, List.getElem?_range (by omega)]
    rfl
  · refine ⟨(j - 26) + 48, atI_nat ?_, .inr ⟨by omega, by omega⟩⟩
    rw [az9_cs, List.getElem?_append_right (by simp; omega), List.length_map, List.length_range, List.getElem?_map, List.getElem?_range (by omega)]
    rfl
/-- a name -/
structure Nm (x : Str) : Prop where
  pos : 1 ≤ (cs x).length
  most : (cs x).length ≤ 8
  hd : ∀ c, (cs x)[0]? = some c → IsLet c
  all : ∀ c ∈ cs x, IsSgn c
  nw : x ∉ words
/-- a name but for the words -/
structure Nw (x : Str) (n : Nat) : Prop where
  pos : 1 ≤ (cs x).length
  most : (cs x).length ≤ n
  hd : ∀ c, (cs x)[0]? = some c → IsLet c
  all : ∀ c ∈ cs x, IsSgn c
theorem Nm.nw' {x : Str} (h : Nm x) : Nw x 8 := ⟨h.pos, h.most, h.hd, h.all⟩
theorem words_short : ∀ x ∈ words, (cs x).length ≤ 5 := by decide +kernel
theorem words_zero : ∀ x ∈ words, (cs x).getLast? ≠ some 48 := by decide +kernel
theorem Nw.zero {x : Str} {n : Nat} (h : Nw x n) (w : x ∈ words) : Nm (x ++ ("0" : Str)) := by
  have e : cs (x ++ ("0" : Str)) = cs x ++ [48] := by rw [cs_app]; exact congrArg (cs x ++ ·) (by decide +kernel)
  have l := words_short x w
  refine ⟨?_, ?_, fun c hc => ?_, fun c hc => ?_, fun hw => words_zero _ hw ?_⟩
  · rw [e, List.length_append]; have := h.pos; omega
  · rw [e, List.length_append, List.length_singleton]; omega
  · rw [e, List.getElem?_append_left (by have := h.pos; omega)] at hc
    exact h.hd c hc
  · rw [e] at hc
    rcases List.mem_append.mp hc with hc | hc
    · exact h.all c hc
    · rw [List.mem_singleton.mp hc]; exact .inr ⟨by omega, by omega⟩
  · rw [e, List.getLast?_append]; rfl
theorem Nw.nm {x : Str} (h : Nw x 8) (w : x ∉ words) : Nm x := ⟨h.pos, h.most, h.hd, h.all, w⟩
theorem Nw.snoc {x : Str} {n c : Nat} (h : Nw x n) (hc : IsSgn c) : Nw (x ++ ⟨#[c]⟩) (n + 1) := by
  have e : cs (x ++ ⟨#[c]⟩) = cs x ++ [c] := cs_app _ _
  refine ⟨?_, ?_, fun d hd => ?_, fun d hd => ?_⟩
  · rw [e, List.length_append]; have := h.pos; omega
  · rw [e, List.length_append, List.length_singleton]; have := h.most; omega
  · rw [e, List.getElem?_append_left (by have := h.pos; omega)] at hd
    exact h.hd d hd
  · rw [e] at hd
    rcases List.mem_append.mp hd with hd | hd
    · exact h.all d hd
    · rw [List.mem_singleton.mp hd]; exact hc
theorem Nw.one {c : Nat} (h : IsLet c) : Nw ⟨#[c]⟩ 1 := ⟨Nat.le_refl _, Nat.le_refl _, fun d hd => by
  have e : c = d := Option.some.inj hd
  exact e ▸ h, fun d hd => by rw [List.mem_singleton.mp hd]; exact .inl h⟩
/-- one sign put in the place of another -/
theorem Nw.swap {x : Str} {at' : Nat} {c : Nat} (h : Nw x 8) (ha : at' < (cs x).length) (hc : IsSgn c) (h0 : at' = 0 → IsLet c) :
    Nw (Txt.slice x none (some (at' : Int)) ++ ⟨#[c]⟩ ++ Txt.slice x (some ((at' : Int) + 1)) none) 8 := by
  have e : cs (Txt.slice x none (some (at' : Int)) ++ ⟨#[c]⟩ ++ Txt.slice x (some ((at' : Int) + 1)) none) = ((cs x).take at' ++ [c]) ++ (cs x).drop (at' + 1) := by
    rw [cs_app, cs_app, cs_slTo (by omega), cs_slFrom (by omega)]
    have : ((at' : Int) + 1).toNat = at' + 1 := by omega
    rw [this, Int.toNat_natCast, cs_one]
  have l := h.most
  refine ⟨?_, ?_, fun d hd => ?_, fun d hd => ?_⟩
  · rw [e]; simp only [List.length_append, List.length_singleton]; omega
  · rw [e]; simp only [List.length_append, List.length_singleton, List.length_take, List.length_drop]; omega
  · rw [e] at hd
    cases at' with
    | zero =>
      have z : c = d := Option.some.inj hd
      exact z ▸ h0 rfl
    | succ k =>
      rw [List.append_assoc, List.getElem?_append_left (by rw [List.length_take]; omega), List.getElem?_take_of_lt (by omega)] at hd
      exact h.hd d hd
  · rw [e] at hd
    rcases List.mem_append.mp hd with hd | hd
    · rcases List.mem_append.mp hd with hd | hd
      · exact h.all d (List.mem_of_mem_take hd)
      · rw [List.mem_singleton.mp hd]; exact hc
    · exact h.all d (List.mem_of_mem_drop hd)
theorem Nw.cut {x : Str} {c : Nat} (h : Nw x 8) (hc : IsLet c) : Nw (Txt.slice x none (some 7) ++ ⟨#[c]⟩) 8 := by
  have e : cs (Txt.slice x none (some 7) ++ ⟨#[c]⟩) = (cs x).take 7 ++ [c] := by
    rw [cs_app, cs_slTo (by omega), cs_one] <;> rfl
  have l := h.most
  have p := h.pos
  refine ⟨?_, ?_, fun d hd => ?_, fun d hd => ?_⟩
  · rw [e, List.length_append, List.length_singleton]; omega
  · rw [e, List.length_append, List.length_singleton, List.length_take]; omega
  · rw [e, List.getElem?_append_left (by rw [List.length_take]; omega), List.getElem?_take_of_lt (by omega)] at hd
    exact h.hd d hd
  · rw [e] at hd
    rcases List.mem_append.mp hd with hd | hd
    · exact h.all d (List.mem_of_mem_take hd)
    · rw [List.mem_singleton.mp hd]; exact .inl hc
/-! ### flat lists -/
theorem flat_txt (xs : List Str) : (xs.map V.str).all flatV = true := by
  rw [List.all_map, List.all_eq_true]
  intro _ _
  rfl
theorem inV_txt (x : Str) (xs : List Str) : inV (.str x) (xs.map V.str) = decide (x ∈ xs) := by
  unfold inV
  rw [List.any_map]
  induction xs with
  | nil => rfl
  | cons y r ih =>
    rw [List.any_cons, ih]
    show ((y == x) || decide (x ∈ r)) = _
    by_cases e : y = x
    · subst e; simp
    · have e2 : ¬ x = y := fun z => e z.symm
      simp [e, e2]
/-! ### the while of the names ends -/
/-- the text behind i turns -/
def cand (x : Str) (o k : Int) : Nat → Str
  | 0 => x
  | i + 1 => cand (Txt.slice x none (some 7) ++ ⟨#[((o + (x.length : Int) + k) % 26).toNat + 97]⟩) (o + 5) k i
def step7 (x : Str) (o k : Int) : Str := Txt.slice x none (some 7) ++ ⟨#[((o + (x.length : Int) + k) % 26).toNat + 97]⟩
theorem step7_cs (x : Str) (o k : Int) : cs (step7 x o k) = (cs x).take 7 ++ [((o + (x.length : Int) + k) % 26).toNat + 97] := by
  unfold step7
  rw [cs_app, cs_slTo (by omega), cs_one] <;> rfl
theorem cand_succ (x : Str) (o k : Int) (i : Nat) : cand x o k (i + 1) = cand (step7 x o k) (o + 5) k i := rfl
theorem cand_add (x : Str) (o k : Int) : ∀ i j, cand x o k (i + j) = cand (cand x o k i) (o + 5 * i) k j
  | 0, j => by
    rw [Nat.zero_add]
    have : o + 5 * ((0 : Nat) : Int) = o := by omega
    rw [this] <;> rfl
  | i + 1, j => by
    rw [Nat.succ_add, cand_succ, cand_succ, cand_add (step7 x o k) (o + 5) k i j]
    have : o + 5 + 5 * (i : Int) = o + 5 * ((i + 1 : Nat) : Int) := by omega
    rw [this]
theorem cand_len (x : Str) (o k : Int) (h : (cs x).length ≤ 8) : ∀ i, (cs (cand x o k i)).length ≤ 8 ∧ min 8 ((cs x).length + i) ≤ (cs (cand x o k i)).length
  | 0 => ⟨h, by show min 8 ((cs x).length + 0) ≤ (cs x).length; omega⟩
  | i + 1 => by
    have e : (cs (step7 x o k)).length = min 7 (cs x).length + 1 := by rw [step7_cs, List.length_append, List.length_take, List.length_singleton]
    have q := cand_len (step7 x o k) (o + 5) k (by omega) i
    rw [cand_succ]
    omega
/-- once eight long -/
theorem cand_eight (x : Str) (o k : Int) (h : (cs x).length = 8) : ∀ i, cs (cand x o k (i + 1)) = (cs x).take 7 ++ [((o + 5 * (i : Int) + 8 + k) % 26).toNat + 97]
  | 0 => by
    show cs (step7 x o k) = _
    rw [step7_cs, cs_len, h]
    have : o + 5 * ((0 : Nat) : Int) + 8 + k = o + ((8 : Nat) : Int) + k := by omega
    rw [this]
  | i + 1 => by
    have l : (cs (step7 x o k)).length = 8 := by rw [step7_cs, List.length_append, List.length_take, List.length_singleton, h] <;> rfl
    have q := cand_eight (step7 x o k) (o + 5) k l i
    rw [cand_succ, q, step7_cs]
    have e1 : ((cs x).take 7 ++ [((o + (x.length : Int) + k) % 26).toNat + 97]).take 7 = (cs x).take 7 := by
      rw [List.take_append_of_le_length (by rw [List.length_take, h]; omega), List.take_take] <;> rfl
    have e2 : o + 5 + 5 * (i : Int) + 8 + k = o + 5 * ((i + 1 : Nat) : Int) + 8 + k := by omega
    rw [e1, e2]
theorem cand_inj (x : Str) (o k : Int) (h : (cs x).length = 8) {i j : Nat} (hi : i < 26) (hj : j < 26) (e : cand x o k (i + 1) = cand x o k (j + 1)) : i = j := by
  have q := congrArg cs e
  rw [cand_eight x o k h, cand_eight x o k h] at q
  have z := List.append_cancel_left q
  injection z with z _
  have a1 := Int.emod_nonneg (o + 5 * (i : Int) + 8 + k) (show (26 : Int) ≠ 0 by decide)
  have a2 := Int.emod_nonneg (o + 5 * (j : Int) + 8 + k) (show (26 : Int) ≠ 0 by decide)
  omega
theorem cand_out (x : Str) (o k : Int) (h : (cs x).length = 8) (ns : List Str) (hn : ns.length ≤ 20) : ∃ m, m ≤ 26 ∧ cand x o k m ∉ ns := by
  refine Classical.byContradiction fun no => ?_
  have all : ∀ i, i < 26 → cand x o k (i + 1) ∈ ns := fun i hi => Classical.byContradiction fun z => no ⟨i + 1, by omega, z⟩
  have nd : ((List.range 26).map fun i => cand x o k (i + 1)).Nodup := by
    unfold List.Nodup
    rw [List.pairwise_map]
    refine List.Pairwise.imp_of_mem (fun {a b} ha hb hab e => ?_) (List.nodup_range (n := 26))
    exact hab (cand_inj x o k h (List.mem_range.mp ha) (List.mem_range.mp hb) e)
  have l := HuS.nodup_le nd fun y hy => by
    obtain ⟨i, hi, rfl⟩ := List.mem_map.mp hy
    exact all i (List.mem_range.mp hi)
  rw [List.length_map, List.length_range] at l
  omega
theorem cand_ends (x : Str) (o k : Int) (h : (cs x).length ≤ 8) (ns : List Str) (hn : ns.length ≤ 20) : ∃ m, cand x o k m ∉ ns := by
  have l := cand_len x o k h 8
  have l8 : (cs (cand x o k 8)).length = 8 := by omega
  obtain ⟨m, _, hm⟩ := cand_out (cand x o k 8) (o + 5 * ((8 : Nat) : Int)) k l8 ns hn
  exact ⟨8 + m, by rw [cand_add]; exact hm⟩
/-! ### more steps -/
def rFind : V → List V → Hp → VK → Prop := fun x xs H Q => ∃ a b, x = .str a ∧ xs = [.str b] ∧ Q (.int (Txt.find a b)) H
section
variable {K : PySem.W.Frag} {σ : L2.St} {H : Hp} {Q : VK} {x y v : V} {ta tb tc te : TE} {t u : TT} {D : Ends} {ts tu tw : TS}
theorem w_new {n : Nat} {R : Addr → Prop} (z : n ≤ sizeLine) (q : ∀ p, H p = none → R p) : n ≤ sizeLine ∧ ∀ p, H p = none → R p := ⟨z, q⟩
theorem w_for {wi : TI} {g : TG} (q : wi σ H fun J H1 => ∃ W : Nat → Nat → L2.St → Hp → Prop, (∃ m, W 0 m σ H1) ∧ ∀ i m σ H, W i m σ H →
    (J.stop i H ∧ D.nx σ H) ∨ (J.go i H ∧ ∃ N : L2.St → Hp → Prop, (∀ σ' H', N σ' H' → ∃ m', m' < m ∧ W (i + 1) m' σ' H') ∧ ∀ x H', J.yld i H x H' → g x σ H' fun σ2 H2 => ts { D with nx := N, ct := N, bk := D.nx } σ2 H2)) : tFor wi g ts D σ H := q
theorem w_rng1 {ta : TA} {R : It → Hp → Prop} (q : ta σ H fun vs H1 => ∃ j : Int, vs = [.int j] ∧ -(2 ^ 62) ≤ j ∧ j < 2 ^ 62 ∧ R (Itr 0 j.toNat) H1) : iRng1 ta σ H R := q
theorem w_iseq {R : It → Hp → Prop} (q : te σ H fun x H1 => ∃ a, x = .ref a ∧ (((∃ xs, SqL K H1 a xs) ∧ R (Itl K a) H1) ∨ ((∃ xs, SqT K H1 a xs) ∧ R (Itt K a) H1))) : iSeq K te σ H R := q
theorem w_isL {a : Addr} {xs : List V} {P1 : Addr → Prop} {P2 : Addr → Prop} (h : SqL K H a xs) (q : P1 a) : ∃ b, V.ref a = .ref b ∧ (((∃ xs, SqL K H b xs) ∧ P1 b) ∨ P2 b) := ⟨a, rfl, .inl ⟨⟨xs, h⟩, q⟩⟩
theorem w_isT {a : Addr} {xs : List V} {P1 : Addr → Prop} {P2 : Addr → Prop} (h : SqT K H a xs) (q : P2 a) : ∃ b, V.ref a = .ref b ∧ (P1 b ∨ ((∃ xs, SqT K H b xs) ∧ P2 b)) := ⟨a, rfl, .inr ⟨⟨xs, h⟩, q⟩⟩
theorem w_inTxt {p : Addr} {z : Str} {xs : List Str} (h : SqL K H p (xs.map V.str)) (q : Q (.bl (decide (z ∈ xs))) H) : rIn2 K false (.str z) (.ref p) H Q := .inl ⟨p, _, rfl, .inl h, rfl, flat_txt xs, by rw [inV_txt]; exact q⟩
theorem w_ninTxt {p : Addr} {z : Str} {xs : List Str} (h : SqL K H p (xs.map V.str)) (q : Q (.bl (!decide (z ∈ xs))) H) : rIn2 K true (.str z) (.ref p) H Q := .inl ⟨p, _, rfl, .inl h, rfl, flat_txt xs, by rw [inV_txt]; exact q⟩
theorem w_inTxtT {p : Addr} {z : Str} {xs : List Str} (h : SqT K H p (xs.map V.str)) (q : Q (.bl (decide (z ∈ xs))) H) : rIn2 K false (.str z) (.ref p) H Q := .inl ⟨p, _, rfl, .inr h, rfl, flat_txt xs, by rw [inV_txt]; exact q⟩
theorem w_tYes {Q : Bool → Hp → Prop} (q : Q true H) : tYes σ H Q := q
theorem w_gN {i : Nat} {Qs : L2.St → Hp → Prop} (q : Qs (σ.set i (some v)) H) : gName i v σ H Qs := q
theorem w_gTup {n : Nat} {t : TGs} {a : Addr} {xs : List V} {Qs : L2.St → Hp → Prop} (h : SqT K H a xs) (l : xs.length = n) (q : t xs σ H Qs) : gTup K n t (.ref a) σ H Qs := ⟨a, xs, rfl, h, l, q⟩
theorem w_gTupN {n : Nat} {t : TGs} {a : Addr} {xs : List V} {Qs : L2.St → Hp → Prop} (l : xs.length = n) (q : t xs σ (upd H a (.tup xs)) Qs) : gTup K n t (.ref a) σ (upd H a (.tup xs)) Qs := ⟨a, xs, rfl, SqT.of upd_same, l, q⟩
theorem w_gCons {t : TG} {u : TGs} {vs : List V} {Qs : L2.St → Hp → Prop} (q : t v σ H fun σ' H' => u vs σ' H' Qs) : gCons t u (v :: vs) σ H Qs := ⟨v, vs, rfl, q⟩
theorem w_gNil {Qs : L2.St → Hp → Prop} (q : Qs σ H) : gNil [] σ H Qs := ⟨rfl, q⟩
theorem w_enum {ta : TA} {R : It → Hp → Prop} (q : ta σ H fun vs H1 => ∃ a xs, vs = [.ref a] ∧ SqL K H1 a xs ∧ R (Ite K a) H1) : iEnum K ta σ H R := q
theorem w_rng2 {ta : TA} {R : It → Hp → Prop} (q : ta σ H fun vs H1 => ∃ i j : Int, vs = [.int i, .int j] ∧ (-(2 ^ 62) ≤ i ∧ i < 2 ^ 62 ∧ -(2 ^ 62) ≤ j ∧ j < 2 ^ 62) ∧ R (Itr i (j - i).toNat) H1) : iRng2 ta σ H R := q
theorem w_isNref {a : Addr} (q : Q (.bl false) H) : rIsN2 false (.ref a) .non H Q := ⟨rfl, q⟩
theorem w_notNref {a : Addr} (q : Q (.bl true) H) : rIsN2 true (.ref a) .non H Q := ⟨rfl, q⟩
theorem w_isNint {i : Int} (q : Q (.bl false) H) : rIsN2 false (.int i) .non H Q := ⟨rfl, q⟩
theorem w_notNint {i : Int} (q : Q (.bl true) H) : rIsN2 true (.int i) .non H Q := ⟨rfl, q⟩
theorem w_isNnon (q : Q (.bl true) H) : rIsN2 false .non .non H Q := ⟨rfl, q⟩
theorem w_notNnon (q : Q (.bl false) H) : rIsN2 true .non .non H Q := ⟨rfl, q⟩
theorem w_dget {td ty : TE} (q : td σ H fun x H1 => ty σ H1 fun y H2 => ∃ a v, x = .ref a ∧ DGet H2 a y (some v) ∧ Q v H2) : tDGet td ty σ H Q := q
theorem w_dput {td ty tv : TE} (q : tv σ H fun v H1 => td σ H1 fun x H2 => ty σ H2 fun y H3 => ∃ a H4, x = .ref a ∧ DPut H3 a y v H4 ∧ D.nx σ H4) : sDPut td ty tv D σ H := q
theorem w_dnew (q : ∀ p, H p = none → Q (.ref p) (upd H p (.dK []))) : tDNewK σ H Q := q
theorem w_dgetAt {a : Addr} {kvs : List (Key × V)} {x : Str} {R : V → Prop} {v : V} (h : H a = some (.dK kvs)) (e : valV kvs (.inr x) = some v) (q : R v) : ∃ b w, V.ref a = .ref b ∧ DGet H b (.str x) (some w) ∧ R w := ⟨a, v, rfl, by rw [← e]; exact DGet.k (k := .inr x) h, q⟩
theorem w_dputAt {a : Addr} {kvs : List (Key × V)} {x : Str} {y : V} {R : Hp → Prop} (h : H a = some (.dK kvs)) (l : kvs.length < sizeLine) (q : R (upd H a (.dK (putK kvs (.inr x) y)))) : ∃ b H4, V.ref a = .ref b ∧ DPut H b (.str x) y H4 ∧ R H4 := ⟨a, _, rfl, DPut.k (k := .inr x) h l, q⟩
theorem w_sl {tl th : TO} {r : V → Option Int → Option Int → Hp → VK → Prop} (q : te σ H fun x H1 => tl σ H1 fun l H2 => th σ H2 fun u H3 => r x l u H3 Q) : tSl r te tl th σ H Q := q
theorem w_noP {Q : Option Int → Hp → Prop} (q : Q none H) : tNoPart σ H Q := q
theorem w_part {Q : Option Int → Hp → Prop} (q : te σ H fun x H1 => ∃ i, x = .int i ∧ Q (some i) H1) : tPart te σ H Q := q
theorem w_slS {z : Str} {lo hi : Option Int} (h : z.length ≤ sizeLine) (q : Q (.str (Txt.slice z lo hi)) H) : rSl K (.str z) lo hi H Q := .inr (.inr ⟨z, rfl, h, q⟩)
theorem w_slL {a : Addr} {xs : List V} {lo hi : Option Int} (h : SqL K H a xs) (q : ∀ p, H p = none → Q (.ref p) (upd H p (.lst (cutV xs lo hi)))) : rSl K (.ref a) lo hi H Q := .inl ⟨a, xs, rfl, h, q⟩
theorem w_exI {i : Int} {R : Int → Prop} (q : R i) : ∃ j, V.int i = .int j ∧ R j := ⟨i, rfl, q⟩
theorem w_bm {T : String} {r : V → List V → Hp → VK → Prop} {t : TA} (q : te σ H fun x H1 => tyV K T x H1 ∧ t σ H1 fun xs H2 => r x xs H2 Q) : tBM K T r te t σ H Q := q
theorem w_bmS {z : Str} {R : Prop} (q : R) : tyV K "str" (.str z) H ∧ R := ⟨rfl, q⟩
theorem w_bmL {p : Addr} {xs : List V} {R : Prop} (h : SqL K H p xs) (q : R) : tyV K "list" (.ref p) H ∧ R := ⟨.inl ⟨rfl, xs, h⟩, q⟩
theorem w_find {a b : Str} (q : Q (.int (Txt.find a b)) H) : rFind (.str a) [.str b] H Q := ⟨a, b, rfl, rfl, q⟩
theorem w_app {l : Addr} {xs : List V} (h : H l = some (.lst xs)) (z : xs.length < sizeLine) (q : Q .non (upd H l (.lst (xs ++ [y])))) : rAppend (.ref l) [y] H Q := ⟨l, xs, y, rfl, rfl, h, z, q⟩
theorem w_while {c : TT} (Pv : Nat → L2.St → Hp → Prop) (m0 : Nat) (h0 : Pv m0 σ H)
    (hs : ∀ m σ' H', Pv m σ' H' → c σ' H' fun b H1 => if b = true then ts { D with nx := fun σ2 H2 => ∃ m', m' < m ∧ Pv m' σ2 H2, ct := fun σ2 H2 => ∃ m', m' < m ∧ Pv m' σ2 H2, bk := D.nx } σ' H1 else D.nx σ' H1)
    (mono : ∀ σ H Q Q', (∀ b H1, Q b H1 → Q' b H1) → c σ H Q → c σ H Q') : tWhile c ts D σ H :=
  ⟨Pv, ⟨m0, h0⟩, fun m σ' H' p => mono _ _ _ _ (fun b H1 q => by
    cases b with
    | true => exact ⟨_, fun _ _ h => h, q⟩
    | false => exact q) (hs m σ' H' p)⟩
theorem w_while' {c : TT} (Pv : Nat → L2.St → Hp → Prop) (m0 : Nat) (h0 : Pv m0 σ H)
    (hs : ∀ m σ' H', Pv m σ' H' → c σ' H' fun b H1 => if b = true then ∃ N : L2.St → Hp → Prop, (∀ σ2 H2, N σ2 H2 → ∃ m', m' < m ∧ Pv m' σ2 H2) ∧ ts { D with nx := N, ct := N, bk := D.nx } σ' H1 else D.nx σ' H1) : tWhile c ts D σ H :=
  ⟨Pv, ⟨m0, h0⟩, hs⟩
theorem w_body {m : Nat} {Pv : Nat → L2.St → Hp → Prop} {S : Ends} (h : ts { S with nx := fun σ2 H2 => ∃ m', m' < m ∧ Pv m' σ2 H2, ct := fun σ2 H2 => ∃ m', m' < m ∧ Pv m' σ2 H2, bk := D.nx } σ H) :
    ∃ N : L2.St → Hp → Prop, (∀ σ2 H2, N σ2 H2 → ∃ m', m' < m ∧ Pv m' σ2 H2) ∧ ts { S with nx := N, ct := N, bk := D.nx } σ H := ⟨_, fun _ _ h => h, h⟩
end
local macro_rules | `(tactic| walk_at "sm") => `(tactic| first
  | with_reducible assumption
  | exact Same.refl _
  | (refine Same.trans ?_ (same_new (by with_reducible assumption)); walk_at "sm")
  | (refine same_mut ?_ (by with_reducible assumption); walk_at "sm")
  | (refine Same.trans (H1 := ?M) ?a ?b; (case b => with_reducible assumption); (case a => walk_at "sm")))
local macro_rules | `(tactic| walk_at "sq") => `(tactic| first
  | with_reducible assumption
  | (refine same_t (H := ?M) ?e ?h; (case h => with_reducible assumption); (case e => walk_at "sm"))
  | (refine same_l (H := ?M) ?e ?h; (case h => with_reducible assumption); (case e => walk_at "sm"))
  | exact SqT.of upd_same
  | exact SqL.of upd_same
  | exact SqL.of (by with_reducible assumption)
  | exact SqT.of (by with_reducible assumption)
  | (refine SqL.of (Eq.trans (upd_ne ?n) ?h); (case h => with_reducible assumption); (case n => walk_at "ne"))
  | (refine SqT.of (Eq.trans (upd_ne ?n) ?h); (case h => with_reducible assumption); (case n => walk_at "ne")))
local macro_rules | `(tactic| walk_at "ne") => `(tactic| first | with_reducible assumption | exact ne_of_none (by with_reducible assumption) (by with_reducible assumption) | exact (ne_of_none (by with_reducible assumption) (by with_reducible assumption)).symm)
local macro_rules | `(tactic| walk_at "sz") => `(tactic| first | with_reducible assumption | (refine sz ?_; first | omega | (simp only [List.length_cons, List.length_nil, List.length_map]; omega) | (simp only [cs_len]; omega)))
set_option hygiene false in
local macro_rules | `(tactic| walk_at "new") => `(tactic| (refine w_new ?_ (fun p hp => ?_); (walk_at "sz")))
local macro_rules | `(tactic| walk_at "tr") => `(tactic| first | with_reducible assumption | with_reducible rfl | decide +kernel | exact decide_eq_true (by with_reducible assumption) | exact decide_eq_false (by with_reducible assumption))
local macro_rules | `(tactic| walk_at "go1") => `(tactic| first
  | with_reducible refine w_seq ?_
  | with_reducible refine w_if ?_
  | with_reducible refine w_asg ?_
  | with_reducible refine w_ret ?_
  | with_reducible refine w_next ?_
  | with_reducible refine w_drop ?_
  | with_reducible refine w_test ?_
  | with_reducible refine w_tB ?_
  | with_reducible refine w_op ?_
  | with_reducible refine w_c ?_
  | ((with_reducible refine w_var (v := ?v) ?h ?_); (case h => rfl))
  | with_reducible refine w_cons ?_
  | with_reducible refine w_nil ?_
  | with_reducible refine w_f ?_
  | with_reducible refine w_cb ?_
  | with_reducible refine w_bl ?_
  | ((with_reducible refine w_ixT (xs := ?xs) (v := ?v) ?h ?e ?_); (case h => walk_at "sq"); (case e => rfl))
  | ((with_reducible refine w_ixL (xs := ?xs) (v := ?v) ?h ?e ?_); (case h => walk_at "sq"); (case e => rfl))
  | with_reducible refine w_eqI ?_
  | with_reducible refine w_eqS ?_
  | with_reducible refine w_neI ?_
  | with_reducible refine w_neS ?_
  | with_reducible refine w_addI ?_
  | with_reducible refine w_sub ?_
  | ((with_reducible refine w_mod ?c ?_); (case c => (first | decide | omega)))
  | ((with_reducible refine w_div ?c ?_); (case c => (first | exact ⟨by decide, by decide⟩ | exact ⟨by omega, by omega⟩)))
  | with_reducible refine w_lt ?_
  | with_reducible refine w_le ?_
  | with_reducible refine w_gt ?_
  | with_reducible refine w_ge ?_
  | with_reducible refine w_and ?_
  | with_reducible refine w_or ?_
  | with_reducible refine w_not ?_
  | with_reducible refine w_andV ?_
  | with_reducible refine w_orV ?_
  | with_reducible refine w_notV ?_
  | with_reducible refine w_un ?_
  | with_reducible refine w_neg ?_
  | with_reducible refine w_intB ?_
  | with_reducible refine w_intI ?_
  | ((with_reducible refine w_yes ?e ?_); (case e => walk_at "tr"))
  | ((with_reducible refine w_no ?e ?_); (case e => walk_at "tr"))
  | with_reducible refine w_for ?_
  | with_reducible refine w_rng1 ?_
  | with_reducible refine w_iseq ?_
  | with_reducible refine w_sl ?_
  | with_reducible refine w_noP ?_
  | with_reducible refine w_tYes ?_
  | with_reducible refine w_gN ?_
  | ((with_reducible refine w_gTupN ?l ?_); (case l => rfl))
  | ((with_reducible refine w_gTup (xs := ?xs) ?h ?l ?_); (case h => walk_at "sq"); (case l => rfl))
  | with_reducible refine w_gCons ?_
  | with_reducible refine w_gNil ?_
  | with_reducible refine w_enum ?_
  | with_reducible refine w_rng2 ?_
  | with_reducible refine w_isNref ?_
  | with_reducible refine w_notNref ?_
  | with_reducible refine w_isNint ?_
  | with_reducible refine w_notNint ?_
  | with_reducible refine w_isNnon ?_
  | with_reducible refine w_notNnon ?_
  | with_reducible refine w_dget ?_
  | with_reducible refine w_dput ?_
  | with_reducible refine w_dnew ?_
  | with_reducible refine w_part ?_
  | with_reducible refine w_exI ?_
  | with_reducible refine w_bm ?_
  | with_reducible refine w_bmS ?_
  | ((with_reducible refine w_bmL (xs := ?xs) ?h ?_); (case h => walk_at "sq"))
  | with_reducible refine w_find ?_
  | ((with_reducible refine w_slS ?z ?_); (case z => walk_at "sz"))
  | ((with_reducible refine w_lenS ?z ?_); (case z => walk_at "sz"))
  | ((with_reducible refine w_addT ?z ?_); (case z => walk_at "sz"))
  | ((with_reducible refine w_lenL (xs := ?xs) ?h ?_); (case h => walk_at "sq"))
  | ((with_reducible refine w_lenT (xs := ?xs) ?h ?_); (case h => walk_at "sq"))
  | with_reducible refine w_lst ?_
  | with_reducible refine w_tup ?_)
local macro_rules | `(tactic| walk_at "go") => `(tactic| repeat walk_at "go1")
local macro_rules | `(tactic| walk_at "gn") => `(tactic| repeat ((fail_if_success (with_reducible refine w_next ?_)); walk_at "go1"))
local macro_rules | `(tactic| walk_at "sz1") => `(tactic| (simp only [List.length_cons, List.length_nil, List.length_map]; omega))
/-! formulas as data -/
inductive Sg where
  | add | sub | mul | div | lt | eq
  deriving DecidableEq
def Sg.txt : Sg → Str
  | .add => "+" | .sub => "-" | .mul => "*" | .div => "/" | .lt => "<" | .eq => "="
inductive Fm where
  | num (n : Int)
  | nam (x : Str)
  | op (s : Sg) (a b : Fm)
def Fm.depth : Fm → Nat
  | .num _ => 1
  | .nam _ => 1
  | .op _ a b => max a.depth b.depth + 1
theorem Fm.depth_pos : ∀ f : Fm, 1 ≤ f.depth
  | .num _ => Nat.le_refl _
  | .nam _ => Nat.le_refl _
  | .op _ _ _ => Nat.succ_le_succ (Nat.zero_le _)
inductive FmAt (K : PySem.W.Frag) (H : Hp) : V → Fm → Prop where
  | num {a : Addr} {n : Int} (h : SqT K H a [.str "number", .int n]) : FmAt K H (.ref a) (.num n)
  | nam {a : Addr} {x : Str} (h : SqT K H a [.str "name", .str x]) : FmAt K H (.ref a) (.nam x)
  | op {a : Addr} {s : Sg} {u v : V} {f g : Fm} (h : SqT K H a [.str s.txt, u, v]) (h1 : FmAt K H u f) (h2 : FmAt K H v g) : FmAt K H (.ref a) (.op s f g)
theorem FmAt.mono {K : PySem.W.Frag} {H H' : Hp} (e : Same H H') {v : V} {f : Fm} (h : FmAt K H v f) : FmAt K H' v f := by
  induction h with
  | num h => exact .num (same_t e h)
  | nam h => exact .nam (same_t e h)
  | op h _ _ i1 i2 => exact .op (same_t e h) i1 i2
/-- a new list -/
def NewL (H H' : Hp) (v : V) (xs : List V) : Prop := ∃ p, v = .ref p ∧ H p = none ∧ H' p = some (.lst xs)

theorem sg_num (s : Sg) : decide (s.txt = ("number" : Str)) = false := by cases s <;> decide +kernel
theorem sg_nam (s : Sg) : decide (s.txt = ("name" : Str)) = false := by cases s <;> decide +kernel
/-! all_names -/
def Fm.names : Fm → List Str
  | .num _ => []
  | .nam x => [x]
  | .op _ a b => a.names ++ b.names
theorem Fm.names_len : ∀ f : Fm, f.names.length ≤ 2 ^ f.depth
  | .num _ => Nat.zero_le _
  | .nam _ => by show 1 ≤ 2 ^ 1; decide
  | .op _ a b => by
    have h1 := a.names_len
    have h2 := b.names_len
    have h3 : 2 ^ a.depth ≤ 2 ^ max a.depth b.depth := Nat.pow_le_pow_right (by decide) (Nat.le_max_left _ _)
    have h4 : 2 ^ b.depth ≤ 2 ^ max a.depth b.depth := Nat.pow_le_pow_right (by decide) (Nat.le_max_right _ _)
    show (a.names ++ b.names).length ≤ 2 ^ (max a.depth b.depth + 1)
    rw [List.length_append, Nat.pow_succ]
    omega
theorem Fm.names_small {f : Fm} {n : Nat} (h : f.depth ≤ n) (hn : n ≤ 20) : f.names.length ≤ 1048576 := by
  have h1 := f.names_len
  have h2 : 2 ^ f.depth ≤ 2 ^ 20 := Nat.pow_le_pow_right (by decide) (Nat.le_trans h hn)
  exact Nat.le_trans h1 h2

/-! ### promises of the law's own makers -/
def Fm.ok (ns : List Str) : Fm → Prop
  | .num n => 0 ≤ n ∧ n < 1000000
  | .nam x => x ∈ ns
  | .op _ a b => a.ok ns ∧ b.ok ns
theorem Fm.ok_mono {ns ms : List Str} (h : ∀ x ∈ ns, x ∈ ms) : ∀ {f : Fm}, f.ok ns → f.ok ms
  | .num _, q => q
  | .nam _, q => h _ q
  | .op _ _ _, q => ⟨Fm.ok_mono h q.1, Fm.ok_mono h q.2⟩
def sp_law_cell_at (K : PySem.W.Frag) : Sp := fun vs H Q _ => ∃ (a : Addr) (ns : List Int) (k : Int), vs = [.ref a, .int k] ∧ SqL K H a (ns.map V.int) ∧ 0 ≤ k ∧ ∀ c : Int, Q (.int c) H
def sp_law_mixed (_ : PySem.W.Frag) : Sp := fun vs H Q _ => ∃ n : Int, vs = [.int n] ∧ ∀ r : Int, 0 ≤ r → r < 2147483647 → Q (.int r) H
def sp_law_name_by (_ : PySem.W.Frag) : Sp := fun vs H Q _ => ∃ n : Int, vs = [.int n] ∧ ∀ x H', Nm x → Same H H' → Q (.str x) H'
def sp_law_twin (_ : PySem.W.Frag) : Sp := fun vs H Q _ => ∃ (x : Str) (n : Int), vs = [.str x, .int n] ∧ Nm x ∧ ∀ y H', Nm y → Same H H' → Q (.str y) H'
structure Ten (ns : List Str) : Prop where
  len : ns.length = 10
  nd : ns.Nodup
  nm : ∀ x ∈ ns, Nm x
def sp_law_names (_ : PySem.W.Frag) : Sp := fun vs H Q _ => ∃ n m : Int, vs = [.int n, .int m] ∧ ∀ p H' ns, Ten ns → Same H H' → H p = none → H' p = some (.lst (ns.map V.str)) → Q (.ref p) H'
def sp_law_end_by (K : PySem.W.Frag) : Sp := fun vs H Q _ => ∃ (n : Int) (a : Addr) (ns : List Str), vs = [.int n, .ref a] ∧ SqL K H a (ns.map V.str) ∧ (∀ x ∈ ns, Nm x) ∧ ns.length ≤ 1000 ∧ ∀ v H' f, FmAt K H' v f → Same H H' → f.ok ns → f.depth = 1 → Q v H'
def sp_law_formula_by (K : PySem.W.Frag) (n : Nat) : Sp := fun vs H Q _ => ∃ (i : Int) (a b : Addr) (ns ms : List Str) (d : Bool) (l : Int), vs = [.int i, .ref a, .ref b, .bl d, .int l] ∧ SqL K H a (ns.map V.str) ∧ SqL K H b (ms.map V.str) ∧
  (∀ x ∈ ns, Nm x) ∧ (∀ x ∈ ms, Nm x) ∧ ns.length ≤ 1000 ∧ ms.length ≤ 1000 ∧ 1 ≤ l ∧ l ≤ n ∧ ∀ v H' f, FmAt K H' v f → Same H H' → f.ok (ns ++ ms) → (f.depth : Int) ≤ l → Q v H'
def sp_law_deep_formula (K : PySem.W.Frag) : Sp := fun vs H Q _ => ∃ (n : Int) (a : Addr) (ns : List Str), vs = [.int n, .ref a] ∧ SqL K H a (ns.map V.str) ∧ (∀ x ∈ ns, Nm x) ∧ ns.length ≤ 1000 ∧ ∀ v H' f, FmAt K H' v f → Same H H' → f.ok ns → f.depth ≤ 12 → Q v H'
abbrev N_law_cell_at : List Str := ["_law_script", "_law_k"]
def t_law_cell_at (K : PySem.W.Frag) : TS :=
  (tSeq (tIfS (tTest (tOp rLt (tVar 1) (tCB (rLenA K) (tCons (tVar 0) tNil)))) (tRet (tOp (rIx K) (tVar 0) (tVar 1))) tNext) (tRet (tC (.int 0))))

abbrev N_law_mixed : List Str := ["_law_number"]
def t_law_mixed (K : PySem.W.Frag) : TS :=
  (tRet (tOp rMod (tOp (rAdd K) (tOp rMul (tVar 0) (tC (.int 48271))) (tC (.int 7919))) (tC (.int 2147483647))))

abbrev N_law_name_by : List Str := ["_law_cell", "_law_found", "_law_number", "_law_k"]
def t_law_name_by (K : PySem.W.Frag) : TS :=
  (tSeq (tAsg (tOp (rIx K) (tC (.str "abcdefghijklmnopqrstuvwxyz")) (tOp rMod (tOp rDiv (tVar 0) (tC (.int 8))) (tC (.int 26)))) (gName 1)) (tSeq (tAsg (tVar 0) (gName 2)) (tSeq (tFor (iRng1 (tCons (tOp rMod (tVar 0) (tC (.int 8))) tNil)) (gName 3) (tSeq (tAsg (tF (sp_law_mixed K) (tCons (tVar 2) tNil)) (gName 2)) (tAsg (tOp (rAdd K) (tVar 1) (tOp (rIx K) (tC (.str "abcdefghijklmnopqrstuvwxyz0123456789")) (tOp rMod (tVar 2) (tC (.int 36))))) (gName 1)))) (tSeq (tIfS (tTest (tOp (rIn2 K false) (tVar 1) (tLst (tCons (tC (.str "set")) (tCons (tC (.str "tell")) (tCons (tC (.str "skip")) (tCons (tC (.str "if")) (tCons (tC (.str "else")) (tCons (tC (.str "while")) (tCons (tC (.str "end")) tNil)))))))))) (tRet (tOp (rAdd K) (tVar 1) (tC (.str "0")))) tNext) (tRet (tVar 1))))))

abbrev N_law_twin : List Str := ["_law_name", "_law_cell", "_law_some", "_law_at", "_law_step", "_law_found"]
def t_law_twin (K : PySem.W.Frag) : TS :=
  (tSeq (tAsg (tC (.str "abcdefghijklmnopqrstuvwxyz")) (gName 2)) (tSeq (tAsg (tOp rMod (tVar 1) (tCB (rLenA K) (tCons (tVar 0) tNil))) (gName 3)) (tSeq (tIfS (tTest (tOp rGt (tVar 3) (tC (.int 0)))) (tAsg (tOp (rAdd K) (tVar 2) (tC (.str "0123456789"))) (gName 2)) tNext) (tSeq (tAsg (tOp (rAdd K) (tOp (rAdd K) (tBM K "str" rFind (tVar 2) (tCons (tOp (rIx K) (tVar 0) (tVar 3)) tNil)) (tC (.int 1))) (tOp rMod (tOp rDiv (tVar 1) (tC (.int 8))) (tOp rSub (tCB (rLenA K) (tCons (tVar 2) tNil)) (tC (.int 1))))) (gName 4)) (tSeq (tAsg (tOp (rAdd K) (tOp (rAdd K) (tSl (rSl K) (tVar 0) tNoPart (tPart (tVar 3))) (tOp (rIx K) (tVar 2) (tOp rMod (tVar 4) (tCB (rLenA K) (tCons (tVar 2) tNil))))) (tSl (rSl K) (tVar 0) (tPart (tOp (rAdd K) (tVar 3) (tC (.int 1)))) tNoPart)) (gName 5)) (tSeq (tIfS (tTest (tOp (rIn2 K false) (tVar 5) (tLst (tCons (tC (.str "set")) (tCons (tC (.str "tell")) (tCons (tC (.str "skip")) (tCons (tC (.str "if")) (tCons (tC (.str "else")) (tCons (tC (.str "while")) (tCons (tC (.str "end")) tNil)))))))))) (tRet (tOp (rAdd K) (tVar 5) (tC (.str "0")))) tNext) (tRet (tVar 5))))))))

abbrev N_law_names : List Str := ["_law_one", "_law_other", "_law_names_here", "_law_k", "_law_name"]
def t_law_names (K : PySem.W.Frag) : TS :=
  (tSeq (tAsg (tLst tNil) (gName 2)) (tSeq (tFor (iRng1 (tCons (tC (.int 10)) tNil)) (gName 3) (tSeq (tAsg (tF (sp_law_mixed K) (tCons (tVar 0) tNil)) (gName 0)) (tSeq (tAsg (tF (sp_law_name_by K) (tCons (tOp rDiv (tVar 0) (tC (.int 5))) tNil)) (gName 4)) (tSeq (tIfS (tAnd (tTest (tOp (rEq2 K) (tOp rMod (tVar 3) (tC (.int 2))) (tC (.int 1)))) (tTest (tOp (rEq2 K) (tOp rMod (tOp rDiv (tVar 1) (tC (.int 4))) (tC (.int 2))) (tC (.int 1))))) (tAsg (tF (sp_law_twin K) (tCons (tOp (rIx K) (tVar 2) (tOp rSub (tVar 3) (tC (.int 1)))) (tCons (tF (sp_law_mixed K) (tCons (tOp (rAdd K) (tVar 1) (tVar 3)) tNil)) tNil))) (gName 4)) tNext) (tSeq (tWhile (tOr (tTest (tOp (rIn2 K false) (tVar 4) (tVar 2))) (tTest (tOp (rIn2 K false) (tVar 4) (tLst (tCons (tC (.str "set")) (tCons (tC (.str "tell")) (tCons (tC (.str "skip")) (tCons (tC (.str "if")) (tCons (tC (.str "else")) (tCons (tC (.str "while")) (tCons (tC (.str "end")) tNil))))))))))) (tSeq (tAsg (tOp (rAdd K) (tSl (rSl K) (tVar 4) tNoPart (tPart (tC (.int 7)))) (tOp (rIx K) (tC (.str "abcdefghijklmnopqrstuvwxyz")) (tOp rMod (tOp (rAdd K) (tOp (rAdd K) (tVar 1) (tCB (rLenA K) (tCons (tVar 4) tNil))) (tVar 3)) (tC (.int 26))))) (gName 4)) (tAsg (tOp (rAdd K) (tVar 1) (tC (.int 5))) (gName 1)))) (tDrop (tBM K "list" rAppend (tVar 2) (tCons (tVar 4) tNil)))))))) (tRet (tVar 2))))

abbrev N_law_end_by : List Str := ["_law_number", "_law_names_here"]
def t_law_end_by (K : PySem.W.Frag) : TS :=
  (tSeq (tIfS (tAnd (tTest (tOp (rNe2 K) (tVar 1) (tLst tNil))) (tTest (tOp rGt (tOp rMod (tVar 0) (tC (.int 3))) (tC (.int 0))))) (tRet (tTup (tCons (tC (.str "name")) (tCons (tOp (rIx K) (tVar 1) (tOp rMod (tOp rDiv (tVar 0) (tC (.int 3))) (tCB (rLenA K) (tCons (tVar 1) tNil)))) tNil)))) tNext) (tSeq (tIfS (tTest (tOp (rEq2 K) (tOp rMod (tOp rDiv (tVar 0) (tC (.int 3))) (tC (.int 4))) (tC (.int 0)))) (tRet (tTup (tCons (tC (.str "number")) (tCons (tOp rMod (tOp rDiv (tVar 0) (tC (.int 12))) (tOp rPow (tC (.int 10)) (tC (.int 6)))) tNil)))) tNext) (tRet (tTup (tCons (tC (.str "number")) (tCons (tOp rMod (tOp rDiv (tVar 0) (tC (.int 12))) (tC (.int 5))) tNil))))))

abbrev N_law_formula_by : List Str := ["_law_number", "_law_names_here", "_law_low", "_law_divide", "_law_left", "_law_sign", "_law_one"]
def t_law_formula_by (K : PySem.W.Frag) (n : Nat) : TS :=
  (tSeq (tAsg (tF (sp_law_mixed K) (tCons (tVar 0) tNil)) (gName 0)) (tSeq (tIfS (tOr (tTest (tOp (rEq2 K) (tVar 4) (tC (.int 1)))) (tTest (tOp rLt (tOp rMod (tVar 0) (tC (.int 8))) (tC (.int 3))))) (tRet (tF (sp_law_end_by K) (tCons (tOp rDiv (tVar 0) (tC (.int 8))) (tCons (tVar 1) tNil)))) tNext) (tSeq (tAsg (tOp (rIx K) (tLst (tCons (tC (.str "+")) (tCons (tC (.str "-")) (tCons (tC (.str "*")) (tCons (tC (.str "<")) (tCons (tC (.str "=")) (tCons (tC (.str "+")) (tCons (tC (.str "-")) (tCons (tC (.str "<")) (tCons (tC (.str "/")) (tCons (tC (.str "/")) tNil))))))))))) (tOp rMod (tOp rDiv (tVar 0) (tC (.int 8))) (tOp (rIx K) (tLst (tCons (tC (.int 8)) (tCons (tC (.int 10)) tNil))) (tCB rInt (tCons (tVar 3) tNil))))) (gName 5)) (tSeq (tAsg (tF (sp_law_formula_by K n) (tCons (tOp (rAdd K) (tOp rMul (tVar 0) (tC (.int 3))) (tC (.int 1))) (tCons (tVar 1) (tCons (tVar 2) (tCons (tVar 3) (tCons (tOp rSub (tVar 4) (tC (.int 1))) tNil)))))) (gName 6)) (tSeq (tIfS (tAnd (tTest (tOp (rEq2 K) (tVar 5) (tC (.str "/")))) (tTest (tOp rLt (tOp rMod (tOp rDiv (tVar 0) (tC (.int 80))) (tC (.int 4))) (tC (.int 3))))) (tRet (tTup (tCons (tVar 5) (tCons (tVar 6) (tCons (tTup (tCons (tC (.str "number")) (tCons (tOp (rAdd K) (tC (.int 1)) (tOp rMod (tOp rDiv (tVar 0) (tC (.int 320))) (tC (.int 9)))) tNil))) tNil))))) tNext) (tSeq (tIfS (tTest (tOp (rEq2 K) (tVar 5) (tC (.str "/")))) (tRet (tTup (tCons (tVar 5) (tCons (tVar 6) (tCons (tF (sp_law_formula_by K n) (tCons (tOp (rAdd K) (tOp rMul (tVar 0) (tC (.int 5))) (tC (.int 2))) (tCons (tVar 2) (tCons (tVar 2) (tCons (tVar 3) (tCons (tOp rSub (tVar 4) (tC (.int 1))) tNil)))))) tNil))))) tNext) (tRet (tTup (tCons (tVar 5) (tCons (tVar 6) (tCons (tF (sp_law_formula_by K n) (tCons (tOp (rAdd K) (tOp rMul (tVar 0) (tC (.int 5))) (tC (.int 2))) (tCons (tVar 1) (tCons (tVar 2) (tCons (tVar 3) (tCons (tOp rSub (tVar 4) (tC (.int 1))) tNil)))))) tNil)))))))))))

abbrev N_law_deep_formula : List Str := ["_law_cell", "_law_names_here", "_law_found", "_law_number", "_law_k", "_law_other", "_law_sign"]
def t_law_deep_formula (K : PySem.W.Frag) : TS :=
  (tSeq (tIfS (tTest (tOp (rNe2 K) (tOp rMod (tVar 0) (tC (.int 8))) (tC (.int 1)))) (tRet (tF (sp_law_formula_by K 6) (tCons (tVar 0) (tCons (tVar 1) (tCons (tVar 1) (tCons (tC (.bl true)) (tCons (tOp (rAdd K) (tC (.int 1)) (tOp rMod (tOp rDiv (tVar 0) (tC (.int 8))) (tC (.int 5)))) tNil))))))) tNext) (tSeq (tAsg (tF (sp_law_end_by K) (tCons (tVar 0) (tCons (tVar 1) tNil))) (gName 2)) (tSeq (tAsg (tVar 0) (gName 3)) (tSeq (tFor (iRng1 (tCons (tOp (rAdd K) (tC (.int 1)) (tOp rMod (tOp rDiv (tVar 0) (tC (.int 8))) (tC (.int 11)))) tNil)) (gName 4) (tSeq (tAsg (tF (sp_law_mixed K) (tCons (tVar 3) tNil)) (gName 3)) (tSeq (tAsg (tF (sp_law_end_by K) (tCons (tOp rDiv (tVar 3) (tC (.int 16))) (tCons (tVar 1) tNil))) (gName 5)) (tSeq (tAsg (tOp (rIx K) (tLst (tCons (tC (.str "+")) (tCons (tC (.str "-")) (tCons (tC (.str "*")) (tCons (tC (.str "/")) (tCons (tC (.str "<")) (tCons (tC (.str "=")) tNil))))))) (tOp rMod (tVar 3) (tC (.int 6)))) (gName 6)) (tAsg (tOp (rIx K) (tLst (tCons (tTup (tCons (tVar 6) (tCons (tVar 2) (tCons (tVar 5) tNil)))) (tCons (tTup (tCons (tVar 6) (tCons (tVar 5) (tCons (tVar 2) tNil)))) tNil))) (tOp rMod (tOp rDiv (tVar 3) (tC (.int 6))) (tC (.int 2)))) (gName 2)))))) (tRet (tVar 2))))))

theorem at_map {α : Type} {f : α → V} {xs : List α} {k : Int} (h0 : 0 ≤ k) (h : k < (xs.length : Int)) : ∃ x, x ∈ xs ∧ xs[k.toNat]? = some x ∧ atI (xs.map f) k = some (f x) := by
  obtain ⟨j, rfl⟩ := Int.eq_ofNat_of_zero_le h0
  have hj : j < xs.length := by omega
  refine ⟨xs[j], List.getElem_mem hj, by rw [Int.toNat_natCast, List.getElem?_eq_getElem hj], atI_nat ?_⟩
  rw [List.getElem?_map, List.getElem?_eq_getElem hj]
  rfl
theorem mod_in (a : Int) {m : Int} (h : 0 < m) : 0 ≤ a % m ∧ a % m < m := ⟨Int.emod_nonneg a (by omega), Int.emod_lt_of_pos a h⟩
theorem same_law (K : PySem.W.Frag) : True := trivial
theorem pure_law_cell_at (K : PySem.W.Frag) (vs : List V) (H : Hp) (Q : VK) (E : XK) (h : sp_law_cell_at K vs H Q E) :
    t_law_cell_at K { nx := fun _ H' => Q .non H', rt := Q } (start N_law_cell_at vs) H := by
  obtain ⟨a, ns, k, rfl, hS, h0, q⟩ := h
  unfold t_law_cell_at
  walk_at "go"
  refine w_two (fun e => ?_) (fun e => ?_)
  · have e := of_decide_eq_true e
    rw [List.length_map] at e
    obtain ⟨x, _, _, hx⟩ := at_map (f := V.int) h0 e
    walk_at "go"
    exact w_ixL hS hx (q x)
  · walk_at "go"
    exact q 0
theorem pure_law_mixed (K : PySem.W.Frag) (vs : List V) (H : Hp) (Q : VK) (E : XK) (h : sp_law_mixed K vs H Q E) :
    t_law_mixed K { nx := fun _ H' => Q .non H', rt := Q } (start N_law_mixed vs) H := by
  obtain ⟨n, rfl, q⟩ := h
  unfold t_law_mixed
  walk_at "go"
  refine w_mulI (.inr ⟨by decide, by decide⟩) ?_
  walk_at "go"
  have m := mod_in (n * 48271 + 7919) (show (0 : Int) < 2147483647 by decide)
  exact q _ m.1 m.2
theorem len_le {x : Str} {n : Nat} (h : (cs x).length ≤ n) (hn : n ≤ 16000000) : x.length ≤ sizeLine := sz (by rw [cs_len]; omega)
theorem pure_law_name_by (K : PySem.W.Frag) (vs : List V) (H : Hp) (Q : VK) (E : XK) (h : sp_law_name_by K vs H Q E) :
    t_law_name_by K { nx := fun _ H' => Q .non H', rt := Q } (start N_law_name_by vs) H := by
  obtain ⟨n, rfl, q⟩ := h
  unfold t_law_name_by
  have m26 := mod_in (n / 8) (show (0 : Int) < 26 by decide)
  have m8 := mod_in n (show (0 : Int) < 8 by decide)
  walk_at "go"
  refine w_ixS (sz (by decide +kernel)) (az_at m26.1 m26.2) ?_
  walk_at "go"
  refine ⟨_, rfl, by omega, by omega, for_range (lo := 0) (n := (n % 8).toNat) (fun i σ H' => H' = H ∧ ∃ (x : Str) (m : Int) (v : Option V), σ = [some (.int n), some (.str x), some (.int m), v] ∧ Nw x (i + 1))
    ⟨rfl, _, _, _, rfl, Nw.one ⟨by omega, by omega⟩⟩ ?_ ?_⟩
  · rintro i σ H' hi ⟨rfl, x, m, v, rfl, hx⟩
    show tSeq _ _ _ _ _
    walk_at "go"
    refine ⟨_, rfl, fun r r0 r1 => ?_⟩
    have m36 := mod_in r (show (0 : Int) < 36 by decide)
    obtain ⟨c, hc, sc⟩ := az9_at m36.1 m36.2
    walk_at "go"
    refine w_ixS (sz (by decide +kernel)) hc ?_
    refine w_addT (sz (by have := hx.most; rw [cs_len, cs_len, cs_one, List.length_singleton]; omega)) ?_
    exact ⟨rfl, _, _, _, rfl, hx.snoc sc⟩
  · rintro σ H' ⟨rfl, x, m, v, rfl, hx⟩
    have hx8 : Nw x 8 := ⟨hx.pos, by have := hx.most; omega, hx.hd, hx.all⟩
    walk_at "go"
    walk_at "new"
    refine w_inTxt (xs := words) (SqL.of upd_same) ?_
    walk_at "go"
    refine w_two (fun e => ?_) (fun e => ?_)
    · walk_at "go"
      refine w_addT (sz (by have := hx8.most; have : (cs ("0" : Str)).length = 1 := by decide +kernel
                            rw [cs_len, cs_len]; omega)) ?_
      exact q _ _ (hx.zero (of_decide_eq_true e)) (by walk_at "sm")
    · walk_at "go"
      exact q _ _ (hx8.nm (of_decide_eq_false e)) (by walk_at "sm")
theorem sgn_of_az {i : Int} (h0 : 0 ≤ i) (h : i < 26) : ∃ c, atI (cs az) i = some c ∧ IsSgn c ∧ IsLet c := ⟨_, az_at h0 h, .inl ⟨by omega, by omega⟩, ⟨by omega, by omega⟩⟩
theorem pure_law_twin (K : PySem.W.Frag) (vs : List V) (H : Hp) (Q : VK) (E : XK) (h : sp_law_twin K vs H Q E) :
    t_law_twin K { nx := fun _ H' => Q .non H', rt := Q } (start N_law_twin vs) H := by
  obtain ⟨x, n, rfl, hx, q⟩ := h
  unfold t_law_twin
  have l8 := hx.most
  have l1 := hx.pos
  have lx : x.length = (cs x).length := cs_len x
  walk_at "go"
  have ma := mod_in n (show (0 : Int) < ((x.length : Nat) : Int) by omega)
  generalize hat : n % ((x.length : Nat) : Int) = a at ma ⊢
  have key : ∀ (z : Str) (m : Int), (z = az ∧ m = 26) ∨ (z = az ++ n09 ∧ m = 36 ∧ 0 < a) → ∀ H1, H1 = H → ((z.length : Nat) : Int) = m ∧ z.length ≤ sizeLine ∧ ∀ i : Int, 0 ≤ i → i < m → ∃ c, atI (cs z) i = some c ∧ IsSgn c ∧ (a = 0 → IsLet c) := by
    rintro z m (⟨rfl, rfl⟩ | ⟨rfl, rfl, hp⟩) H1 _
    · refine ⟨by rw [cs_len, az_cs] <;> rfl, sz (by decide +kernel), fun i h0 h1 => ?_⟩
      obtain ⟨c, h2, h3, h4⟩ := sgn_of_az h0 h1
      exact ⟨c, h2, h3, fun _ => h4⟩
    · rw [← az9_eq]
      refine ⟨by rw [cs_len, az9_cs]; simp, sz (by decide +kernel), fun i h0 h1 => ?_⟩
      obtain ⟨c, h2, h3⟩ := az9_at h0 h1
      exact ⟨c, h2, h3, fun z => by omega⟩
  have obt : ∃ c, atI (cs x) a = some c := by
    obtain ⟨j, rfl⟩ := Int.eq_ofNat_of_zero_le ma.1
    have hj : j < (cs x).length := by omega
    exact ⟨_, atI_nat (List.getElem?_eq_getElem hj)⟩
  obtain ⟨c0, hc0⟩ := obt
  have rest : ∀ (z : Str) (m : Int), (z = az ∧ m = 26) ∨ (z = az ++ n09 ∧ m = 36 ∧ 0 < a) →
      (tSeq (tAsg (tOp (rAdd K) (tOp (rAdd K) (tBM K "str" rFind (tVar 2) (tCons (tOp (rIx K) (tVar 0) (tVar 3)) tNil)) (tC (.int 1))) (tOp rMod (tOp rDiv (tVar 1) (tC (.int 8))) (tOp rSub (tCB (rLenA K) (tCons (tVar 2) tNil)) (tC (.int 1))))) (gName 4)) (tSeq (tAsg (tOp (rAdd K) (tOp (rAdd K) (tSl (rSl K) (tVar 0) tNoPart (tPart (tVar 3))) (tOp (rIx K) (tVar 2) (tOp rMod (tVar 4) (tCB (rLenA K) (tCons (tVar 2) tNil))))) (tSl (rSl K) (tVar 0) (tPart (tOp (rAdd K) (tVar 3) (tC (.int 1)))) tNoPart)) (gName 5)) (tSeq (tIfS (tTest (tOp (rIn2 K false) (tVar 5) (tLst (tCons (tC (.str "set")) (tCons (tC (.str "tell")) (tCons (tC (.str "skip")) (tCons (tC (.str "if")) (tCons (tC (.str "else")) (tCons (tC (.str "while")) (tCons (tC (.str "end")) tNil)))))))))) (tRet (tOp (rAdd K) (tVar 5) (tC (.str "0")))) tNext) (tRet (tVar 5)))))
        { nx := fun _ H' => Q .non H', rt := Q } [some (.str x), some (.int n), some (.str z), some (.int a), none, none] H := by
    intro z m hz
    obtain ⟨k1, k2, k3⟩ := key z m hz H rfl
    have mp : 0 < m := by rcases hz with ⟨_, rfl⟩ | ⟨_, rfl, _⟩ <;> decide
    have m1 : 1 < m := by rcases hz with ⟨_, rfl⟩ | ⟨_, rfl, _⟩ <;> decide
    walk_at "go"
    refine w_ixS (len_le l8 (by decide)) hc0 ?_
    walk_at "go"
    rw [k1]
    walk_at "go"
    generalize hst : (Txt.find z ⟨#[c0]⟩ + 1 + n / 8 % (m - 1)) % m = st
    have ms := mod_in (Txt.find z ⟨#[c0]⟩ + 1 + n / 8 % (m - 1)) mp
    rw [hst] at ms
    obtain ⟨c, hc, sc, lc⟩ := k3 st ms.1 ms.2
    refine w_ixS k2 hc ?_
    obtain ⟨j, hj⟩ := Int.eq_ofNat_of_zero_le ma.1
    have hjl : j < (cs x).length := by omega
    have sw := Nw.swap (c := c) hx.nw' hjl sc (fun z => lc (by omega))
    have e0 : (cs (Txt.slice x none (some a))).length ≤ 8 := by rw [cs_slTo ma.1, List.length_take]; omega
    have e1 : (cs (Txt.slice x (some (a + 1)) none)).length ≤ 8 := by rw [cs_slFrom (by omega), List.length_drop]; omega
    refine w_addT (sz (by rw [cs_len, cs_len, cs_one, List.length_singleton]; omega)) ?_
    walk_at "go"
    subst hj
    refine w_addT (sz (by rw [cs_len, cs_len, cs_app, List.length_append, cs_one, List.length_singleton]; omega)) ?_
    walk_at "go"
    walk_at "new"
    refine w_inTxt (xs := words) (SqL.of upd_same) ?_
    walk_at "go"
    refine w_two (fun e => ?_) (fun e => ?_)
    · walk_at "go"
      refine w_addT (sz (by have := sw.most; have : (cs ("0" : Str)).length = 1 := by decide +kernel
                            rw [cs_len, cs_len]; omega)) ?_
      exact q _ _ (sw.zero (of_decide_eq_true e)) (by walk_at "sm")
    · walk_at "go"
      exact q _ _ (sw.nm (of_decide_eq_false e)) (by walk_at "sm")
  refine w_two (fun e => ?_) (fun e => ?_)
  · have e := of_decide_eq_true e
    walk_at "go"
    refine w_addT (sz (by decide +kernel)) ?_
    exact rest _ 36 (.inr ⟨rfl, rfl, e⟩)
  · refine w_next ?_
    exact rest az 26 (.inl ⟨rfl, rfl⟩)
abbrev tNmW (K : PySem.W.Frag) : TS := (tWhile (tOr (tTest (tOp (rIn2 K false) (tVar 4) (tVar 2))) (tTest (tOp (rIn2 K false) (tVar 4) (tLst (tCons (tC (.str "set")) (tCons (tC (.str "tell")) (tCons (tC (.str "skip")) (tCons (tC (.str "if")) (tCons (tC (.str "else")) (tCons (tC (.str "while")) (tCons (tC (.str "end")) tNil))))))))))) (tSeq (tAsg (tOp (rAdd K) (tSl (rSl K) (tVar 4) tNoPart (tPart (tC (.int 7)))) (tOp (rIx K) (tC (.str "abcdefghijklmnopqrstuvwxyz")) (tOp rMod (tOp (rAdd K) (tOp (rAdd K) (tVar 1) (tCB (rLenA K) (tCons (tVar 4) tNil))) (tVar 3)) (tC (.int 26))))) (gName 4)) (tAsg (tOp (rAdd K) (tVar 1) (tC (.int 5))) (gName 1))))
abbrev tNmB (K : PySem.W.Frag) : TS := (tSeq (tAsg (tOp (rAdd K) (tSl (rSl K) (tVar 4) tNoPart (tPart (tC (.int 7)))) (tOp (rIx K) (tC (.str "abcdefghijklmnopqrstuvwxyz")) (tOp rMod (tOp (rAdd K) (tOp (rAdd K) (tVar 1) (tCB (rLenA K) (tCons (tVar 4) tNil))) (tVar 3)) (tC (.int 26))))) (gName 4)) (tAsg (tOp (rAdd K) (tVar 1) (tC (.int 5))) (gName 1)))
abbrev tNmA (K : PySem.W.Frag) : TS := (tDrop (tBM K "list" rAppend (tVar 2) (tCons (tVar 4) tNil)))
def PN (H : Hp) (p : Addr) (i : Nat) : L2.St → Hp → Prop := fun σ H' => Same H H' ∧ ∃ (a b : Int) (ns : List Str) (v w : Option V), σ = [some (.int a), some (.int b), some (.ref p), v, w] ∧ ns.length = i ∧ ns.Nodup ∧ (∀ x ∈ ns, Nm x) ∧ H' p = some (.lst (ns.map V.str))
abbrev DN (H : Hp) (Q : VK) (p : Addr) (i : Nat) : Ends := ⟨PN H p (i + 1), Q, tRet (tVar 2) { nx := fun _ H' => Q .non H', rt := Q }, PN H p (i + 1)⟩
theorem pure_law_names (K : PySem.W.Frag) (vs : List V) (H : Hp) (Q : VK) (E : XK) (h : sp_law_names K vs H Q E) :
    t_law_names K { nx := fun _ H' => Q .non H', rt := Q } (start N_law_names vs) H := by
  obtain ⟨n, m, rfl, q⟩ := h
  unfold t_law_names
  walk_at "go"
  refine w_new (by decide) (fun p hp => ?_)
  walk_at "go"
  refine ⟨_, rfl, by decide, by decide, for_range (lo := 0) (n := 10) (PN H p)
    ⟨by walk_at "sm", _, _, [], _, _, rfl, rfl, List.nodup_nil, (fun x hx => nomatch hx), upd_same⟩ ?_ ?_⟩
  · rintro i σ H1 hi ⟨e1, a, b, ns, v, w, rfl, hl, hd, hN, hL⟩
    show tSeq _ _ _ _ _
    walk_at "go"
    refine ⟨_, rfl, fun r _ _ => ?_⟩
    walk_at "go"
    refine ⟨_, rfl, fun x H2 hx e2 => ?_⟩
    have hL2 := e2 _ _ hL
    walk_at "go"
    -- the twin or not
    have two : ∀ (x : Str) (H2 : Hp), Nm x → Same H1 H2 → tSeq (tNmW K) (tNmA K) (DN H Q p i) [some (.int r), some (.int b), some (.ref p), some (.int (0 + (i : Int))), some (.str x)] H2 := by
      intro x H2 hx e2
      obtain ⟨m0, hm0⟩ := cand_ends x b (0 + (i : Int)) hx.most (ns ++ words) (by rw [List.length_append]; have : words.length = 7 := rfl; omega)
      walk_at "go"
      refine w_while' (fun m σ' H' => Same H1 H' ∧ ∃ (o : Int) (y : Str), σ' = [some (.int r), some (.int o), some (.ref p), some (.int (0 + (i : Int))), some (.str y)] ∧ Nw y 8 ∧ cand y o (0 + (i : Int)) m ∉ ns ++ words) m0 ⟨e2, _, _, rfl, hx.nw', hm0⟩ ?_
      rintro m σ' H' ⟨e3, o, y, rfl, hy, hm⟩
      have hL3 := e3 _ _ hL
      have body : ∀ H4, Same H1 H4 → y ∈ ns ++ words → ∃ N : L2.St → Hp → Prop, (∀ σ2 H2, N σ2 H2 → ∃ m', m' < m ∧ Same H1 H2 ∧ ∃ (o : Int) (y : Str), σ2 = [some (.int r), some (.int o), some (.ref p), some (.int (0 + (i : Int))), some (.str y)] ∧ Nw y 8 ∧ cand y o (0 + (i : Int)) m' ∉ ns ++ words) ∧
          tNmB K ⟨N, Q, tNmA K (DN H Q p i), N⟩
            [some (.int r), some (.int o), some (.ref p), some (.int (0 + (i : Int))), some (.str y)] H4 := by
        intro H4 e4 hin
        cases m with
        | zero => exact absurd hin hm
        | succ m =>
          refine ⟨_, fun σ2 H2 h => h, ?_⟩
          have m26 := mod_in (o + ((y.length : Nat) : Int) + (0 + (i : Int))) (show (0 : Int) < 26 by decide)
          have hy8 := hy.most
          walk_at "go"
          refine w_ixS (sz (by decide +kernel)) (az_at m26.1 m26.2) ?_
          have e0 : (cs (Txt.slice y none (some 7))).length ≤ 8 := by rw [cs_slTo (by decide), List.length_take]; omega
          refine w_addT (sz (by rw [cs_len, cs_len, cs_one, List.length_singleton]; omega)) ?_
          walk_at "go"
          exact ⟨m, Nat.lt_succ_self _, e4, _, _, rfl, hy.cut ⟨by omega, by omega⟩, by rw [cand_succ] at hm; exact hm⟩
      walk_at "go"
      refine w_inTxt (SqL.of hL3) ?_
      walk_at "go"
      refine w_two (fun e => ?_) (fun e => ?_)
      · walk_at "go"
        exact body H' e3 (List.mem_append_left _ (of_decide_eq_true e))
      · have n1 := of_decide_eq_false e
        walk_at "go"
        refine w_new (by decide) (fun r2 hr2 => ?_)
        refine w_inTxt (xs := words) (SqL.of upd_same) ?_
        walk_at "go"
        refine w_two (fun e => ?_) (fun e => ?_)
        · exact body _ (by walk_at "sm") (List.mem_append_right _ (of_decide_eq_true e))
        · have n2 := of_decide_eq_false e
          have nm := hy.nm n2
          have ne : p ≠ r2 := ne_of_none hL3 hr2
          walk_at "go"
          refine w_app (xs := ns.map V.str) (by rw [upd_ne ne]; exact hL3) (Nat.lt_of_le_of_lt (by rw [List.length_map]; omega : _ ≤ 1000) (by decide)) ?_
          refine ⟨same_mut (e1.trans (e3.trans (same_new hr2))) hp, r, o, ns ++ [y], _, _, rfl, by rw [List.length_append, hl] <;> rfl, ?_, ?_, ?_⟩
          · rw [List.nodup_append]
            exact ⟨hd, (List.nodup_cons.mpr ⟨List.not_mem_nil, List.nodup_nil⟩), fun u hu w hw => by rw [List.mem_singleton.mp hw]; exact fun e => n1 (e ▸ hu)⟩
          · intro u hu
            rcases List.mem_append.mp hu with hu | hu
            · exact hN u hu
            · rw [List.mem_singleton.mp hu]; exact nm
          · rw [upd_same, List.map_append] <;> rfl
    refine w_two (fun e => ?_) (fun e => ?_)
    · walk_at "go"
      refine w_two (fun e' => ?_) (fun e' => ?_)
      · have e := of_decide_eq_true e
        have ip : 0 < i := by omega
        obtain ⟨y, ym, _, hy⟩ := at_map (f := V.str) (xs := ns) (k := 0 + (i : Int) - 1) (by omega) (by omega)
        walk_at "go"
        refine w_ixL (SqL.of hL2) hy ?_
        walk_at "go"
        refine ⟨_, rfl, fun r' _ _ => ?_⟩
        refine ⟨_, _, rfl, hN y ym, fun x' H3 hx' e3 => ?_⟩
        exact two x' H3 hx' (e2.trans e3)
      · walk_at "go"
        exact two x H2 hx e2
    · walk_at "go"
      exact two x H2 hx e2
  · rintro σ H1 ⟨e1, a, b, ns, v, w, rfl, hl, hd, hN, hL⟩
    walk_at "go"
    exact q p H1 ns ⟨hl, hd, hN⟩ e1 hp hL
theorem ok_txt {x : Str} (h : Nm x) : PyData.strOk x = true := by
  unfold PyData.strOk
  rw [← Array.all_toList, List.all_eq_true]
  intro c hc
  have := h.all c hc
  unfold IsSgn at this
  exact decide_eq_true (by omega)
theorem shaped_txts {xs : List Str} (h : ∀ x ∈ xs, PyData.strOk x = true) : SeqAt.shaped (.list (xs.map PyData.str)) = true := by
  have c : ∀ xs : List Str, (∀ x ∈ xs, PyData.strOk x = true) → PyData.canLayAll0 (xs.map PyData.str) = true := by
    intro xs
    induction xs with
    | nil => intro _; rfl
    | cons x r ih =>
      intro h
      show (PyData.strOk x && PyData.canLayAll0 (r.map PyData.str)) = true
      rw [h x List.mem_cons_self, ih fun y hy => h y (List.mem_cons_of_mem _ hy)] <;> rfl
  have d : ∀ xs : List Str, PyData.depthAll (xs.map PyData.str) = 0 := by
    intro xs
    induction xs with
    | nil => rfl
    | cons x r ih =>
      show max 0 (PyData.depthAll (r.map PyData.str)) = 0
      rw [ih] <;> rfl
  unfold SeqAt.shaped
  rw [Bool.and_eq_true]
  refine ⟨c xs h, decide_eq_true ?_⟩
  show PyData.depthAll (xs.map PyData.str) + 1 ≤ 64
  rw [d] <;> decide
theorem dp_txts {K : PySem.W.Frag} {H : Hp} : ∀ (xs : List Str), DpAll K H (xs.map V.str) (xs.map PyData.str)
  | [] => .nil
  | x :: r => .cons (.str x) (dp_txts r)
theorem eqv_txts : ∀ xs ys : List Str, PyData.eqvAll (xs.map .str) (ys.map .str) = decide (xs = ys)
  | [], [] => rfl
  | [], _ :: _ => rfl
  | _ :: _, [] => rfl
  | x :: r, y :: t => by
    show ((x == y) && PyData.eqvAll (r.map .str) (t.map .str)) = _
    rw [eqv_txts r t]
    by_cases e : x = y
    · subst e; by_cases e2 : r = t <;> simp [e2]
    · simp [e]
theorem w_eqTxt {K : PySem.W.Frag} {H : Hp} {Q : VK} {a b : Addr} {xs ys : List Str} (ha : SqL K H a (xs.map V.str)) (hb : SqL K H b (ys.map V.str)) (ox : ∀ x ∈ xs, PyData.strOk x = true) (oy : ∀ x ∈ ys, PyData.strOk x = true) (q : Q (.bl (decide (xs = ys))) H) : rEq2 K (.ref a) (.ref b) H Q :=
  w_eqD (.lst ha (dp_txts xs)) (.lst hb (dp_txts ys)) (shaped_txts ox) (shaped_txts oy) (by rw [show PyData.eqv (.list (xs.map .str)) (.list (ys.map .str)) = _ from eqv_txts xs ys]; exact q)
theorem w_neTxt {K : PySem.W.Frag} {H : Hp} {Q : VK} {a b : Addr} {xs ys : List Str} (ha : SqL K H a (xs.map V.str)) (hb : SqL K H b (ys.map V.str)) (ox : ∀ x ∈ xs, PyData.strOk x = true) (oy : ∀ x ∈ ys, PyData.strOk x = true) (q : Q (.bl (!decide (xs = ys))) H) : rNe2 K (.ref a) (.ref b) H Q :=
  w_neD (.lst ha (dp_txts xs)) (.lst hb (dp_txts ys)) (shaped_txts ox) (shaped_txts oy) (by rw [show PyData.eqv (.list (xs.map .str)) (.list (ys.map .str)) = _ from eqv_txts xs ys]; exact q)
theorem pure_law_end_by (K : PySem.W.Frag) (vs : List V) (H : Hp) (Q : VK) (E : XK) (h : sp_law_end_by K vs H Q E) :
    t_law_end_by K { nx := fun _ H' => Q .non H', rt := Q } (start N_law_end_by vs) H := by
  obtain ⟨n, a, ns, rfl, hS, hN, hl, q⟩ := h
  unfold t_law_end_by
  have m3 := mod_in n (show (0 : Int) < 3 by decide)
  have num : ∀ (H1 : Hp) (i : Int), Same H H1 → 0 ≤ i → i < 1000000 → [V.str "number", V.int i].length ≤ sizeLine ∧ ∀ p, H1 p = none → Q (.ref p) (upd H1 p (.tup [.str "number", .int i])) := fun H1 i e h0 h1 =>
    ⟨by walk_at "sz", fun p hp => q _ _ (.num i) (.num (SqT.of upd_same)) (e.trans (same_new hp)) ⟨h0, h1⟩ rfl⟩
  have rest : ∀ H1, Same H H1 → (tSeq (tIfS (tTest (tOp (rEq2 K) (tOp rMod (tOp rDiv (tVar 0) (tC (.int 3))) (tC (.int 4))) (tC (.int 0)))) (tRet (tTup (tCons (tC (.str "number")) (tCons (tOp rMod (tOp rDiv (tVar 0) (tC (.int 12))) (tOp rPow (tC (.int 10)) (tC (.int 6)))) tNil)))) tNext) (tRet (tTup (tCons (tC (.str "number")) (tCons (tOp rMod (tOp rDiv (tVar 0) (tC (.int 12))) (tC (.int 5))) tNil)))))
      { nx := fun _ H' => Q .non H', rt := Q } (start N_law_end_by [.int n, .ref a]) H1 := by
    intro H1 e
    walk_at "go"
    refine w_two (fun _ => ?_) (fun _ => ?_)
    · walk_at "go"
      refine w_pow ⟨by decide, by decide, by decide⟩ ?_
      refine w_mod (by decide) ?_
      walk_at "go"
      have m := mod_in (n / 12) (show (0 : Int) < 10 ^ (6 : Int).toNat by decide)
      exact num H1 _ e m.1 (Int.lt_of_lt_of_le m.2 (by decide))
    · walk_at "go"
      have m := mod_in (n / 12) (show (0 : Int) < 5 by decide)
      exact num H1 _ e m.1 (by omega)
  walk_at "go"
  refine w_new (by walk_at "sz") (fun p hp => ?_)
  refine w_neTxt (xs := ns) (ys := []) (same_l (same_new hp) hS) (SqL.of upd_same) (fun x hx => ok_txt (hN x hx)) (fun x hx => nomatch hx) ?_
  walk_at "go"
  refine w_two (fun e1 => ?_) (fun e1 => ?_)
  · walk_at "go"
    refine w_two (fun e2 => ?_) (fun e2 => ?_)
    · have ne : ns ≠ [] := by simpa using e1
      have pos : 0 < ns.length := List.length_pos_iff.mpr ne
      walk_at "go"
      rw [List.length_map]
      refine w_mod (by omega) ?_
      have m := mod_in (n / 3) (show (0 : Int) < ((ns.length : Nat) : Int) by omega)
      obtain ⟨x, xm, _, hx⟩ := at_map (f := V.str) (xs := ns) m.1 m.2
      refine w_ixL (same_l (same_new hp) hS) hx ?_
      walk_at "go"
      exact ⟨by walk_at "sz", fun r hr => q _ _ (.nam x) (.nam (SqT.of upd_same)) ((same_new hp).trans (same_new hr)) xm rfl⟩
    · walk_at "gn"
      exact rest _ (same_new hp)
  · walk_at "gn"
    exact rest _ (same_new hp)
theorem sg_div (s : Sg) : decide (s.txt = ("/" : Str)) = decide (s = .div) := by cases s <;> decide +kernel
theorem no_law_formula_by {K : PySem.W.Frag} : ∀ vs H Q E, ¬ sp_law_formula_by K 0 vs H Q E := by
  rintro vs H Q E ⟨i, a, b, ns, ms, d, l, _, _, _, _, _, _, _, h1, h2, _⟩
  omega
theorem pure_law_formula_by (K : PySem.W.Frag) (n : Nat) (vs : List V) (H : Hp) (Q : VK) (E : XK) (h : sp_law_formula_by K (n + 1) vs H Q E) :
    t_law_formula_by K n { nx := fun _ H' => Q .non H', rt := Q } (start N_law_formula_by vs) H := by
  obtain ⟨i, a, b, ns, ms, d, l, rfl, hS, hT, hN, hM, hl, hm, h1, h2, q⟩ := h
  unfold t_law_formula_by
  walk_at "go"
  refine ⟨_, rfl, fun r r0 r1 => ?_⟩
  have endby : ∀ H1, Same H H1 → sp_law_end_by K [.int (r / 8), .ref a] H1 Q E0 := by
    intro H1 e
    exact ⟨_, _, ns, rfl, same_l e hS, hN, hl, fun v H' f hf e' ho hd => q v H' f hf (e.trans e') (Fm.ok_mono (fun x hx => List.mem_append_left _ hx) ho) (by omega)⟩
  walk_at "go"
  refine w_two (fun e1 => ?_) (fun e1 => ?_)
  · walk_at "go"
    exact endby H (Same.refl H)
  · walk_at "go"
    refine w_two (fun e2 => ?_) (fun e2 => ?_)
    · walk_at "go"
      exact endby H (Same.refl H)
    · have e1 := of_decide_eq_false e1
      walk_at "go"
      refine w_new (by walk_at "sz") (fun p hp => ?_)
      walk_at "go"
      refine w_new (by walk_at "sz") (fun p2 hp2 => ?_)
      walk_at "go"
      have hd2 : atI [V.int 8, V.int 10] (if d then 1 else 0) = some (.int (if d then 10 else 8)) := by cases d <;> rfl
      refine w_ixL (SqL.of upd_same) hd2 ?_
      have m := mod_in (r / 8) (show (0 : Int) < (if d then 10 else 8) by cases d <;> decide)
      refine w_mod (by cases d <;> decide) ?_
      have m10 : r / 8 % (if d then 10 else 8) < 10 := by
        cases d
        · exact Int.lt_trans m.2 (by decide)
        · exact m.2
      generalize hx : r / 8 % (if d then 10 else 8) = x at m m10 ⊢
      have np : p ≠ p2 := ne_of_none upd_same hp2
      obtain ⟨z, zm, _, hz⟩ := at_map (f := fun s : Sg => V.str s.txt) (xs := [.add, .sub, .mul, .lt, .eq, .add, .sub, .lt, .div, .div]) (k := x) m.1 m10
      refine w_ixL (SqL.of ((upd_ne np).trans upd_same)) hz ?_
      have e0 : Same H (upd (upd H p (.lst [.str "+", .str "-", .str "*", .str "<", .str "=", .str "+", .str "-", .str "<", .str "/", .str "/"])) p2 (.lst [.int 8, .int 10])) := (same_new hp).trans (same_new hp2)
      generalize (upd (upd H p (.lst [.str "+", .str "-", .str "*", .str "<", .str "=", .str "+", .str "-", .str "<", .str "/", .str "/"])) p2 (.lst [.int 8, .int 10])) = H0 at e0 ⊢
      walk_at "go"
      refine w_mulI (.inr ⟨by decide, by decide⟩) ?_
      walk_at "go"
      refine ⟨_, a, b, ns, ms, d, _, rfl, same_l e0 hS, same_l e0 hT, hN, hM, hl, hm, by omega, by omega, fun u H1 f hf e3 of df => ?_⟩
      walk_at "go"
      rw [sg_div]
      have last : ∀ (H2 : Hp) (w : V) (g : Fm), Same H1 H2 → FmAt K H2 w g → g.ok (ns ++ ms) → (g.depth : Int) ≤ l - 1 → [V.str z.txt, u, w].length ≤ sizeLine ∧ ∀ p, H2 p = none → Q (.ref p) (upd H2 p (.tup [.str z.txt, u, w])) := fun H2 w g e4 hg og dg =>
        ⟨by walk_at "sz", fun p hp => q _ _ (.op z f g) (.op (SqT.of upd_same) (hf.mono (e4.trans (same_new hp))) (hg.mono (same_new hp))) (((e0.trans e3).trans e4).trans (same_new hp)) ⟨of, og⟩ (by simp only [Fm.depth]; omega)⟩
      have again : ∀ c : Addr, (c = a ∨ c = b) → ∀ i' : Int, sp_law_formula_by K n [.int i', .ref c, .ref b, .bl d, .int (l - 1)] H1 (fun w H2 => [V.str z.txt, u, w].length ≤ sizeLine ∧ ∀ p, H2 p = none → Q (.ref p) (upd H2 p (.tup [.str z.txt, u, w]))) E0 := by
        rintro c (rfl | rfl) i'
        · exact ⟨_, c, b, ns, ms, d, _, rfl, same_l (e0.trans e3) hS, same_l (e0.trans e3) hT, hN, hM, hl, hm, by omega, by omega, fun w H2 g hg e4 og dg => last H2 w g e4 hg og dg⟩
        · exact ⟨_, c, c, ms, ms, d, _, rfl, same_l (e0.trans e3) hT, same_l (e0.trans e3) hT, hM, hM, hm, hm, by omega, by omega, fun w H2 g hg e4 og dg => last H2 w g e4 hg (Fm.ok_mono (fun x hx => List.mem_append_right _ (by simpa using hx)) og) dg⟩
      have tail : (tSeq (tIfS (tTest (tOp (rEq2 K) (tVar 5) (tC (.str "/")))) (tRet (tTup (tCons (tVar 5) (tCons (tVar 6) (tCons (tF (sp_law_formula_by K n) (tCons (tOp (rAdd K) (tOp rMul (tVar 0) (tC (.int 5))) (tC (.int 2))) (tCons (tVar 2) (tCons (tVar 2) (tCons (tVar 3) (tCons (tOp rSub (tVar 4) (tC (.int 1))) tNil)))))) tNil))))) tNext) (tRet (tTup (tCons (tVar 5) (tCons (tVar 6) (tCons (tF (sp_law_formula_by K n) (tCons (tOp (rAdd K) (tOp rMul (tVar 0) (tC (.int 5))) (tC (.int 2))) (tCons (tVar 1) (tCons (tVar 2) (tCons (tVar 3) (tCons (tOp rSub (tVar 4) (tC (.int 1))) tNil)))))) tNil))))))
          { nx := fun _ H' => Q .non H', rt := Q } [some (.int r), some (.ref a), some (.ref b), some (.bl d), some (.int l), some (.str z.txt), some u] H1 := by
        walk_at "go"
        rw [sg_div]
        refine w_two (fun _ => ?_) (fun _ => ?_)
        · walk_at "go"
          refine w_mulI (.inr ⟨by decide, by decide⟩) ?_
          walk_at "go"
          exact again b (.inr rfl) _
        · walk_at "go"
          refine w_mulI (.inr ⟨by decide, by decide⟩) ?_
          walk_at "go"
          exact again a (.inl rfl) _
      refine w_two (fun e4 => ?_) (fun e4 => ?_)
      · walk_at "go"
        refine w_two (fun e5 => ?_) (fun e5 => ?_)
        · walk_at "go"
          refine w_new (by walk_at "sz") (fun p3 hp3 => ?_)
          walk_at "go"
          have m9 := mod_in (r / 320) (show (0 : Int) < 9 by decide)
          exact last _ _ (.num _) (same_new hp3) (.num (SqT.of upd_same)) ⟨by omega, by omega⟩ (by simp only [Fm.depth]; omega)
        · walk_at "gn"
          exact tail
      · walk_at "gn"
        exact tail
theorem pure_law_deep_formula (K : PySem.W.Frag) (vs : List V) (H : Hp) (Q : VK) (E : XK) (h : sp_law_deep_formula K vs H Q E) :
    t_law_deep_formula K { nx := fun _ H' => Q .non H', rt := Q } (start N_law_deep_formula vs) H := by
  obtain ⟨n, a, ns, rfl, hS, hN, hl, q⟩ := h
  unfold t_law_deep_formula
  walk_at "go"
  refine w_two (fun e1 => ?_) (fun e1 => ?_)
  · walk_at "go"
    have m5 := mod_in (n / 8) (show (0 : Int) < 5 by decide)
    refine ⟨_, a, a, ns, ns, true, _, rfl, hS, hS, hN, hN, hl, hl, by omega, by omega, fun v H' f hf e ho hd => q v H' f hf e (Fm.ok_mono (fun x hx => by simpa using hx) ho) (by omega)⟩
  · walk_at "go"
    refine ⟨_, _, ns, rfl, hS, hN, hl, fun v H1 f hf e ho hd => ?_⟩
    walk_at "go"
    have m11 := mod_in (n / 8) (show (0 : Int) < 11 by decide)
    refine ⟨_, rfl, by omega, by omega, for_range (lo := 0) (n := (1 + n / 8 % 11).toNat) (fun i σ H' => Same H H' ∧ ∃ (v : V) (f : Fm) (m : Int) (w1 w2 w3 : Option V), σ = [some (.int n), some (.ref a), some v, some (.int m), w1, w2, w3] ∧ FmAt K H' v f ∧ f.ok ns ∧ f.depth ≤ i + 1)
      ⟨e, v, f, _, _, _, _, rfl, hf, ho, by omega⟩ ?_ ?_⟩
    · rintro i σ H2 hi ⟨e2, v, f, m, w1, w2, w3, rfl, hf, ho, hd⟩
      show tSeq _ _ _ _ _
      walk_at "go"
      refine ⟨_, rfl, fun r r0 r1 => ?_⟩
      walk_at "go"
      refine ⟨_, _, ns, rfl, same_l e2 hS, hN, hl, fun u H3 g hg e3 og dg => ?_⟩
      have hf3 := hf.mono e3
      walk_at "go"
      refine w_new (by walk_at "sz") (fun p hp => ?_)
      walk_at "go"
      have m6 := mod_in r (show (0 : Int) < 6 by decide)
      obtain ⟨z, zm, _, hz⟩ := at_map (f := fun s : Sg => V.str s.txt) (xs := [.add, .sub, .mul, .div, .lt, .eq]) (k := r % 6) m6.1 m6.2
      refine w_ixL (SqL.of upd_same) hz ?_
      walk_at "go"
      refine w_new (by walk_at "sz") (fun p1 hp1 => ?_)
      walk_at "go"
      refine w_new (by walk_at "sz") (fun p2 hp2 => ?_)
      walk_at "go"
      refine w_new (by walk_at "sz") (fun p3 hp3 => ?_)
      walk_at "go"
      have m2 := mod_in (r / 6) (show (0 : Int) < 2 by decide)
      have e5 := (same_new (o := .lst [.ref p1, .ref p2]) hp3)
      have f1 := same_new (o := HO.tup [.str z.txt, v, u]) hp1
      have f2 := same_new (o := HO.tup [.str z.txt, u, v]) hp2
      have e4 := ((e2.trans e3).trans (same_new hp)).trans ((f1.trans f2).trans e5)
      have g0 : ∀ {x : V} {y : Fm}, FmAt K H3 x y → FmAt K _ x y := fun h => h.mono ((same_new hp).trans ((f1.trans f2).trans e5))
      have t1 : FmAt K _ (.ref p1) (.op z f g) := .op (same_t (f2.trans e5) (SqT.of upd_same)) (g0 hf3) (g0 hg)
      have t2 : FmAt K _ (.ref p2) (.op z g f) := .op (same_t e5 (SqT.of upd_same)) (g0 hg) (g0 hf3)
      have hcase : r / 6 % 2 = 0 ∨ r / 6 % 2 = 1 := by omega
      rcases hcase with c | c
      · rw [c]
        refine w_ixL (SqL.of upd_same) (v := .ref p1) rfl ?_
        exact ⟨e4, _, _, _, _, _, _, rfl, t1, ⟨ho, og⟩, by simp only [Fm.depth]; omega⟩
      · rw [c]
        refine w_ixL (SqL.of upd_same) (v := .ref p2) rfl ?_
        exact ⟨e4, _, _, _, _, _, _, rfl, t2, ⟨og, ho⟩, by simp only [Fm.depth]; omega⟩
    · rintro σ H2 ⟨e2, v, f, m, w1, w2, w3, rfl, hf, ho, hd⟩
      walk_at "go"
      exact q v H2 f hf e2 ho (by omega)
/-! ### plain data that is its own equal -/
mutual
theorem eqv_self : ∀ d : PyData, d.canLay0 = true → PyData.eqv d d = true
  | .none, _ => rfl
  | .bool b, _ => by show (b == b) = true; simp
  | .int i, _ => by show (i == i) = true; simp
  | .str x, _ => by show (x == x) = true; simp
  | .list xs, h => eqvAll_self xs h
  | .tuple xs, h => eqvAll_self xs h
  | .dict _, h => nomatch h
theorem eqvAll_self : ∀ xs : List PyData, PyData.canLayAll0 xs = true → PyData.eqvAll xs xs = true
  | [], _ => rfl
  | x :: r, h => by
    have h' := Bool.and_eq_true_iff.mp (show (x.canLay0 && PyData.canLayAll0 r) = true from h)
    show (PyData.eqv x x && PyData.eqvAll r r) = true
    rw [eqv_self x h'.1, eqvAll_self r h'.2] <;> rfl
end
structure Dk (d : PyData) (k : Nat) : Prop where
  lay : d.canLay0 = true
  dep : d.depth ≤ k
theorem Dk.shaped {d : PyData} {k : Nat} (h : Dk d k) (hk : k ≤ 64) : SeqAt.shaped d = true := by
  unfold SeqAt.shaped
  rw [h.lay, decide_eq_true (Nat.le_trans h.dep hk)] <;> rfl
theorem Dk.mono {d : PyData} {k j : Nat} (h : Dk d k) (hk : k ≤ j) : Dk d j := ⟨h.lay, Nat.le_trans h.dep hk⟩
theorem Dk.int {i : Int} {k : Nat} : Dk (.int i) k := ⟨rfl, Nat.zero_le _⟩
theorem Dk.bl {i : Bool} {k : Nat} : Dk (.bool i) k := ⟨rfl, Nat.zero_le _⟩
theorem Dk.non {k : Nat} : Dk .none k := ⟨rfl, Nat.zero_le _⟩
theorem Dk.str {x : Str} {k : Nat} (h : PyData.strOk x = true) : Dk (.str x) k := ⟨h, Nat.zero_le _⟩
theorem dk_all {k : Nat} : ∀ {ds : List PyData}, (∀ d ∈ ds, Dk d k) → PyData.canLayAll0 ds = true ∧ PyData.depthAll ds ≤ k
  | [], _ => ⟨rfl, Nat.zero_le _⟩
  | d :: r, h => by
    have h1 := h d List.mem_cons_self
    have h2 := dk_all fun y hy => h y (List.mem_cons_of_mem d hy)
    constructor
    · show (d.canLay0 && PyData.canLayAll0 r) = true
      rw [h1.lay, h2.1] <;> rfl
    · show max d.depth (PyData.depthAll r) ≤ k
      exact Nat.max_le.mpr ⟨h1.dep, h2.2⟩
theorem Dk.list {ds : List PyData} {k : Nat} (h : ∀ d ∈ ds, Dk d k) : Dk (.list ds) (k + 1) := ⟨(dk_all h).1, Nat.succ_le_succ (dk_all h).2⟩
theorem Dk.tup {ds : List PyData} {k : Nat} (h : ∀ d ∈ ds, Dk d k) : Dk (.tuple ds) (k + 1) := ⟨(dk_all h).1, Nat.succ_le_succ (dk_all h).2⟩
theorem dk_nil {k : Nat} : ∀ d ∈ ([] : List PyData), Dk d k := fun _ h => nomatch h
theorem dk_cons {k : Nat} {x : PyData} {ds : List PyData} (a : Dk x k) (b : ∀ d ∈ ds, Dk d k) : ∀ d ∈ x :: ds, Dk d k := fun d h => (List.mem_cons.mp h).elim (fun e => e ▸ a) (b d)
theorem dk_map {α : Type} {k : Nat} {f : α → PyData} {xs : List α} (h : ∀ x ∈ xs, Dk (f x) k) : ∀ d ∈ xs.map f, Dk d k := fun d hd => by
  obtain ⟨x, hx, e⟩ := List.mem_map.mp hd
  exact e ▸ h x hx
theorem dk_txts {xs : List Str} (h : ∀ x ∈ xs, PyData.strOk x = true) {k : Nat} : Dk (.list (xs.map PyData.str)) (k + 1) := Dk.list (dk_map fun x hx => Dk.str (h x hx))
theorem dp_map {α : Type} {K : PySem.W.Frag} {H : Hp} {f : α → V} {g : α → PyData} : ∀ {xs : List α}, (∀ x ∈ xs, Dp K H (f x) (g x)) → DpAll K H (xs.map f) (xs.map g)
  | [], _ => .nil
  | x :: _, h => .cons (h x List.mem_cons_self) (dp_map fun y hy => h y (List.mem_cons_of_mem x hy))
theorem ok_str {x : Str} (h : ∀ c ∈ x.cps.toList, c < 0x110000) : PyData.strOk x = true := by
  unfold PyData.strOk
  rw [← Array.all_toList, List.all_eq_true]
  exact fun c hc => decide_eq_true (h c hc)
section
variable {K : PySem.W.Frag} {H : Hp} {Q : VK} {x y : V} {d : PyData}
theorem w_eqSelf {k : Nat} (hx : Dp K H x d) (hy : Dp K H y d) (hd : Dk d k) (hk : k ≤ 64) (q : Q (.bl true) H) : rEq2 K x y H Q := w_eqD hx hy (hd.shaped hk) (hd.shaped hk) (by rw [eqv_self d hd.lay]; exact q)
theorem w_neSelf {k : Nat} (hx : Dp K H x d) (hy : Dp K H y d) (hd : Dk d k) (hk : k ≤ 64) (q : Q (.bl false) H) : rNe2 K x y H Q := w_neD hx hy (hd.shaped hk) (hd.shaped hk) (by rw [eqv_self d hd.lay]; exact q)
theorem tyx_list {a : Addr} {xs : List V} (h : H a = some (.lst xs)) : TyX K H (.ref a) (.type "list") := .base (.lst h)
theorem w_isi {t c : String} (h : TyX K H x (.type t)) (e : PySem.W.kitOne K (.type t) (.type c) = some true) (q : Q (.bl true) H) : rIsi2 K [x, .ty c] H Q := .inl ⟨_, _, _, _, _, rfl, .ty _, h, e, q⟩
theorem w_isiNo {t c : String} (h : TyX K H x (.type t)) (e : PySem.W.kitOne K (.type t) (.type c) = some false) (q : Q (.bl false) H) : rIsi2 K [x, .ty c] H Q := .inl ⟨_, _, _, _, _, rfl, .ty _, h, e, q⟩
theorem w_listL {p : Addr} {xs : List V} (h : SqL K H p xs) (q : ∀ l, H l = none → Q (.ref l) (upd H l (.lst xs))) : rList K [.ref p] H Q := .inl ⟨p, xs, rfl, .inl h, q⟩
theorem w_listT {p : Addr} {xs : List V} (h : SqT K H p xs) (q : ∀ l, H l = none → Q (.ref l) (upd H l (.lst xs))) : rList K [.ref p] H Q := .inl ⟨p, xs, rfl, .inr h, q⟩
end
/-! ### sorted and no two alike: one list for one set -/
theorem lt_str_irr (x : Str) : ltCps x.cps.toList x.cps.toList = false := by rw [ltCps_eq]; exact decide_eq_false (List.lt_irrefl _)
theorem rising_all : ∀ {xs : List Str} {p : Str}, risingS p xs = true → (∀ y ∈ xs, ¬ (y.cps.toList < p.cps.toList)) ∧ sortedS xs = true
  | [], _, _ => ⟨(fun _ h => nomatch h), rfl⟩
  | x :: r, p, h => by
    have h' : (!ltCps x.cps.toList p.cps.toList && risingS x r) = true := h
    have h2 := Bool.and_eq_true_iff.mp h'
    have h3 : ¬ (x.cps.toList < p.cps.toList) := by
      have := h2.1
      rw [ltCps_eq] at this
      simpa using this
    have ih := rising_all h2.2
    refine ⟨fun y hy => ?_, h2.2⟩
    rcases List.mem_cons.mp hy with rfl | hy
    · exact h3
    · intro c
      exact ih.1 y hy (Decidable.byContradiction fun n => h3 (List.lt_of_le_of_lt (List.not_lt.mp n) c))
theorem str_ext {x y : Str} (h : x.cps.toList = y.cps.toList) : x = y := by
  cases x with
  | mk a =>
    cases y with
    | mk b => exact congrArg Str.mk (Array.toList_inj.mp h)
theorem sort_one : ∀ {xs ys : List Str}, sortedS xs = true → xs.Nodup → sortedS ys = true → ys.Nodup → (∀ z, z ∈ xs ↔ z ∈ ys) → xs = ys
  | [], [], _, _, _, _, _ => rfl
  | [], y :: t, _, _, _, _, h => absurd ((h y).mpr List.mem_cons_self) List.not_mem_nil
  | x :: r, [], _, _, _, _, h => absurd ((h x).mp List.mem_cons_self) List.not_mem_nil
  | x :: r, y :: t, sx, nx, sy, ny, h => by
    have rx := rising_all (p := x) (xs := r) sx
    have ry := rising_all (p := y) (xs := t) sy
    have hx : ¬ (x.cps.toList < y.cps.toList) := by
      rcases List.mem_cons.mp ((h x).mp List.mem_cons_self) with e | e
      · rw [e]; exact List.lt_irrefl _
      · exact ry.1 x e
    have hy : ¬ (y.cps.toList < x.cps.toList) := by
      rcases List.mem_cons.mp ((h y).mpr List.mem_cons_self) with e | e
      · rw [e]; exact List.lt_irrefl _
      · exact rx.1 y e
    have e : x = y := str_ext (List.le_antisymm (List.not_lt.mp hy) (List.not_lt.mp hx))
    subst e
    obtain ⟨nx1, nx2⟩ := List.nodup_cons.mp nx
    obtain ⟨ny1, ny2⟩ := List.nodup_cons.mp ny
    have : r = t := sort_one rx.2 nx2 ry.2 ny2 fun z => by
      constructor
      · intro hz
        rcases List.mem_cons.mp ((h z).mp (List.mem_cons_of_mem _ hz)) with e | e
        · exact absurd (e ▸ hz) nx1
        · exact e
      · intro hz
        rcases List.mem_cons.mp ((h z).mpr (List.mem_cons_of_mem _ hz)) with e | e
        · exact absurd (e ▸ hz) ny1
        · exact e
    rw [this]
theorem none_of {H H' : Hp} {a : Addr} (e : Same H H') (h : H' a = none) : H a = none := by
  cases c : H a with
  | none => rfl
  | some u => rw [e a u c] at h; exact nomatch h
theorem w_sortSet {K : PySem.W.Frag} {σ : L2.St} {H : Hp} {Q : VK} {ta : TE} (h : ta σ H fun x H1 => ∃ (l : Addr) (xs ns : List Str), x = .ref l ∧ SqL K H1 l (xs.map V.str) ∧ (∀ y ∈ xs, y ∈ ns) ∧ ns.length ≤ 4000 ∧
  ∀ (ys : List Str) (p : Addr) (H2 : Hp), sortedS ys = true → ys.Nodup → (∀ y, y ∈ ys ↔ y ∈ xs) → Same H1 H2 → H1 p = none → H2 p = some (.lst (ys.map V.str)) → Q (.ref p) H2) : tSortSet K ta σ H Q := h
theorem w_lc {wi : TI} {g : TG} {tt : TT} {te : TE} {vs : List Nat} {σ : L2.St} {H : Hp} {Q : VK} (h : wi σ H fun J H1 => ∀ D, H1 D = none → ∃ W : Nat → Nat → Hp → Prop, (∃ m, W 0 m (upd H1 D (.lst []))) ∧ ∀ i m H, W i m H →
  (J.stop i H ∧ Q (.ref D) H) ∨ (J.go i H ∧ ∃ Nx : Hp → Prop, (∀ H', Nx H' → ∃ m', m' < m ∧ W (i + 1) m' H') ∧ ∀ x H', J.yld i H x H' → g x (wipe σ vs) H' fun σ2 H2 => wipe σ2 vs = wipe σ vs ∧ tt σ2 H2 fun b H3 =>
    if b = true then te σ2 H3 fun y H4 => ∃ acc, H4 D = some (.lst acc) ∧ acc.length < sizeLine ∧ Nx (upd H4 D (.lst (acc ++ [y]))) else Nx H3)) : tLc wi g tt te vs σ H Q := h
/-! ### one list from another, turn by turn -/
def SameX (D : Addr) (H H' : Hp) : Prop := ∀ a u, a ≠ D → H a = some u → H' a = some u
theorem lc_each {K : PySem.W.Frag} {a : Addr} {xs : List V} {g : TG} {tt : TT} {te : TE} {vs : List Nat} {σ : L2.St} {H0 : Hp} {D : Addr} {Qd : Hp → Prop} (R : Nat → V → Hp → Prop) (hq : SqL K H0 a xs) (hl : xs.length ≤ 16000000) (hD : H0 D = none)
    (mono : ∀ i y H H', R i y H → SameX D H H' → R i y H')
    (hs : ∀ i x H (Nx : Hp → Prop), xs[i]? = some x → Same H0 H → (∃ ys, H D = some (.lst ys)) → (∀ y H4, Same H H4 → R i y H4 → ∃ acc, H4 D = some (.lst acc) ∧ acc.length < sizeLine ∧ Nx (upd H4 D (.lst (acc ++ [y])))) →
      g x (wipe σ vs) H fun σ2 H2 => wipe σ2 vs = wipe σ vs ∧ tt σ2 H2 fun b H3 => if b = true then te σ2 H3 fun y H4 => ∃ acc, H4 D = some (.lst acc) ∧ acc.length < sizeLine ∧ Nx (upd H4 D (.lst (acc ++ [y]))) else Nx H3)
    (hd : ∀ H ys, Same H0 H → H D = some (.lst ys) → ys.length = xs.length → (∀ (i : Nat) y, ys[i]? = some y → R i y H) → Qd H) :
    ∃ W : Nat → Nat → Hp → Prop, (∃ m, W 0 m (upd H0 D (.lst []))) ∧ ∀ i m H, W i m H →
      ((Itl K a).stop i H ∧ Qd H) ∨ ((Itl K a).go i H ∧ ∃ Nx : Hp → Prop, (∀ H', Nx H' → ∃ m', m' < m ∧ W (i + 1) m' H') ∧ ∀ x H', (Itl K a).yld i H x H' → g x (wipe σ vs) H' fun σ2 H2 => wipe σ2 vs = wipe σ vs ∧ tt σ2 H2 fun b H3 =>
        if b = true then te σ2 H3 fun y H4 => ∃ acc, H4 D = some (.lst acc) ∧ acc.length < sizeLine ∧ Nx (upd H4 D (.lst (acc ++ [y]))) else Nx H3) := by
  refine lc_list (xs := xs) (fun i H => Same H0 H ∧ ∃ ys, H D = some (.lst ys) ∧ ys.length = i ∧ ∀ (j : Nat) y, ys[j]? = some y → R j y H) ⟨same_new hD, [], upd_same, rfl, fun j y h => by simp at h⟩ (fun i H _ h => same_l h.1 hq) ?_ ?_
  · rintro i x H hx ⟨e, ys, hy, hl2, hR⟩
    refine hs i x H _ hx e ⟨ys, hy⟩ fun y H4 e4 hr => ?_
    have hi : i < xs.length := (List.getElem?_eq_some_iff.mp hx).1
    have sx : SameX D H4 (upd H4 D (.lst (ys ++ [y]))) := fun b u nb hb => by rw [upd_ne nb]; exact hb
    have sx0 : SameX D H (upd H4 D (.lst (ys ++ [y]))) := fun b u nb hb => by rw [upd_ne nb]; exact e4 b u hb
    refine ⟨ys, e4 D _ hy, Nat.lt_of_le_of_lt (by omega : ys.length ≤ 16000000) (by decide), same_mut (e.trans e4) hD, ys ++ [y], upd_same, by rw [List.length_append, hl2] <;> rfl, fun j z hz => ?_⟩
    rcases Nat.lt_or_ge j ys.length with lt | ge
    · rw [List.getElem?_append_left lt] at hz
      exact mono j z _ _ (hR j z hz) sx0
    · rw [List.getElem?_append_right ge] at hz
      have hj : j - ys.length = 0 := by
        have := (List.getElem?_eq_some_iff.mp hz).1
        simp only [List.length_singleton] at this
        omega
      rw [hj] at hz
      have hz' : y = z := Option.some.inj hz
      have ji : j = i := by omega
      rw [← hz', ji]
      exact mono i y _ _ hr sx
  · rintro H ⟨e, ys, hy, hl2, hR⟩
    exact hd H ys e hy hl2 hR
theorem list_one {α : Type} : ∀ {l : List α}, l.length = 1 → ∃ a, l = [a]
  | [a], _ => ⟨a, rfl⟩
theorem list_two {α : Type} : ∀ {l : List α}, l.length = 2 → ∃ a b, l = [a, b]
  | [a, b], _ => ⟨a, b, rfl⟩
theorem list_three {α : Type} : ∀ {l : List α}, l.length = 3 → ∃ a b c, l = [a, b, c]
  | [a, b, c], _ => ⟨a, b, c, rfl⟩
theorem for_enum {K : PySem.W.Frag} {a : Addr} {xs : List V} {g : TG} {tb : TS} {D : Ends} {σ : L2.St} {H : Hp} (Pv : Nat → L2.St → Hp → Prop) (h0 : Pv 0 σ H) (hl : ∀ i σ H, i ≤ xs.length → Pv i σ H → SqL K H a xs)
    (hs : ∀ i x σ H T, xs[i]? = some x → H T = none → Pv i σ H → g (.ref T) σ (upd H T (.tup [.int (i : Nat), x])) fun σ2 H2 => tb { D with nx := Pv (i + 1), ct := Pv (i + 1), bk := D.nx } σ2 H2) (hd : ∀ σ H, Pv xs.length σ H → D.nx σ H) :
    ∃ W : Nat → Nat → L2.St → Hp → Prop, (∃ m, W 0 m σ H) ∧ ∀ i m σ H, W i m σ H →
      ((Ite K a).stop i H ∧ D.nx σ H) ∨ ((Ite K a).go i H ∧ ∃ N : L2.St → Hp → Prop, (∀ σ' H', N σ' H' → ∃ m', m' < m ∧ W (i + 1) m' σ' H') ∧ ∀ x H', (Ite K a).yld i H x H' → g x σ H' fun σ2 H2 => tb { D with nx := N, ct := N, bk := D.nx } σ2 H2) := by
  refine ⟨fun i m σ H => m = xs.length - i ∧ i ≤ xs.length ∧ Pv i σ H, ⟨xs.length, by simp, Nat.zero_le _, h0⟩, ?_⟩
  rintro i m σ H ⟨rfl, hi, p⟩
  have q := hl i σ H hi p
  by_cases hlt : i < xs.length
  · refine .inr ⟨⟨xs, xs[i], q, by simp [hlt]⟩, Pv (i + 1), fun σ' H' p' => ⟨xs.length - (i + 1), by omega, rfl, hlt, p'⟩, fun x H' y => ?_⟩
    obtain ⟨T, z, rfl, hT, rfl, hz⟩ := y
    exact hs i z σ _ T (hz xs q) hT p
  · have e : i = xs.length := by omega
    subst e
    exact .inl ⟨⟨xs, q, Nat.le_refl _⟩, hd σ H p⟩
/-! ### the formulas' own defs -/
theorem Fm.ok_names {ns : List Str} : ∀ {f : Fm}, f.ok ns → ∀ x ∈ f.names, x ∈ ns
  | .num _, _, x, hx => nomatch hx
  | .nam y, q, x, hx => by rw [List.mem_singleton.mp hx]; exact q
  | .op _ a b, q, x, hx => (List.mem_append.mp hx).elim (Fm.ok_names q.1 x) (Fm.ok_names q.2 x)
def Fm.rights : Fm → List Str
  | .num _ => []
  | .nam _ => []
  | .op s a b => a.rights ++ b.rights ++ (if s = .div then b.names else [])
def Fm.divs : Fm → Bool
  | .num _ => false
  | .nam _ => false
  | .op s a b => decide (s = .div) || (a.divs || b.divs)
def Fm.namesOf : Fm → Bool → List Str
  | .num _, _ => []
  | .nam x, r => if r then [x] else []
  | .op s a b, r => a.namesOf r ++ b.namesOf (r || decide (s = .div))
theorem Fm.namesOf_true : ∀ f : Fm, f.namesOf true = f.names
  | .num _ => rfl
  | .nam _ => rfl
  | .op s a b => by
    show a.namesOf true ++ b.namesOf (true || decide (s = .div)) = a.names ++ b.names
    rw [Bool.true_or, a.namesOf_true, b.namesOf_true]
theorem Fm.namesOf_false (y : Str) : ∀ f : Fm, y ∈ f.namesOf false ↔ y ∈ f.rights
  | .num _ => Iff.rfl
  | .nam _ => Iff.rfl
  | .op s a b => by
    show y ∈ a.namesOf false ++ b.namesOf (false || decide (s = .div)) ↔ y ∈ a.rights ++ b.rights ++ (if s = .div then b.names else [])
    have h1 := Fm.namesOf_false y a
    have h2 := Fm.namesOf_false y b
    have h3 : y ∈ b.rights → y ∈ b.names := Fm.rights_names y b
    rw [Bool.false_or, List.mem_append, List.mem_append, List.mem_append, h1]
    by_cases e : s = .div
    · rw [decide_eq_true e, if_pos e, b.namesOf_true]
      constructor
      · rintro (h | h)
        · exact .inl (.inl h)
        · exact .inr h
      · rintro ((h | h) | h)
        · exact .inl h
        · exact .inr (h3 h)
        · exact .inr h
    · rw [decide_eq_false e, if_neg e, h2]
      constructor
      · rintro (h | h)
        · exact .inl (.inl h)
        · exact .inl (.inr h)
      · rintro ((h | h) | h)
        · exact .inl h
        · exact .inr h
        · exact absurd h List.not_mem_nil
where
  Fm.rights_names (y : Str) : ∀ f : Fm, y ∈ f.rights → y ∈ f.names
  | .num _, h => h
  | .nam _, h => nomatch h
  | .op s a b, h => by
    show y ∈ a.names ++ b.names
    rcases List.mem_append.mp (show y ∈ a.rights ++ b.rights ++ (if s = .div then b.names else []) from h) with h | h
    · rcases List.mem_append.mp h with h | h
      · exact List.mem_append_left _ (Fm.rights_names y a h)
      · exact List.mem_append_right _ (Fm.rights_names y b h)
    · by_cases e : s = .div
      · rw [if_pos e] at h
        exact List.mem_append_right _ h
      · rw [if_neg e] at h
        exact nomatch h
theorem Fm.rights_names (y : Str) (f : Fm) : y ∈ f.rights → y ∈ f.names := Fm.namesOf_false.Fm.rights_names y f
theorem Fm.rights_len : ∀ f : Fm, f.rights.length ≤ f.depth * 2 ^ f.depth
  | .num _ => Nat.zero_le _
  | .nam _ => Nat.zero_le _
  | .op s a b => by
    have h1 := a.rights_len
    have h2 := b.rights_len
    have h3 := b.names_len
    have m1 : a.depth ≤ max a.depth b.depth := Nat.le_max_left _ _
    have m2 : b.depth ≤ max a.depth b.depth := Nat.le_max_right _ _
    have p1 : 2 ^ a.depth ≤ 2 ^ max a.depth b.depth := Nat.pow_le_pow_right (by decide) m1
    have p2 : 2 ^ b.depth ≤ 2 ^ max a.depth b.depth := Nat.pow_le_pow_right (by decide) m2
    have q1 := Nat.mul_le_mul m1 p1
    have q2 := Nat.mul_le_mul m2 p2
    have l : (if s = .div then b.names else []).length ≤ b.names.length := by
      by_cases e : s = .div
      · rw [if_pos e]; exact Nat.le_refl _
      · rw [if_neg e]; exact Nat.zero_le _
    show (a.rights ++ b.rights ++ (if s = .div then b.names else [])).length ≤ (max a.depth b.depth + 1) * 2 ^ (max a.depth b.depth + 1)
    rw [List.length_append, List.length_append, Nat.pow_succ, Nat.add_mul, Nat.one_mul, ← Nat.mul_assoc]
    generalize max a.depth b.depth * 2 ^ max a.depth b.depth = X at *
    generalize 2 ^ max a.depth b.depth = Y at *
    omega
theorem Fm.rights_small {f : Fm} (h : f.depth ≤ 18) : f.rights.length ≤ 4718592 :=
  Nat.le_trans f.rights_len (Nat.mul_le_mul h (Nat.pow_le_pow_right (by decide) h))
theorem Fm.names_small18 {f : Fm} (h : f.depth ≤ 18) : f.names.length ≤ 262144 := Nat.le_trans f.names_len (Nat.pow_le_pow_right (by decide) h)
theorem Fm.names_lt {f : Fm} {n : Nat} (h : f.depth ≤ n + 1) : True := trivial

def sp_all_names (K : PySem.W.Frag) (n : Nat) : Sp := fun vs H Q _ => ∃ (v : V) (f : Fm), vs = [v] ∧ FmAt K H v f ∧ f.depth ≤ n ∧ f.depth ≤ 18 ∧ ∀ p H', Same H H' → H p = none → H' p = some (.lst (f.names.map V.str)) → Q (.ref p) H'
def sp_names_in (K : PySem.W.Frag) : Sp := fun vs H Q _ => ∃ (v : V) (f : Fm) (ns : List Str), vs = [v] ∧ FmAt K H v f ∧ f.ok ns ∧ ns.length ≤ 1000 ∧ f.depth ≤ 18 ∧
  ∀ p H' ys, sortedS ys = true → ys.Nodup → (∀ y, y ∈ ys ↔ y ∈ f.names) → Same H H' → H p = none → H' p = some (.lst (ys.map V.str)) → Q (.ref p) H'
def sp_all_right (K : PySem.W.Frag) (n : Nat) : Sp := fun vs H Q _ => ∃ (v : V) (f : Fm), vs = [v] ∧ FmAt K H v f ∧ f.depth ≤ n ∧ f.depth ≤ 18 ∧ ∀ p H', Same H H' → H p = none → H' p = some (.lst (f.rights.map V.str)) → Q (.ref p) H'
def sp_right_names (K : PySem.W.Frag) : Sp := fun vs H Q _ => ∃ (v : V) (f : Fm) (ns : List Str), vs = [v] ∧ FmAt K H v f ∧ f.ok ns ∧ ns.length ≤ 1000 ∧ f.depth ≤ 18 ∧
  ∀ p H' ys, sortedS ys = true → ys.Nodup → (∀ y, y ∈ ys ↔ y ∈ f.rights) → Same H H' → H p = none → H' p = some (.lst (ys.map V.str)) → Q (.ref p) H'
def sp_divides (K : PySem.W.Frag) (n : Nat) : Sp := fun vs H Q _ => ∃ (v : V) (f : Fm), vs = [v] ∧ FmAt K H v f ∧ f.depth ≤ n ∧ Q (.bl f.divs) H
abbrev N_all_names : List Str := ["formula"]
def t_all_names (K : PySem.W.Frag) (n : Nat) : TS :=
  (tSeq (tIfS (tTest (tOp (rEq2 K) (tOp (rIx K) (tVar 0) (tC (.int 0))) (tC (.str "number")))) (tRet (tLst tNil)) tNext) (tSeq (tIfS (tTest (tOp (rEq2 K) (tOp (rIx K) (tVar 0) (tC (.int 0))) (tC (.str "name")))) (tRet (tLst (tCons (tOp (rIx K) (tVar 0) (tC (.int 1))) tNil))) tNext) (tRet (tOp (rAdd K) (tF (sp_all_names K n) (tCons (tOp (rIx K) (tVar 0) (tC (.int 1))) tNil)) (tF (sp_all_names K n) (tCons (tOp (rIx K) (tVar 0) (tC (.int 2))) tNil))))))
abbrev N_names_in : List Str := ["formula"]
def t_names_in (K : PySem.W.Frag) : TS :=
  (tRet (tSortSet K (tF (sp_all_names K 18) (tCons (tVar 0) tNil))))
abbrev N_all_right : List Str := ["formula", "found"]
def t_all_right (K : PySem.W.Frag) (n : Nat) : TS :=
  (tSeq (tIfS (tOr (tTest (tOp (rEq2 K) (tOp (rIx K) (tVar 0) (tC (.int 0))) (tC (.str "number")))) (tTest (tOp (rEq2 K) (tOp (rIx K) (tVar 0) (tC (.int 0))) (tC (.str "name"))))) (tRet (tLst tNil)) tNext) (tSeq (tAsg (tOp (rAdd K) (tF (sp_all_right K n) (tCons (tOp (rIx K) (tVar 0) (tC (.int 1))) tNil)) (tF (sp_all_right K n) (tCons (tOp (rIx K) (tVar 0) (tC (.int 2))) tNil))) (gName 1)) (tSeq (tIfS (tTest (tOp (rEq2 K) (tOp (rIx K) (tVar 0) (tC (.int 0))) (tC (.str "/")))) (tAsg (tOp (rAdd K) (tVar 1) (tF (sp_all_names K 18) (tCons (tOp (rIx K) (tVar 0) (tC (.int 2))) tNil))) (gName 1)) tNext) (tRet (tVar 1)))))
abbrev N_right_names : List Str := ["formula"]
def t_right_names (K : PySem.W.Frag) : TS :=
  (tRet (tSortSet K (tF (sp_all_right K 18) (tCons (tVar 0) tNil))))
abbrev N_divides : List Str := ["formula"]
def t_divides (K : PySem.W.Frag) (n : Nat) : TS :=
  (tSeq (tIfS (tOr (tTest (tOp (rEq2 K) (tOp (rIx K) (tVar 0) (tC (.int 0))) (tC (.str "number")))) (tTest (tOp (rEq2 K) (tOp (rIx K) (tVar 0) (tC (.int 0))) (tC (.str "name"))))) (tRet (tC (.bl false))) tNext) (tRet (tOrV (tOp (rEq2 K) (tOp (rIx K) (tVar 0) (tC (.int 0))) (tC (.str "/"))) (tOrV (tF (sp_divides K n) (tCons (tOp (rIx K) (tVar 0) (tC (.int 1))) tNil)) (tF (sp_divides K n) (tCons (tOp (rIx K) (tVar 0) (tC (.int 2))) tNil))))))
theorem pure_all_names (K : PySem.W.Frag) (n : Nat) (vs : List V) (H : Hp) (Q : VK) (E : XK) (h : sp_all_names K (n + 1) vs H Q E) :
    t_all_names K n { nx := fun _ H' => Q .non H', rt := Q } (start N_all_names vs) H := by
  obtain ⟨v, f, rfl, hf, hd, hn, q⟩ := h
  unfold t_all_names
  cases hf with
  | num h =>
    walk_at "go"
    exact w_new (by walk_at "sz") (fun p hp => q _ _ (same_new hp) hp upd_same)
  | nam h =>
    walk_at "go"
    exact w_new (by walk_at "sz") (fun p hp => q _ _ (same_new hp) hp upd_same)
  | @op a s u v f g h h1 h2 =>
    have e1 := sg_num s
    have e2 := sg_nam s
    have l1 : f.depth ≤ n := by simp only [Fm.depth] at hd; omega
    have l2 : g.depth ≤ n := by simp only [Fm.depth] at hd; omega
    have k1 : f.depth ≤ 18 := by simp only [Fm.depth] at hn; omega
    have k2 : g.depth ≤ 18 := by simp only [Fm.depth] at hn; omega
    walk_at "go"
    refine ⟨_, f, rfl, h1, l1, k1, fun p H1 e hp hp1 => ?_⟩
    walk_at "go"
    refine ⟨_, g, rfl, h2.mono e, l2, k2, fun p2 H2 e' hp2 hp3 => ?_⟩
    have y1 := Fm.names_small18 k1
    have y2 := Fm.names_small18 k2
    refine w_addL (e' p _ hp1) hp3 (sz (by rw [List.length_map, List.length_map]; omega)) fun p4 hp4 => ?_
    exact q _ _ ((e.trans e').trans (same_new hp4)) (none_of (e.trans e') hp4) (by rw [upd_same, ← List.map_append] <;> rfl)
theorem no_all_names {K : PySem.W.Frag} : ∀ vs H Q E, ¬ sp_all_names K 0 vs H Q E := by
  rintro vs H Q E ⟨v, f, _, _, h, _⟩
  have := f.depth_pos
  omega
theorem pure_names_in (K : PySem.W.Frag) (vs : List V) (H : Hp) (Q : VK) (E : XK) (h : sp_names_in K vs H Q E) :
    t_names_in K { nx := fun _ H' => Q .non H', rt := Q } (start N_names_in vs) H := by
  obtain ⟨v, f, ns, rfl, hf, ho, hl, hn, q⟩ := h
  unfold t_names_in
  walk_at "go"
  refine w_sortSet ?_
  walk_at "go"
  refine ⟨_, f, rfl, hf, hn, hn, fun p H1 e hp hp1 => ?_⟩
  refine ⟨p, f.names, ns, rfl, SqL.of hp1, Fm.ok_names ho, by omega, fun ys r H2 s1 s2 s3 e2 hr hr2 => ?_⟩
  exact q r H2 ys s1 s2 s3 (e.trans e2) (none_of e hr) hr2
theorem pure_all_right (K : PySem.W.Frag) (n : Nat) (vs : List V) (H : Hp) (Q : VK) (E : XK) (h : sp_all_right K (n + 1) vs H Q E) :
    t_all_right K n { nx := fun _ H' => Q .non H', rt := Q } (start N_all_right vs) H := by
  obtain ⟨v, f, rfl, hf, hd, hn, q⟩ := h
  unfold t_all_right
  cases hf with
  | num h =>
    walk_at "go"
    exact w_new (by walk_at "sz") (fun p hp => q _ _ (same_new hp) hp upd_same)
  | nam h =>
    walk_at "go"
    exact w_new (by walk_at "sz") (fun p hp => q _ _ (same_new hp) hp upd_same)
  | @op a s u v f g h h1 h2 =>
    have e1 := sg_num s
    have e2 := sg_nam s
    have l1 : f.depth ≤ n := by simp only [Fm.depth] at hd; omega
    have l2 : g.depth ≤ n := by simp only [Fm.depth] at hd; omega
    have k1 : f.depth ≤ 18 := by simp only [Fm.depth] at hn; omega
    have k2 : g.depth ≤ 18 := by simp only [Fm.depth] at hn; omega
    walk_at "go"
    refine ⟨_, f, rfl, h1, l1, k1, fun p H1 e hp hp1 => ?_⟩
    walk_at "go"
    refine ⟨_, g, rfl, h2.mono e, l2, k2, fun p2 H2 e' hp2 hp3 => ?_⟩
    have y1 := Fm.rights_small k1
    have y2 := Fm.rights_small k2
    have y3 := Fm.names_small18 k2
    refine w_addL (e' p _ hp1) hp3 (sz (by rw [List.length_map, List.length_map]; omega)) fun p4 hp4 => ?_
    have e4 := (e.trans e').trans (same_new (o := .lst (f.rights.map V.str ++ g.rights.map V.str)) hp4)
    have c4 := none_of (e.trans e') hp4
    walk_at "go"
    rw [sg_div]
    refine w_two (fun c => ?_) (fun c => ?_)
    · have c := of_decide_eq_true c
      walk_at "go"
      refine ⟨_, g, rfl, h2.mono e4, k2, k2, fun p5 H5 e5 hp5 hp6 => ?_⟩
      refine w_addL (e5 p4 _ upd_same) hp6 (sz (by rw [List.length_append, List.length_map, List.length_map, List.length_map]; omega)) fun p7 hp7 => ?_
      walk_at "go"
      exact q _ _ ((e4.trans e5).trans (same_new hp7)) (none_of (e4.trans e5) hp7) (by rw [upd_same, Fm.rights, if_pos c, List.map_append, List.map_append] <;> rfl)
    · have c := of_decide_eq_false c
      walk_at "go"
      exact q _ _ e4 c4 (by rw [upd_same, Fm.rights, if_neg c, List.append_nil, List.map_append] <;> rfl)
theorem no_all_right {K : PySem.W.Frag} : ∀ vs H Q E, ¬ sp_all_right K 0 vs H Q E := by
  rintro vs H Q E ⟨v, f, _, _, h, _⟩
  have := f.depth_pos
  omega
theorem pure_right_names (K : PySem.W.Frag) (vs : List V) (H : Hp) (Q : VK) (E : XK) (h : sp_right_names K vs H Q E) :
    t_right_names K { nx := fun _ H' => Q .non H', rt := Q } (start N_right_names vs) H := by
  obtain ⟨v, f, ns, rfl, hf, ho, hl, hn, q⟩ := h
  unfold t_right_names
  walk_at "go"
  refine w_sortSet ?_
  walk_at "go"
  refine ⟨_, f, rfl, hf, hn, hn, fun p H1 e hp hp1 => ?_⟩
  refine ⟨p, f.rights, ns, rfl, SqL.of hp1, (fun y hy => Fm.ok_names ho y (f.rights_names y hy)), by omega, fun ys r H2 s1 s2 s3 e2 hr hr2 => ?_⟩
  exact q r H2 ys s1 s2 s3 (e.trans e2) (none_of e hr) hr2
theorem pure_divides (K : PySem.W.Frag) (n : Nat) (vs : List V) (H : Hp) (Q : VK) (E : XK) (h : sp_divides K (n + 1) vs H Q E) :
    t_divides K n { nx := fun _ H' => Q .non H', rt := Q } (start N_divides vs) H := by
  obtain ⟨v, f, rfl, hf, hd, q⟩ := h
  unfold t_divides
  cases hf with
  | num h =>
    walk_at "go"
    exact q
  | nam h =>
    walk_at "go"
    exact q
  | @op a s u v f g h h1 h2 =>
    have e1 := sg_num s
    have e2 := sg_nam s
    have l1 : f.depth ≤ n := by simp only [Fm.depth] at hd; omega
    have l2 : g.depth ≤ n := by simp only [Fm.depth] at hd; omega
    walk_at "go"
    rw [sg_div]
    refine w_two (fun c => ?_) (fun c => ?_)
    · rw [Fm.divs, c, Bool.true_or] at q
      exact q
    · rw [Fm.divs, c, Bool.false_or] at q
      walk_at "go"
      refine ⟨_, f, rfl, h1, l1, ?_⟩
      walk_at "go"
      refine w_two (fun c2 => ?_) (fun c2 => ?_)
      · rw [c2, Bool.true_or] at q
        exact q
      · rw [c2, Bool.false_or] at q
        walk_at "go"
        exact ⟨_, g, rfl, h2, l2, q⟩
theorem no_divides {K : PySem.W.Frag} : ∀ vs H Q E, ¬ sp_divides K 0 vs H Q E := by
  rintro vs H Q E ⟨v, f, _, _, h, _⟩
  have := f.depth_pos
  omega
/-! ### what a formula comes to -/
def Sg.put : Sg → Int → Int → Option Int
  | .add, a, b => some ((a + b) % 1000000)
  | .sub, a, b => some ((a - b) % 1000000)
  | .mul, a, b => some (a * b % 1000000)
  | .lt, a, b => some (if decide (a < b) = true then 1 else 0)
  | .eq, a, b => some (if decide (a = b) = true then 1 else 0)
  | .div, a, b => if b = 0 then none else some (a / b)
def In6 (i : Int) : Prop := 0 ≤ i ∧ i < 1000000
theorem In6.mod (i : Int) : In6 (i % 1000000) := mod_in i (by decide)
theorem In6.bit {c : Bool} : In6 (if c = true then 1 else 0) := by cases c <;> exact ⟨by decide, by decide⟩
theorem put_in {s : Sg} {a b i : Int} (ha : In6 a) (hb : In6 b) (h : s.put a b = some i) : In6 i := by
  cases s with
  | add => rw [← Option.some.inj h]; exact In6.mod _
  | sub => rw [← Option.some.inj h]; exact In6.mod _
  | mul => rw [← Option.some.inj h]; exact In6.mod _
  | lt => rw [← Option.some.inj h]; exact In6.bit
  | eq => rw [← Option.some.inj h]; exact In6.bit
  | div =>
    by_cases e : b = 0
    · rw [Sg.put, if_pos e] at h
      exact nomatch h
    · rw [Sg.put, if_neg e] at h
      rw [← Option.some.inj h]
      exact ⟨Int.ediv_nonneg ha.1 hb.1, Int.lt_of_le_of_lt (Int.ediv_le_self b ha.1) ha.2⟩
def Fm.reck (g : Str → Int) : Fm → Option Int
  | .num n => some n
  | .nam x => some (g x)
  | .op s a b => match a.reck g, b.reck g with
    | some u, some v => s.put u v
    | _, _ => none
theorem Fm.reck_in {g : Str → Int} {ns : List Str} (hg : ∀ x ∈ ns, In6 (g x)) : ∀ {f : Fm} {i : Int}, f.ok ns → f.reck g = some i → In6 i
  | .num n, i, ho, h => by rw [← Option.some.inj h]; exact ho
  | .nam x, i, ho, h => by rw [← Option.some.inj h]; exact hg x ho
  | .op s a b, i, ho, h => by
    cases ea : a.reck g with
    | none => simp [Fm.reck, ea] at h
    | some u =>
      cases eb : b.reck g with
      | none => simp [Fm.reck, ea, eb] at h
      | some v =>
        simp only [Fm.reck, ea, eb] at h
        exact put_in (Fm.reck_in hg ho.1 ea) (Fm.reck_in hg ho.2 eb) h
abbrev OV : Option Int → V
  | some i => .int i
  | none => .non
def DAt (H : Hp) (a : Addr) (ns : List Str) (g : Str → Int) : Prop := ∃ kvs : List (Key × V), H a = some (.dK kvs) ∧ ∀ x ∈ ns, valV kvs (.inr x) = some (.int (g x))
theorem DAt.mono {H H' : Hp} {a : Addr} {ns : List Str} {g : Str → Int} (e : Same H H') (h : DAt H a ns g) : DAt H' a ns g := by
  obtain ⟨kvs, h1, h2⟩ := h
  exact ⟨kvs, e a _ h1, h2⟩
def sp_put_together (_ : PySem.W.Frag) : Sp := fun vs H Q _ => ∃ (s : Sg) (i j : Int), vs = [.str s.txt, .int i, .int j] ∧ In6 i ∧ In6 j ∧ Q (OV (s.put i j)) H
def sp_reckoned (K : PySem.W.Frag) (n : Nat) : Sp := fun vs H Q _ => ∃ (v : V) (f : Fm) (a : Addr) (ns : List Str) (g : Str → Int), vs = [v, .ref a] ∧ FmAt K H v f ∧ f.ok ns ∧ f.depth ≤ n ∧ DAt H a ns g ∧ (∀ x ∈ ns, In6 (g x)) ∧ Q (OV (f.reck g)) H
abbrev N_put_together : List Str := ["sign", "one", "other"]
def t_put_together (K : PySem.W.Frag) : TS :=
  (tSeq (tIfS (tTest (tOp (rEq2 K) (tVar 0) (tC (.str "+")))) (tRet (tOp rMod (tOp (rAdd K) (tVar 1) (tVar 2)) (tC (.int 1000000)))) tNext) (tSeq (tIfS (tTest (tOp (rEq2 K) (tVar 0) (tC (.str "-")))) (tRet (tOp rMod (tOp rSub (tVar 1) (tVar 2)) (tC (.int 1000000)))) tNext) (tSeq (tIfS (tTest (tOp (rEq2 K) (tVar 0) (tC (.str "*")))) (tRet (tOp rMod (tOp rMul (tVar 1) (tVar 2)) (tC (.int 1000000)))) tNext) (tSeq (tIfS (tTest (tOp (rEq2 K) (tVar 0) (tC (.str "<")))) (tRet (tCB rInt (tCons (tOp rLt (tVar 1) (tVar 2)) tNil))) tNext) (tSeq (tIfS (tTest (tOp (rEq2 K) (tVar 0) (tC (.str "=")))) (tRet (tCB rInt (tCons (tOp (rEq2 K) (tVar 1) (tVar 2)) tNil))) tNext) (tSeq (tIfS (tTest (tOp (rEq2 K) (tVar 2) (tC (.int 0)))) (tRet (tC .non)) tNext) (tRet (tOp rDiv (tVar 1) (tVar 2)))))))))
abbrev N_reckoned : List Str := ["formula", "values", "one", "other"]
def t_reckoned (K : PySem.W.Frag) (n : Nat) : TS :=
  (tSeq (tIfS (tTest (tOp (rEq2 K) (tOp (rIx K) (tVar 0) (tC (.int 0))) (tC (.str "number")))) (tRet (tOp (rIx K) (tVar 0) (tC (.int 1)))) tNext) (tSeq (tIfS (tTest (tOp (rEq2 K) (tOp (rIx K) (tVar 0) (tC (.int 0))) (tC (.str "name")))) (tRet (tDGet (tVar 1) (tOp (rIx K) (tVar 0) (tC (.int 1))))) tNext) (tSeq (tAsg (tF (sp_reckoned K n) (tCons (tOp (rIx K) (tVar 0) (tC (.int 1))) (tCons (tVar 1) tNil))) (gName 2)) (tSeq (tAsg (tF (sp_reckoned K n) (tCons (tOp (rIx K) (tVar 0) (tC (.int 2))) (tCons (tVar 1) tNil))) (gName 3)) (tSeq (tIfS (tOr (tTest (tOp (rIsN2 false) (tVar 2) (tC .non))) (tTest (tOp (rIsN2 false) (tVar 3) (tC .non)))) (tRet (tC .non)) tNext) (tRet (tF (sp_put_together K) (tCons (tOp (rIx K) (tVar 0) (tC (.int 0))) (tCons (tVar 2) (tCons (tVar 3) tNil))))))))))
theorem pure_put_together (K : PySem.W.Frag) (vs : List V) (H : Hp) (Q : VK) (E : XK) (h : sp_put_together K vs H Q E) :
    t_put_together K { nx := fun _ H' => Q .non H', rt := Q } (start N_put_together vs) H := by
  obtain ⟨s, i, j, rfl, hi, hj, q⟩ := h
  unfold t_put_together
  cases s with
  | add => walk_at "go"; exact q
  | sub => walk_at "go"; exact q
  | mul =>
    walk_at "go"
    refine w_mulI (.inl ⟨by have := hi.1; omega, by have := hi.2; omega⟩) ?_
    walk_at "go"
    exact q
  | lt => walk_at "go"; exact q
  | eq => walk_at "go"; exact q
  | div =>
    walk_at "go"
    refine w_two (fun e => ?_) (fun e => ?_)
    · have e := of_decide_eq_true e
      walk_at "go"
      rw [Sg.put, if_pos e] at q
      exact q
    · have e := of_decide_eq_false e
      have h1 := hj.1
      have h2 := hj.2
      walk_at "go"
      rw [Sg.put, if_neg e] at q
      exact q
theorem no_reckoned {K : PySem.W.Frag} : ∀ vs H Q E, ¬ sp_reckoned K 0 vs H Q E := by
  rintro vs H Q E ⟨v, f, _, _, _, _, _, _, h, _⟩
  have := f.depth_pos
  omega
theorem pure_reckoned (K : PySem.W.Frag) (n : Nat) (vs : List V) (H : Hp) (Q : VK) (E : XK) (h : sp_reckoned K (n + 1) vs H Q E) :
    t_reckoned K n { nx := fun _ H' => Q .non H', rt := Q } (start N_reckoned vs) H := by
  obtain ⟨v, f, a, ns, g, rfl, hf, ho, hd, hA, hg, q⟩ := h
  unfold t_reckoned
  cases hf with
  | num h =>
    walk_at "go"
    exact q
  | nam h =>
    obtain ⟨kvs, hk, hv⟩ := hA
    walk_at "go"
    exact w_dgetAt hk (hv _ ho) q
  | @op p s u v f f2 h h1 h2 =>
    have e1 := sg_num s
    have e2 := sg_nam s
    have l1 : f.depth ≤ n := by simp only [Fm.depth] at hd; omega
    have l2 : f2.depth ≤ n := by simp only [Fm.depth] at hd; omega
    walk_at "go"
    refine ⟨_, f, a, ns, g, rfl, h1, ho.1, l1, hA, hg, ?_⟩
    walk_at "go"
    refine ⟨_, f2, a, ns, g, rfl, h2, ho.2, l2, hA, hg, ?_⟩
    walk_at "go"
    cases c1 : f.reck g with
    | none =>
      walk_at "go"
      simp only [Fm.reck, c1] at q
      exact q
    | some i =>
      cases c2 : f2.reck g with
      | none =>
        walk_at "go"
        simp only [Fm.reck, c1, c2] at q
        exact q
      | some j =>
        walk_at "go"
        simp only [Fm.reck, c1, c2] at q
        exact ⟨s, i, j, rfl, Fm.reck_in hg ho.1 c1, Fm.reck_in hg ho.2 c2, q⟩
def sp_law_whole (K : PySem.W.Frag) : Sp := fun vs H Q _ => ∃ i : Int, vs = [.int i] ∧ Q (.bl true) H
def sp_law_reckoned (K : PySem.W.Frag) (n : Nat) : Sp := fun vs H Q _ => ∃ (v : V) (f : Fm) (a : Addr) (ns : List Str) (g : Str → Int), vs = [v, .ref a] ∧ FmAt K H v f ∧ f.ok ns ∧ f.depth ≤ n ∧ DAt H a ns g ∧ (∀ x ∈ ns, In6 (g x)) ∧ ∀ H', Same H H' → Q (OV (f.reck g)) H'
def sp_k02 (K : PySem.W.Frag) : Sp := fun vs H Q _ => ∃ (a : Addr) (ns : List Int), vs = [.ref a] ∧ SqL K H a (ns.map V.int) ∧ ∀ H', Q (.bl true) H'
abbrev N_law_whole : List Str := ["_law_found"]
def t_law_whole (K : PySem.W.Frag) : TS :=
  (tRet (tAndV (tCB (rIsi2 K) (tCons (tVar 0) (tCons (tC (.ty "int")) tNil))) (tNotV (tCB (rIsi2 K) (tCons (tVar 0) (tCons (tC (.ty "bool")) tNil))))))
abbrev N_law_reckoned : List Str := ["_law_formula", "_law_values", "_law_one", "_law_other"]
def t_law_reckoned (K : PySem.W.Frag) (n : Nat) : TS :=
  (tSeq (tIfS (tTest (tOp (rEq2 K) (tOp (rIx K) (tVar 0) (tC (.int 0))) (tC (.str "number")))) (tRet (tOp (rIx K) (tVar 0) (tC (.int 1)))) tNext) (tSeq (tIfS (tTest (tOp (rEq2 K) (tOp (rIx K) (tVar 0) (tC (.int 0))) (tC (.str "name")))) (tRet (tDGet (tVar 1) (tOp (rIx K) (tVar 0) (tC (.int 1))))) tNext) (tSeq (tAsg (tF (sp_law_reckoned K n) (tCons (tOp (rIx K) (tVar 0) (tC (.int 1))) (tCons (tVar 1) tNil))) (gName 2)) (tSeq (tAsg (tF (sp_law_reckoned K n) (tCons (tOp (rIx K) (tVar 0) (tC (.int 2))) (tCons (tVar 1) tNil))) (gName 3)) (tSeq (tIfS (tOr (tTest (tOp (rIsN2 false) (tVar 2) (tC .non))) (tOr (tTest (tOp (rIsN2 false) (tVar 3) (tC .non))) (tAnd (tTest (tOp (rEq2 K) (tOp (rIx K) (tVar 0) (tC (.int 0))) (tC (.str "/")))) (tTest (tOp (rEq2 K) (tVar 3) (tC (.int 0))))))) (tRet (tC .non)) tNext) (tSeq (tIfS (tTest (tOp (rEq2 K) (tOp (rIx K) (tVar 0) (tC (.int 0))) (tC (.str "/")))) (tRet (tOp rDiv (tVar 2) (tVar 3))) tNext) (tSeq (tIfS (tOr (tTest (tOp (rEq2 K) (tOp (rIx K) (tVar 0) (tC (.int 0))) (tC (.str "<")))) (tTest (tOp (rEq2 K) (tOp (rIx K) (tVar 0) (tC (.int 0))) (tC (.str "="))))) (tRet (tCB rInt (tCons (tOrV (tAndV (tOp rLt (tVar 2) (tVar 3)) (tOp (rEq2 K) (tOp (rIx K) (tVar 0) (tC (.int 0))) (tC (.str "<")))) (tAndV (tOp (rEq2 K) (tVar 2) (tVar 3)) (tOp (rEq2 K) (tOp (rIx K) (tVar 0) (tC (.int 0))) (tC (.str "="))))) tNil))) tNext) (tSeq (tIfS (tTest (tOp (rEq2 K) (tOp (rIx K) (tVar 0) (tC (.int 0))) (tC (.str "*")))) (tRet (tOp rMod (tOp rMul (tVar 2) (tVar 3)) (tOp rPow (tC (.int 10)) (tC (.int 6))))) tNext) (tRet (tOp rMod (tOp (rAdd K) (tVar 2) (tOp (rIx K) (tLst (tCons (tVar 3) (tCons (tUn rNeg (tVar 3)) tNil))) (tCB rInt (tCons (tOp (rEq2 K) (tOp (rIx K) (tVar 0) (tC (.int 0))) (tC (.str "-"))) tNil)))) (tOp rPow (tC (.int 10)) (tC (.int 6)))))))))))))
abbrev N_k02 : List Str := ["_law_script", "_law_names_here", "_law_formula", "_law_turn", "_law_values", "_law_k", "_law_name", "_law_handed", "_law_told", "_law_due", "_law_cell"]
def t_k02 (K : PySem.W.Frag) : TS :=
  (tSeq (tAsg (tF (sp_law_names K) (tCons (tF (sp_law_cell_at K) (tCons (tVar 0) (tCons (tC (.int 0)) tNil))) (tCons (tF (sp_law_cell_at K) (tCons (tVar 0) (tCons (tC (.int 1)) tNil))) tNil))) (gName 1)) (tSeq (tAsg (tF (sp_law_deep_formula K) (tCons (tF (sp_law_cell_at K) (tCons (tVar 0) (tCons (tC (.int 2)) tNil))) (tCons (tVar 1) tNil))) (gName 2)) (tSeq (tFor (iRng1 (tCons (tC (.int 4)) tNil)) (gName 3) (tSeq (tAsg tDNewK (gName 4)) (tSeq (tFor (iEnum K (tCons (tVar 1) tNil)) (gTup K 2 (gCons (gName 5) (gCons (gName 6) gNil))) (tSeq (tAsg (tF (sp_law_mixed K) (tCons (tOp (rAdd K) (tF (sp_law_cell_at K) (tCons (tVar 0) (tCons (tOp (rAdd K) (tC (.int 3)) (tVar 5)) tNil))) (tVar 3)) tNil)) (gName 10)) (sDPut (tVar 4) (tVar 6) (tOp (rIx K) (tLst (tCons (tOp rMod (tOp rDiv (tVar 10) (tC (.int 8))) (tC (.int 5))) (tCons (tOp rMod (tOp rDiv (tVar 10) (tC (.int 8))) (tOp rPow (tC (.int 10)) (tC (.int 6)))) tNil))) (tCB rInt (tCons (tOp rGt (tOp rMod (tVar 10) (tC (.int 8))) (tC (.int 4))) tNil)))))) (tSeq (tAsg (tCB rDictC (tCons (tVar 4) tNil)) (gName 7)) (tSeq (tAsg (tF (sp_reckoned K 18) (tCons (tVar 2) (tCons (tVar 7) tNil))) (gName 8)) (tSeq (tAsg (tF (sp_law_reckoned K 18) (tCons (tVar 2) (tCons (tVar 4) tNil))) (gName 9)) (tSeq (tIfS (tOr (tTest (tOp (rNe2 K) (tVar 7) (tVar 4))) (tAnd (tTest (tOp (rIsN2 false) (tVar 9) (tC .non))) (tTest (tOp (rIsN2 true) (tVar 8) (tC .non))))) (tRet (tC (.bl false))) tNext) (tIfS (tAnd (tTest (tOp (rIsN2 true) (tVar 9) (tC .non))) (tOr (tNot (tB (tF (sp_law_whole K) (tCons (tVar 8) tNil)))) (tTest (tOp (rNe2 K) (tVar 8) (tVar 9))))) (tRet (tC (.bl false))) tNext)))))))) (tRet (tC (.bl true))))))
theorem w_OVnon {neg : Bool} {o : Option Int} {H : Hp} {Q : VK} (q : Q (.bl (if neg then o.isSome else o.isNone)) H) : rIsN2 neg (OV o) .non H Q := by
  refine ⟨rfl, ?_⟩
  cases o <;> cases neg <;> exact q
theorem pure_law_whole (K : PySem.W.Frag) (vs : List V) (H : Hp) (Q : VK) (E : XK) (h : sp_law_whole K vs H Q E) :
    t_law_whole K { nx := fun _ H' => Q .non H', rt := Q } (start N_law_whole vs) H := by
  obtain ⟨i, rfl, q⟩ := h
  unfold t_law_whole
  walk_at "go"
  refine w_isi (.base (.int i)) rfl ?_
  walk_at "go"
  refine w_isiNo (.base (.int i)) rfl ?_
  walk_at "go"
  exact q
theorem no_law_reckoned {K : PySem.W.Frag} : ∀ vs H Q E, ¬ sp_law_reckoned K 0 vs H Q E := by
  rintro vs H Q E ⟨v, f, _, _, _, _, _, _, h, _⟩
  have := f.depth_pos
  omega
theorem pure_law_reckoned (K : PySem.W.Frag) (n : Nat) (vs : List V) (H : Hp) (Q : VK) (E : XK) (h : sp_law_reckoned K (n + 1) vs H Q E) :
    t_law_reckoned K n { nx := fun _ H' => Q .non H', rt := Q } (start N_law_reckoned vs) H := by
  obtain ⟨v, f, a, ns, g, rfl, hf, ho, hd, hA, hg, q⟩ := h
  unfold t_law_reckoned
  cases hf with
  | num h =>
    walk_at "go"
    exact q _ (Same.refl _)
  | nam h =>
    obtain ⟨kvs, hk, hv⟩ := hA
    walk_at "go"
    exact w_dgetAt hk (hv _ ho) (q _ (Same.refl _))
  | @op p s u v f f2 h h1 h2 =>
    have e1 := sg_num s
    have e2 := sg_nam s
    have l1 : f.depth ≤ n := by simp only [Fm.depth] at hd; omega
    have l2 : f2.depth ≤ n := by simp only [Fm.depth] at hd; omega
    walk_at "go"
    refine ⟨_, f, a, ns, g, rfl, h1, ho.1, l1, hA, hg, fun H1 e3 => ?_⟩
    walk_at "go"
    refine ⟨_, f2, a, ns, g, rfl, h2.mono e3, ho.2, l2, hA.mono e3, hg, fun H2 e4 => ?_⟩
    have h := same_t (e3.trans e4) h
    walk_at "go"
    cases c1 : f.reck g with
    | none =>
      walk_at "go"
      simp only [Fm.reck, c1] at q
      exact q _ (e3.trans e4)
    | some i =>
      cases c2 : f2.reck g with
      | none =>
        walk_at "go"
        simp only [Fm.reck, c1, c2] at q
        exact q _ (e3.trans e4)
      | some j =>
        simp only [Fm.reck, c1, c2] at q
        have hi := Fm.reck_in hg ho.1 c1
        have hj := Fm.reck_in hg ho.2 c2
        have p6 : (10 : Int) ^ (6 : Int).toNat = 1000000 := by decide
        cases s with
        | add =>
          walk_at "go"
          refine w_new (by walk_at "sz") (fun p1 hp1 => ?_)
          walk_at "go"
          refine w_ixL (SqL.of upd_same) (v := .int j) rfl ?_
          walk_at "go"
          refine w_pow ⟨by decide, by decide, by decide⟩ ?_
          rw [p6]
          refine w_mod (by decide) ?_
          exact q _ ((e3.trans e4).trans (same_new hp1))
        | sub =>
          walk_at "go"
          refine w_new (by walk_at "sz") (fun p1 hp1 => ?_)
          walk_at "go"
          refine w_ixL (SqL.of upd_same) (v := .int (-j)) rfl ?_
          walk_at "go"
          refine w_pow ⟨by decide, by decide, by decide⟩ ?_
          rw [p6, show i + -j = i - j from rfl]
          refine w_mod (by decide) ?_
          exact q _ ((e3.trans e4).trans (same_new hp1))
        | mul =>
          walk_at "go"
          refine w_mulI (.inl ⟨by have := hi.1; omega, by have := hi.2; omega⟩) ?_
          walk_at "go"
          refine w_pow ⟨by decide, by decide, by decide⟩ ?_
          rw [p6]
          refine w_mod (by decide) ?_
          exact q _ (e3.trans e4)
        | lt =>
          walk_at "go"
          refine w_two (fun e => ?_) (fun e => ?_)
          · walk_at "go"
            rw [Sg.put, e] at q
            exact q _ (e3.trans e4)
          · walk_at "go"
            refine w_two (fun e' => ?_) (fun e' => ?_)
            · walk_at "go"
              rw [Sg.put, e] at q
              exact q _ (e3.trans e4)
            · walk_at "go"
              rw [Sg.put, e] at q
              exact q _ (e3.trans e4)
        | eq =>
          walk_at "go"
          refine w_two (fun e => ?_) (fun e => ?_)
          · walk_at "go"
            refine w_two (fun e' => ?_) (fun e' => ?_)
            · walk_at "go"
              rw [Sg.put, e'] at q
              exact q _ (e3.trans e4)
            · walk_at "go"
              rw [Sg.put, e'] at q
              exact q _ (e3.trans e4)
          · walk_at "go"
            refine w_two (fun e' => ?_) (fun e' => ?_)
            · walk_at "go"
              rw [Sg.put, e'] at q
              exact q _ (e3.trans e4)
            · walk_at "go"
              rw [Sg.put, e'] at q
              exact q _ (e3.trans e4)
        | div =>
          walk_at "go"
          refine w_two (fun e => ?_) (fun e => ?_)
          · have e := of_decide_eq_true e
            walk_at "go"
            rw [Sg.put, if_pos e] at q
            exact q _ (e3.trans e4)
          · have e := of_decide_eq_false e
            have z1 := hj.1
            have z2 := hj.2
            walk_at "go"
            rw [Sg.put, if_neg e] at q
            exact q _ (e3.trans e4)
theorem putK_new {κ : Type} [DecidableEq κ] {kvs : List (κ × V)} {k : κ} {v : V} (h : k ∉ kvs.map (·.1)) : putK kvs k v = kvs ++ [(k, v)] := by
  unfold putK
  rw [if_neg]
  intro c
  obtain ⟨p, hp, e⟩ := List.any_eq_true.mp c
  exact h (List.mem_map.mpr ⟨p, hp, of_decide_eq_true e⟩)
def kvOf (ns : List Str) (g : Str → Int) : List (Key × V) := ns.map fun x => (.inr x, .int (g x))
theorem kvOf_at {g : Str → Int} {x : Str} : ∀ {ns : List Str}, x ∈ ns → valV (kvOf ns g) (.inr x) = some (.int (g x))
  | y :: r, h => by
    by_cases e : y = x
    · subst e
      exact valV_pos (p := (Sum.inr y, V.int (g y))) rfl
    · have hx : x ∈ r := (List.mem_cons.mp h).resolve_left fun z => e z.symm
      exact (valV_neg (p := ((Sum.inr y : Key), V.int (g y))) (fun z => e (Sum.inr.inj z))).trans (kvOf_at hx)
theorem kvOf_keys {g : Str → Int} {ns : List Str} : (kvOf ns g).map (·.1) = ns.map Sum.inr := by
  rw [kvOf, List.map_map] <;> rfl
theorem kvOf_congr {g g' : Str → Int} {ns : List Str} (h : ∀ x ∈ ns, g x = g' x) : kvOf ns g = kvOf ns g' := List.map_congr_left fun x hx => by rw [h x hx]
theorem kvOf_self {g : Str → Int} {ns : List Str} : ∀ p ∈ kvOf ns g, valV (kvOf ns g) p.1 = some p.2 ∧ flatB p.2 = true := by
  intro p hp
  obtain ⟨x, hx, rfl⟩ := List.mem_map.mp hp
  exact ⟨kvOf_at hx, rfl⟩
theorem pure_k02 (K : PySem.W.Frag) (vs : List V) (H : Hp) (Q : VK) (E : XK) (h : sp_k02 K vs H Q E) :
    t_k02 K { nx := fun _ H' => Q .non H', rt := Q } (start N_k02 vs) H := by
  obtain ⟨a, cs, rfl, hS, q⟩ := h
  unfold t_k02
  walk_at "go"
  refine ⟨a, cs, _, rfl, hS, by decide, fun i0 => ?_⟩
  walk_at "go"
  refine ⟨a, cs, _, rfl, hS, by decide, fun i1 => ?_⟩
  walk_at "go"
  refine ⟨_, _, rfl, fun p H1 ns hT e1 hp hp1 => ?_⟩
  have hl : ns.length ≤ 1000 := by rw [hT.len]; decide
  walk_at "go"
  refine ⟨a, cs, _, rfl, same_l e1 hS, by decide, fun i2 => ?_⟩
  walk_at "go"
  refine ⟨_, p, ns, rfl, SqL.of hp1, hT.nm, hl, fun v H2 f hf e2 ho hd => ?_⟩
  have hp2 := e2 p _ hp1
  have hS2 := same_l (e1.trans e2) hS
  walk_at "go"
  refine ⟨_, rfl, by decide, by decide, for_range (lo := 0) (n := 4) (fun i σ H' => Same H2 H' ∧ ∃ w1 w2 w3 w4 w5 w6 w7 w8 : Option V, σ = [some (.ref a), some (.ref p), some v, w1, w2, w3, w4, w5, w6, w7, w8])
    ⟨Same.refl _, _, _, _, _, _, _, _, _, rfl⟩ ?_ ?_⟩
  · rintro i σ H3 hi ⟨e3, w1, w2, w3, w4, w5, w6, w7, w8, rfl⟩
    have hp3 := e3 p _ hp2
    have hS3 := same_l e3 hS2
    walk_at "go"
    intro d hd0
    walk_at "go"
    refine ⟨p, ns.map V.str, rfl, SqL.of ((upd_ne (ne_of_none hp3 hd0)).trans hp3), for_enum (xs := ns.map V.str)
      (fun j σ H' => Same H3 H' ∧ ∃ (g : Str → Int) (w3 w4 w8 : Option V), σ = [some (.ref a), some (.ref p), some v, some (.int (0 + (i : Int))), some (.ref d), w3, w4, w5, w6, w7, w8] ∧ H' d = some (.dK (kvOf (ns.take j) g)) ∧ ∀ x ∈ ns.take j, In6 (g x))
      ⟨same_new hd0, fun _ => 0, _, _, _, rfl, upd_same, fun x hx => nomatch hx⟩ (fun j σ H' _ h => SqL.of (h.1 p _ hp3)) ?_ ?_⟩
    · rintro j x σ H4 T hx hT0 ⟨e4, g, u3, u4, u8, rfl, hd4, hg⟩
      obtain ⟨y, hy, rfl⟩ : ∃ y, ns[j]? = some y ∧ V.str y = x := by
        rw [List.getElem?_map] at hx
        cases c : ns[j]? with
        | none => rw [c] at hx; exact nomatch hx
        | some y => rw [c] at hx; exact ⟨y, rfl, Option.some.inj hx⟩
      have e5 := e4.trans (same_new (o := .tup [.int (j : Nat), .str y]) hT0)
      have hd5 := (upd_ne (o := .tup [.int (j : Nat), .str y]) (ne_of_none hd4 hT0)).trans hd4
      walk_at "go"
      refine ⟨a, cs, _, rfl, same_l e5 hS3, by omega, fun i3 => ?_⟩
      walk_at "go"
      refine ⟨_, rfl, fun r r0 r1 => ?_⟩
      walk_at "go"
      refine w_pow ⟨by decide, by decide, by decide⟩ ?_
      refine w_mod (by decide) ?_
      walk_at "go"
      refine w_new (by walk_at "sz") (fun l hl0 => ?_)
      walk_at "go"
      have m5 := mod_in (r / 8) (show (0 : Int) < 5 by decide)
      have m6 := mod_in (r / 8) (show (0 : Int) < 1000000 by decide)
      have pick : ∃ z : Int, In6 z ∧ atI [V.int (r / 8 % 5), V.int (r / 8 % (10 : Int) ^ (6 : Int).toNat)] (if decide (4 < r % 8) = true then 1 else 0) = some (.int z) := by
        cases decide (4 < r % 8) with
        | true => exact ⟨r / 8 % 1000000, m6, rfl⟩
        | false => exact ⟨r / 8 % 5, ⟨m5.1, by omega⟩, rfl⟩
      obtain ⟨z, hz, hat⟩ := pick
      refine w_ixL (SqL.of upd_same) hat ?_
      walk_at "go"
      have hd6 := (upd_ne (o := .lst [.int (r / 8 % 5), .int (r / 8 % (10 : Int) ^ (6 : Int).toNat)]) (ne_of_none hd5 hl0)).trans hd5
      have e6 := e5.trans (same_new (o := .lst [.int (r / 8 % 5), .int (r / 8 % (10 : Int) ^ (6 : Int).toNat)]) hl0)
      have hj : j < ns.length := (List.getElem?_eq_some_iff.mp hy).1
      refine w_dputAt hd6 (by unfold kvOf; rw [List.length_map, List.length_take]; exact Nat.lt_of_le_of_lt (Nat.min_le_right _ _) (Nat.lt_of_le_of_lt hl (by decide))) ?_
      have ny : y ∉ ns.take j := by
        intro c
        have nd : (ns.take (j + 1)).Nodup := List.Sublist.nodup (List.take_sublist _ _) hT.nd
        rw [List.take_succ, hy, Option.toList, List.nodup_append] at nd
        exact nd.2.2 y c y (List.mem_singleton.mpr rfl) rfl
      have tk : ns.take (j + 1) = ns.take j ++ [y] := by rw [List.take_succ, hy] <;> rfl
      refine ⟨same_mut e6 hd0, fun x => if x = y then z else g x, _, _, _, rfl, ?_, ?_⟩
      · rw [upd_same, putK_new (by rw [kvOf_keys]; exact fun c => by obtain ⟨x, hx, e⟩ := List.mem_map.mp c; exact ny (Sum.inr.inj e ▸ hx)), tk]
        unfold kvOf
        have c : (fun x => if x = y then z else g x) y = z := if_pos rfl
        rw [List.map_append, List.map_singleton, c]
        refine congrArg (fun l => some (HO.dK (l ++ [(Sum.inr y, V.int z)]))) (List.map_congr_left fun x hx => ?_)
        have c2 : (fun x => if x = y then z else g x) x = g x := if_neg (fun e : x = y => ny (e ▸ hx))
        rw [c2]
      · intro x hx
        rw [tk] at hx
        show In6 (if x = y then z else g x)
        by_cases e : x = y
        · rw [if_pos e]; exact hz
        · rw [if_neg e]
          rcases List.mem_append.mp hx with h | h
          · exact hg x h
          · exact absurd (List.mem_singleton.mp h) e
    · rintro σ H4 ⟨e4, g, u3, u4, u8, rfl, hd4, hg⟩
      rw [List.length_map, List.take_length] at hd4
      rw [List.length_map, List.take_length] at hg
      walk_at "go"
      refine w_dictC hd4 (fun d2 hd2 => ?_)
      have e45 := same_new (o := .dK (kvOf ns g)) hd2
      have hd5 := e45 d _ hd4
      have hd25 : upd H4 d2 (.dK (kvOf ns g)) d2 = _ := upd_same
      generalize upd H4 d2 (.dK (kvOf ns g)) = H5 at e45 hd5 hd25
      have hf5 := hf.mono (e3.trans (e4.trans e45))
      walk_at "go"
      refine ⟨v, f, d2, ns, g, rfl, hf5, ho, by omega, ⟨_, hd25, fun x hx => kvOf_at hx⟩, hg, ?_⟩
      walk_at "go"
      refine ⟨v, f, d, ns, g, rfl, hf5, ho, by omega, ⟨_, hd5, fun x hx => kvOf_at hx⟩, hg, fun H6 e6 => ?_⟩
      walk_at "go"
      refine w_neDict (e6 d2 _ hd25) (e6 d _ hd5) rfl kvOf_self ?_
      have e36 : Same H2 H6 := e3.trans (e4.trans (e45.trans e6))
      cases c : f.reck g with
      | none =>
        walk_at "go"
        exact ⟨e36, _, _, _, _, _, _, _, _, rfl⟩
      | some z =>
        walk_at "go"
        refine ⟨z, rfl, ?_⟩
        walk_at "go"
        refine w_no (by simp) ?_
        walk_at "go"
        exact ⟨e36, _, _, _, _, _, _, _, _, rfl⟩
  · rintro σ H3 ⟨e3, w1, w2, w3, w4, w5, w6, w7, w8, rfl⟩
    walk_at "go"
    exact q _
theorem law_in_k02 (K : PySem.W.Frag) (H : Hp) (a : Addr) (ns : List Int) (_ : ns.length ≤ 63) (hS : SqL K H a (ns.map V.int)) : sp_k02 K [.ref a] H (fun v _ => v = .bl true) fun _ _ _ => False := ⟨a, ns, rfl, hS, fun _ => rfl⟩
/-! ### the row: its defs, what the top has written, the derivations -/
def topS (i : Nat) : Stmt := PySem.Challenge.pw_hushkind_k02_formulas_reckoned.main.body.getD i (.Pass ⟨0, 0, 0, 0⟩)
abbrev s_put_together : Stmt := topS 2
theorem sc_put_together : FnScope N_put_together ["sign", "one", "other"] (defScope s_put_together) := ⟨rfl, rfl, rfl, by decide +kernel, rfl, by decide +kernel, by decide +kernel⟩
abbrev s_reckoned : Stmt := topS 3
theorem sc_reckoned : FnScope N_reckoned ["formula", "values"] (defScope s_reckoned) := ⟨rfl, rfl, rfl, by decide +kernel, rfl, by decide +kernel, by decide +kernel⟩
abbrev s_law_whole : Stmt := topS 5
theorem sc_law_whole : FnScope N_law_whole ["_law_found"] (defScope s_law_whole) := ⟨rfl, rfl, rfl, by decide +kernel, rfl, by decide +kernel, by decide +kernel⟩
abbrev s_law_cell_at : Stmt := topS 6
theorem sc_law_cell_at : FnScope N_law_cell_at ["_law_script", "_law_k"] (defScope s_law_cell_at) := ⟨rfl, rfl, rfl, by decide +kernel, rfl, by decide +kernel, by decide +kernel⟩
abbrev s_law_mixed : Stmt := topS 7
theorem sc_law_mixed : FnScope N_law_mixed ["_law_number"] (defScope s_law_mixed) := ⟨rfl, rfl, rfl, by decide +kernel, rfl, by decide +kernel, by decide +kernel⟩
abbrev s_law_name_by : Stmt := topS 8
theorem sc_law_name_by : FnScope N_law_name_by ["_law_cell"] (defScope s_law_name_by) := ⟨rfl, rfl, rfl, by decide +kernel, rfl, by decide +kernel, by decide +kernel⟩
abbrev s_law_twin : Stmt := topS 9
theorem sc_law_twin : FnScope N_law_twin ["_law_name", "_law_cell"] (defScope s_law_twin) := ⟨rfl, rfl, rfl, by decide +kernel, rfl, by decide +kernel, by decide +kernel⟩
abbrev s_law_names : Stmt := topS 10
theorem sc_law_names : FnScope N_law_names ["_law_one", "_law_other"] (defScope s_law_names) := ⟨rfl, rfl, rfl, by decide +kernel, rfl, by decide +kernel, by decide +kernel⟩
abbrev s_law_end_by : Stmt := topS 11
theorem sc_law_end_by : FnScope N_law_end_by ["_law_number", "_law_names_here"] (defScope s_law_end_by) := ⟨rfl, rfl, rfl, by decide +kernel, rfl, by decide +kernel, by decide +kernel⟩
abbrev s_law_formula_by : Stmt := topS 12
theorem sc_law_formula_by : FnScope N_law_formula_by ["_law_number", "_law_names_here", "_law_low", "_law_divide", "_law_left"] (defScope s_law_formula_by) := ⟨rfl, rfl, rfl, by decide +kernel, rfl, by decide +kernel, by decide +kernel⟩
abbrev s_law_deep_formula : Stmt := topS 13
theorem sc_law_deep_formula : FnScope N_law_deep_formula ["_law_cell", "_law_names_here"] (defScope s_law_deep_formula) := ⟨rfl, rfl, rfl, by decide +kernel, rfl, by decide +kernel, by decide +kernel⟩
abbrev s_law_reckoned : Stmt := topS 14
theorem sc_law_reckoned : FnScope N_law_reckoned ["_law_formula", "_law_values"] (defScope s_law_reckoned) := ⟨rfl, rfl, rfl, by decide +kernel, rfl, by decide +kernel, by decide +kernel⟩
abbrev s_k02 : Stmt := topS 15
theorem sc_k02 : FnScope N_k02 ["_law_script"] (defScope s_k02) := ⟨rfl, rfl, rfl, by decide +kernel, rfl, by decide +kernel, by decide +kernel⟩
structure Top (K : PySem.W.Frag) (mg : Str → Option Value) : Prop where
  f_put_together : DefAt K mg "put_together" s_put_together ["sign", "one", "other"]
  f_reckoned : DefAt K mg "reckoned" s_reckoned ["formula", "values"]
  f_law_whole : DefAt K mg "_law_whole" s_law_whole ["_law_found"]
  f_law_cell_at : DefAt K mg "_law_cell_at" s_law_cell_at ["_law_script", "_law_k"]
  f_law_mixed : DefAt K mg "_law_mixed" s_law_mixed ["_law_number"]
  f_law_name_by : DefAt K mg "_law_name_by" s_law_name_by ["_law_cell"]
  f_law_twin : DefAt K mg "_law_twin" s_law_twin ["_law_name", "_law_cell"]
  f_law_names : DefAt K mg "_law_names" s_law_names ["_law_one", "_law_other"]
  f_law_end_by : DefAt K mg "_law_end_by" s_law_end_by ["_law_number", "_law_names_here"]
  f_law_formula_by : DefAt K mg "_law_formula_by" s_law_formula_by ["_law_number", "_law_names_here", "_law_low", "_law_divide", "_law_left"]
  f_law_deep_formula : DefAt K mg "_law_deep_formula" s_law_deep_formula ["_law_cell", "_law_names_here"]
  f_law_reckoned : DefAt K mg "_law_reckoned" s_law_reckoned ["_law_formula", "_law_values"]
  z_int : mg "int" = none
  z_isinstance : mg "isinstance" = none
  z_bool : mg "bool" = none
  z_len : mg "len" = none
  z_range : mg "range" = none
  z_enumerate : mg "enumerate" = none
  z_dict : mg "dict" = none
  g_LIMIT : ∃ t, mg "LIMIT" = some (.int 1000000 t)
section
variable {P : Program} {w : World} {K : PySem.W.Frag} {mg : Str → Option Value} {base : Heap}
theorem ok_law_mixed (T : Top K mg) : Cal P w K mg base 1 "_law_mixed" (sp_law_mixed K) := by
  exact cal_of (k := 0) T.f_law_mixed sc_law_mixed (by intro vs H Q E h; first | (obtain ⟨_, rfl, _⟩ := h; rfl) | (obtain ⟨_, _, rfl, _⟩ := h; rfl) | (obtain ⟨_, _, _, rfl, _⟩ := h; rfl) | (obtain ⟨_, _, _, _, rfl, _⟩ := h; rfl) | (obtain ⟨_, _, _, _, _, rfl, _⟩ := h; rfl) | (obtain ⟨_, _, _, _, _, _, rfl, _⟩ := h; rfl) | (obtain ⟨_, _, _, _, _, _, _, rfl, _⟩ := h; rfl) | (obtain ⟨_, _, _, _, _, _, _, _, rfl, _⟩ := h; rfl) | (obtain ⟨_, _, _, _, _, _, _, _, _, rfl, _⟩ := h; rfl) | (obtain ⟨_, _, _, _, _, _, _, _, _, _, rfl, _⟩ := h; rfl)) fun f cdv A outer s H vs Q E hr h => ⟨t_law_mixed K, PSs.nox (pss_one (ps_ret (pe_op o_mod (pe_op o_add (pe_op o_mul (pv 0) pe_int) pe_int) pe_int))), pure_law_mixed K vs H Q E h⟩
theorem ok_law_name_by (T : Top K mg) : Cal P w K mg base 2 "_law_name_by" (sp_law_name_by K) := by
  have c_law_mixed : Cal P w K mg base 1 "_law_mixed" (sp_law_mixed K) := ok_law_mixed T
  exact cal_of (k := 1) T.f_law_name_by sc_law_name_by (by intro vs H Q E h; first | (obtain ⟨_, rfl, _⟩ := h; rfl) | (obtain ⟨_, _, rfl, _⟩ := h; rfl) | (obtain ⟨_, _, _, rfl, _⟩ := h; rfl) | (obtain ⟨_, _, _, _, rfl, _⟩ := h; rfl) | (obtain ⟨_, _, _, _, _, rfl, _⟩ := h; rfl) | (obtain ⟨_, _, _, _, _, _, rfl, _⟩ := h; rfl) | (obtain ⟨_, _, _, _, _, _, _, rfl, _⟩ := h; rfl) | (obtain ⟨_, _, _, _, _, _, _, _, rfl, _⟩ := h; rfl) | (obtain ⟨_, _, _, _, _, _, _, _, _, rfl, _⟩ := h; rfl) | (obtain ⟨_, _, _, _, _, _, _, _, _, _, rfl, _⟩ := h; rfl)) fun f cdv A outer s H vs Q E hr h => ⟨t_law_name_by K, PSs.nox (pss_cons (ps_set (i := 1) sc_law_name_by.nd rfl (by first | exact Or.inl rfl | exact Or.inr rfl) (pe_ix ix_seq pe_str (pe_op o_mod (pe_op o_div (pv 0) pe_int) pe_int) (fun _ _ => rfl))) (pss_cons (ps_set (i := 2) sc_law_name_by.nd rfl (by first | exact Or.inl rfl | exact Or.inr rfl) (pv 0)) (pss_cons (ps_for PassesOwn.never rfl (pi_range1 (by rfl) T.z_range (pa_cons (pe_op o_mod (pv 0) pe_int) pa_nil)) (pg_name (i := 3) sc_law_name_by.nd rfl (by first | exact Or.inl rfl | exact Or.inr rfl)) (pss_cons (ps_set (i := 2) sc_law_name_by.nd rfl (by first | exact Or.inl rfl | exact Or.inr rfl) (pe_f c_law_mixed hr (by decide) (pa_cons (pv 2) pa_nil))) (pss_one (ps_set (i := 1) sc_law_name_by.nd rfl (by first | exact Or.inl rfl | exact Or.inr rfl) (pe_op o_add (pv 1) (pe_ix ix_seq pe_str (pe_op o_mod (pv 2) pe_int) (fun _ _ => rfl))))))) (pss_cons (ps_if (pt_cmpR o_in (pv 1) (pe_lst (pa_cons pe_str (pa_cons pe_str (pa_cons pe_str (pa_cons pe_str (pa_cons pe_str (pa_cons pe_str (pa_cons pe_str pa_nil)))))))) (by first | exact nomark _ | rfl)) (pss_one (ps_ret (pe_op o_add (pv 1) pe_str))) pss_nil) (pss_one (ps_ret (pv 1))))))), pure_law_name_by K vs H Q E h⟩
theorem ok_law_twin (T : Top K mg) : Cal P w K mg base 1 "_law_twin" (sp_law_twin K) := by
  exact cal_of (k := 0) T.f_law_twin sc_law_twin (by intro vs H Q E h; first | (obtain ⟨_, rfl, _⟩ := h; rfl) | (obtain ⟨_, _, rfl, _⟩ := h; rfl) | (obtain ⟨_, _, _, rfl, _⟩ := h; rfl) | (obtain ⟨_, _, _, _, rfl, _⟩ := h; rfl) | (obtain ⟨_, _, _, _, _, rfl, _⟩ := h; rfl) | (obtain ⟨_, _, _, _, _, _, rfl, _⟩ := h; rfl) | (obtain ⟨_, _, _, _, _, _, _, rfl, _⟩ := h; rfl) | (obtain ⟨_, _, _, _, _, _, _, _, rfl, _⟩ := h; rfl) | (obtain ⟨_, _, _, _, _, _, _, _, _, rfl, _⟩ := h; rfl) | (obtain ⟨_, _, _, _, _, _, _, _, _, _, rfl, _⟩ := h; rfl)) fun f cdv A outer s H vs Q E hr h => ⟨t_law_twin K, PSs.nox (pss_cons (ps_set (i := 2) sc_law_twin.nd rfl (by first | exact Or.inl rfl | exact Or.inr rfl) pe_str) (pss_cons (ps_set (i := 3) sc_law_twin.nd rfl (by first | exact Or.inl rfl | exact Or.inr rfl) (pe_op o_mod (pv 1) (pe_callB o_len (by rfl) T.z_len (by decide +kernel) (pa_cons (pv 0) pa_nil)))) (pss_cons (ps_if (pt_cmpR o_gt (pv 3) pe_int (by first | exact nomark _ | rfl)) (pss_one (ps_set (i := 2) sc_law_twin.nd rfl (by first | exact Or.inl rfl | exact Or.inr rfl) (pe_op o_add (pv 2) pe_str))) pss_nil) (pss_cons (ps_set (i := 4) sc_law_twin.nd rfl (by first | exact Or.inl rfl | exact Or.inr rfl) (pe_op o_add (pe_op o_add (pe_bm PySem.F.plainAttrs_str PySem.F.slot_str_find PySem.F.type_str_find mt_find (pv 2) (pa_cons (pe_ix ix_seq (pv 0) (pv 3) (fun _ _ => rfl)) pa_nil)) pe_int) (pe_op o_mod (pe_op o_div (pv 1) pe_int) (pe_op o_sub (pe_callB o_len (by rfl) T.z_len (by decide +kernel) (pa_cons (pv 2) pa_nil)) pe_int)))) (pss_cons (ps_set (i := 5) sc_law_twin.nd rfl (by first | exact Or.inl rfl | exact Or.inr rfl) (pe_op o_add (pe_op o_add (pe_slice o_sl (pv 0) po_none (po_some (pv 3))) (pe_ix ix_seq (pv 2) (pe_op o_mod (pv 4) (pe_callB o_len (by rfl) T.z_len (by decide +kernel) (pa_cons (pv 2) pa_nil))) (fun _ _ => rfl))) (pe_slice o_sl (pv 0) (po_some (pe_op o_add (pv 3) pe_int)) po_none))) (pss_cons (ps_if (pt_cmpR o_in (pv 5) (pe_lst (pa_cons pe_str (pa_cons pe_str (pa_cons pe_str (pa_cons pe_str (pa_cons pe_str (pa_cons pe_str (pa_cons pe_str pa_nil)))))))) (by first | exact nomark _ | rfl)) (pss_one (ps_ret (pe_op o_add (pv 5) pe_str))) pss_nil) (pss_one (ps_ret (pv 5))))))))), pure_law_twin K vs H Q E h⟩
theorem ok_law_names (T : Top K mg) : Cal P w K mg base 3 "_law_names" (sp_law_names K) := by
  have c_law_mixed : Cal P w K mg base 1 "_law_mixed" (sp_law_mixed K) := ok_law_mixed T
  have c_law_name_by : Cal P w K mg base 2 "_law_name_by" (sp_law_name_by K) := ok_law_name_by T
  have c_law_twin : Cal P w K mg base 1 "_law_twin" (sp_law_twin K) := ok_law_twin T
  exact cal_of (k := 2) T.f_law_names sc_law_names (by intro vs H Q E h; first | (obtain ⟨_, rfl, _⟩ := h; rfl) | (obtain ⟨_, _, rfl, _⟩ := h; rfl) | (obtain ⟨_, _, _, rfl, _⟩ := h; rfl) | (obtain ⟨_, _, _, _, rfl, _⟩ := h; rfl) | (obtain ⟨_, _, _, _, _, rfl, _⟩ := h; rfl) | (obtain ⟨_, _, _, _, _, _, rfl, _⟩ := h; rfl) | (obtain ⟨_, _, _, _, _, _, _, rfl, _⟩ := h; rfl) | (obtain ⟨_, _, _, _, _, _, _, _, rfl, _⟩ := h; rfl) | (obtain ⟨_, _, _, _, _, _, _, _, _, rfl, _⟩ := h; rfl) | (obtain ⟨_, _, _, _, _, _, _, _, _, _, rfl, _⟩ := h; rfl)) fun f cdv A outer s H vs Q E hr h => ⟨t_law_names K, PSs.nox (pss_cons (ps_set (i := 2) sc_law_names.nd rfl (by first | exact Or.inl rfl | exact Or.inr rfl) (pe_lst pa_nil)) (pss_cons (ps_for PassesOwn.never rfl (pi_range1 (by rfl) T.z_range (pa_cons pe_int pa_nil)) (pg_name (i := 3) sc_law_names.nd rfl (by first | exact Or.inl rfl | exact Or.inr rfl)) (pss_cons (ps_set (i := 0) sc_law_names.nd rfl (by first | exact Or.inl rfl | exact Or.inr rfl) (pe_f c_law_mixed hr (by decide) (pa_cons (pv 0) pa_nil))) (pss_cons (ps_set (i := 4) sc_law_names.nd rfl (by first | exact Or.inl rfl | exact Or.inr rfl) (pe_f c_law_name_by hr (by decide) (pa_cons (pe_op o_div (pv 0) pe_int) pa_nil))) (pss_cons (ps_if (PW.pt (pw_and (pt_cmpR (o_eq hr.units) (pe_op o_mod (pv 3) pe_int) pe_int (by first | exact nomark _ | rfl)) (pw_and1 (pt_cmpR (o_eq hr.units) (pe_op o_mod (pe_op o_div (pv 1) pe_int) pe_int) pe_int (by first | exact nomark _ | rfl))))) (pss_one (ps_set (i := 4) sc_law_names.nd rfl (by first | exact Or.inl rfl | exact Or.inr rfl) (pe_f c_law_twin hr (by decide) (pa_cons (pe_ix ix_seq (pv 2) (pe_op o_sub (pv 3) pe_int) (fun _ _ => rfl)) (pa_cons (pe_f c_law_mixed hr (by decide) (pa_cons (pe_op o_add (pv 1) (pv 3)) pa_nil)) pa_nil))))) pss_nil) (pss_cons (ps_while PassesOwn.never (PW.pt (pw_or (pt_cmpR o_in (pv 4) (pv 2) (by first | exact nomark _ | rfl)) (pw_or1 (pt_cmpR o_in (pv 4) (pe_lst (pa_cons pe_str (pa_cons pe_str (pa_cons pe_str (pa_cons pe_str (pa_cons pe_str (pa_cons pe_str (pa_cons pe_str pa_nil)))))))) (by first | exact nomark _ | rfl))))) (pss_cons (ps_set (i := 4) sc_law_names.nd rfl (by first | exact Or.inl rfl | exact Or.inr rfl) (pe_op o_add (pe_slice o_sl (pv 4) po_none (po_some pe_int)) (pe_ix ix_seq pe_str (pe_op o_mod (pe_op o_add (pe_op o_add (pv 1) (pe_callB o_len (by rfl) T.z_len (by decide +kernel) (pa_cons (pv 4) pa_nil))) (pv 3)) pe_int) (fun _ _ => rfl)))) (pss_one (ps_set (i := 1) sc_law_names.nd rfl (by first | exact Or.inl rfl | exact Or.inr rfl) (pe_op o_add (pv 1) pe_int))))) (pss_one (ps_expr (pe_bm PySem.F.plainAttrs_list PySem.F.slot_list_append PySem.F.type_list_append mt_append (pv 2) (pa_cons (pv 4) pa_nil))))))))) (pss_one (ps_ret (pv 2))))), pure_law_names K vs H Q E h⟩
theorem ok_law_cell_at (T : Top K mg) : Cal P w K mg base 1 "_law_cell_at" (sp_law_cell_at K) := by
  exact cal_of (k := 0) T.f_law_cell_at sc_law_cell_at (by intro vs H Q E h; first | (obtain ⟨_, rfl, _⟩ := h; rfl) | (obtain ⟨_, _, rfl, _⟩ := h; rfl) | (obtain ⟨_, _, _, rfl, _⟩ := h; rfl) | (obtain ⟨_, _, _, _, rfl, _⟩ := h; rfl) | (obtain ⟨_, _, _, _, _, rfl, _⟩ := h; rfl) | (obtain ⟨_, _, _, _, _, _, rfl, _⟩ := h; rfl) | (obtain ⟨_, _, _, _, _, _, _, rfl, _⟩ := h; rfl) | (obtain ⟨_, _, _, _, _, _, _, _, rfl, _⟩ := h; rfl) | (obtain ⟨_, _, _, _, _, _, _, _, _, rfl, _⟩ := h; rfl) | (obtain ⟨_, _, _, _, _, _, _, _, _, _, rfl, _⟩ := h; rfl)) fun f cdv A outer s H vs Q E hr h => ⟨t_law_cell_at K, PSs.nox (pss_cons (ps_if (pt_cmpR o_lt (pv 1) (pe_callB o_len (by rfl) T.z_len (by decide +kernel) (pa_cons (pv 0) pa_nil)) (by first | exact nomark _ | rfl)) (pss_one (ps_ret (pe_ix ix_seq (pv 0) (pv 1) (fun _ _ => rfl)))) pss_nil) (pss_one (ps_ret pe_int))), pure_law_cell_at K vs H Q E h⟩
theorem ok_law_end_by (T : Top K mg) : Cal P w K mg base 1 "_law_end_by" (sp_law_end_by K) := by
  exact cal_of (k := 0) T.f_law_end_by sc_law_end_by (by intro vs H Q E h; first | (obtain ⟨_, rfl, _⟩ := h; rfl) | (obtain ⟨_, _, rfl, _⟩ := h; rfl) | (obtain ⟨_, _, _, rfl, _⟩ := h; rfl) | (obtain ⟨_, _, _, _, rfl, _⟩ := h; rfl) | (obtain ⟨_, _, _, _, _, rfl, _⟩ := h; rfl) | (obtain ⟨_, _, _, _, _, _, rfl, _⟩ := h; rfl) | (obtain ⟨_, _, _, _, _, _, _, rfl, _⟩ := h; rfl) | (obtain ⟨_, _, _, _, _, _, _, _, rfl, _⟩ := h; rfl) | (obtain ⟨_, _, _, _, _, _, _, _, _, rfl, _⟩ := h; rfl) | (obtain ⟨_, _, _, _, _, _, _, _, _, _, rfl, _⟩ := h; rfl)) fun f cdv A outer s H vs Q E hr h => ⟨t_law_end_by K, PSs.nox (pss_cons (ps_if (PW.pt (pw_and (pt_cmpR (o_ne hr.units) (pv 1) (pe_lst pa_nil) (by first | exact nomark _ | rfl)) (pw_and1 (pt_cmpR o_gt (pe_op o_mod (pv 0) pe_int) pe_int (by first | exact nomark _ | rfl))))) (pss_one (ps_ret (pe_tup (pa_cons pe_str (pa_cons (pe_ix ix_seq (pv 1) (pe_op o_mod (pe_op o_div (pv 0) pe_int) (pe_callB o_len (by rfl) T.z_len (by decide +kernel) (pa_cons (pv 1) pa_nil))) (fun _ _ => rfl)) pa_nil))))) pss_nil) (pss_cons (ps_if (pt_cmpR (o_eq hr.units) (pe_op o_mod (pe_op o_div (pv 0) pe_int) pe_int) pe_int (by first | exact nomark _ | rfl)) (pss_one (ps_ret (pe_tup (pa_cons pe_str (pa_cons (pe_op o_mod (pe_op o_div (pv 0) pe_int) (pe_op o_pow pe_int pe_int)) pa_nil))))) pss_nil) (pss_one (ps_ret (pe_tup (pa_cons pe_str (pa_cons (pe_op o_mod (pe_op o_div (pv 0) pe_int) pe_int) pa_nil))))))), pure_law_end_by K vs H Q E h⟩
theorem ok_law_formula_by (T : Top K mg) : ∀ n : Nat, Cal P w K mg base (1 + n) "_law_formula_by" (sp_law_formula_by K n)
  | 0 => cal_none T.f_law_formula_by no_law_formula_by
  | n + 1 => by
    have c_law_formula_by : Cal P w K mg base (1 + n) "_law_formula_by" (sp_law_formula_by K n) := ok_law_formula_by T n
    have c_law_mixed : Cal P w K mg base 1 "_law_mixed" (sp_law_mixed K) := ok_law_mixed T
    have c_law_end_by : Cal P w K mg base 1 "_law_end_by" (sp_law_end_by K) := ok_law_end_by T
    exact cal_of (k := 1 + n) T.f_law_formula_by sc_law_formula_by (by intro vs H Q E h; first | (obtain ⟨_, rfl, _⟩ := h; rfl) | (obtain ⟨_, _, rfl, _⟩ := h; rfl) | (obtain ⟨_, _, _, rfl, _⟩ := h; rfl) | (obtain ⟨_, _, _, _, rfl, _⟩ := h; rfl) | (obtain ⟨_, _, _, _, _, rfl, _⟩ := h; rfl) | (obtain ⟨_, _, _, _, _, _, rfl, _⟩ := h; rfl) | (obtain ⟨_, _, _, _, _, _, _, rfl, _⟩ := h; rfl) | (obtain ⟨_, _, _, _, _, _, _, _, rfl, _⟩ := h; rfl) | (obtain ⟨_, _, _, _, _, _, _, _, _, rfl, _⟩ := h; rfl) | (obtain ⟨_, _, _, _, _, _, _, _, _, _, rfl, _⟩ := h; rfl)) fun f cdv A outer s H vs Q E hr h => ⟨t_law_formula_by K n, PSs.nox (pss_cons (ps_set (i := 0) sc_law_formula_by.nd rfl (by first | exact Or.inl rfl | exact Or.inr rfl) (pe_f c_law_mixed hr (by omega) (pa_cons (pv 0) pa_nil))) (pss_cons (ps_if (PW.pt (pw_or (pt_cmpR (o_eq hr.units) (pv 4) pe_int (by first | exact nomark _ | rfl)) (pw_or1 (pt_cmpR o_lt (pe_op o_mod (pv 0) pe_int) pe_int (by first | exact nomark _ | rfl))))) (pss_one (ps_ret (pe_f c_law_end_by hr (by omega) (pa_cons (pe_op o_div (pv 0) pe_int) (pa_cons (pv 1) pa_nil))))) pss_nil) (pss_cons (ps_set (i := 5) sc_law_formula_by.nd rfl (by first | exact Or.inl rfl | exact Or.inr rfl) (pe_ix ix_seq (pe_lst (pa_cons pe_str (pa_cons pe_str (pa_cons pe_str (pa_cons pe_str (pa_cons pe_str (pa_cons pe_str (pa_cons pe_str (pa_cons pe_str (pa_cons pe_str (pa_cons pe_str pa_nil))))))))))) (pe_op o_mod (pe_op o_div (pv 0) pe_int) (pe_ix ix_seq (pe_lst (pa_cons pe_int (pa_cons pe_int pa_nil))) (pe_callTy o_int (by rfl) T.z_int (by decide +kernel) (pa_cons (pv 3) pa_nil)) (fun _ _ => rfl))) (fun _ _ => rfl))) (pss_cons (ps_set (i := 6) sc_law_formula_by.nd rfl (by first | exact Or.inl rfl | exact Or.inr rfl) (pe_f c_law_formula_by hr (by omega) (pa_cons (pe_op o_add (pe_op o_mul (pv 0) pe_int) pe_int) (pa_cons (pv 1) (pa_cons (pv 2) (pa_cons (pv 3) (pa_cons (pe_op o_sub (pv 4) pe_int) pa_nil))))))) (pss_cons (ps_if (PW.pt (pw_and (pt_cmpR (o_eq hr.units) (pv 5) pe_str (by first | exact nomark _ | rfl)) (pw_and1 (pt_cmpR o_lt (pe_op o_mod (pe_op o_div (pv 0) pe_int) pe_int) pe_int (by first | exact nomark _ | rfl))))) (pss_one (ps_ret (pe_tup (pa_cons (pv 5) (pa_cons (pv 6) (pa_cons (pe_tup (pa_cons pe_str (pa_cons (pe_op o_add pe_int (pe_op o_mod (pe_op o_div (pv 0) pe_int) pe_int)) pa_nil))) pa_nil)))))) pss_nil) (pss_cons (ps_if (pt_cmpR (o_eq hr.units) (pv 5) pe_str (by first | exact nomark _ | rfl)) (pss_one (ps_ret (pe_tup (pa_cons (pv 5) (pa_cons (pv 6) (pa_cons (pe_f c_law_formula_by hr (by omega) (pa_cons (pe_op o_add (pe_op o_mul (pv 0) pe_int) pe_int) (pa_cons (pv 2) (pa_cons (pv 2) (pa_cons (pv 3) (pa_cons (pe_op o_sub (pv 4) pe_int) pa_nil)))))) pa_nil)))))) pss_nil) (pss_one (ps_ret (pe_tup (pa_cons (pv 5) (pa_cons (pv 6) (pa_cons (pe_f c_law_formula_by hr (by omega) (pa_cons (pe_op o_add (pe_op o_mul (pv 0) pe_int) pe_int) (pa_cons (pv 1) (pa_cons (pv 2) (pa_cons (pv 3) (pa_cons (pe_op o_sub (pv 4) pe_int) pa_nil)))))) pa_nil)))))))))))), pure_law_formula_by K n vs H Q E h⟩
theorem ok_law_deep_formula (T : Top K mg) : Cal P w K mg base 8 "_law_deep_formula" (sp_law_deep_formula K) := by
  have c_law_formula_by : Cal P w K mg base 7 "_law_formula_by" (sp_law_formula_by K 6) := ok_law_formula_by T 6
  have c_law_end_by : Cal P w K mg base 1 "_law_end_by" (sp_law_end_by K) := ok_law_end_by T
  have c_law_mixed : Cal P w K mg base 1 "_law_mixed" (sp_law_mixed K) := ok_law_mixed T
  exact cal_of (k := 7) T.f_law_deep_formula sc_law_deep_formula (by intro vs H Q E h; first | (obtain ⟨_, rfl, _⟩ := h; rfl) | (obtain ⟨_, _, rfl, _⟩ := h; rfl) | (obtain ⟨_, _, _, rfl, _⟩ := h; rfl) | (obtain ⟨_, _, _, _, rfl, _⟩ := h; rfl) | (obtain ⟨_, _, _, _, _, rfl, _⟩ := h; rfl) | (obtain ⟨_, _, _, _, _, _, rfl, _⟩ := h; rfl) | (obtain ⟨_, _, _, _, _, _, _, rfl, _⟩ := h; rfl) | (obtain ⟨_, _, _, _, _, _, _, _, rfl, _⟩ := h; rfl) | (obtain ⟨_, _, _, _, _, _, _, _, _, rfl, _⟩ := h; rfl) | (obtain ⟨_, _, _, _, _, _, _, _, _, _, rfl, _⟩ := h; rfl)) fun f cdv A outer s H vs Q E hr h => ⟨t_law_deep_formula K, PSs.nox (pss_cons (ps_if (pt_cmpR (o_ne hr.units) (pe_op o_mod (pv 0) pe_int) pe_int (by first | exact nomark _ | rfl)) (pss_one (ps_ret (pe_f c_law_formula_by hr (by decide) (pa_cons (pv 0) (pa_cons (pv 1) (pa_cons (pv 1) (pa_cons pe_bl (pa_cons (pe_op o_add pe_int (pe_op o_mod (pe_op o_div (pv 0) pe_int) pe_int)) pa_nil)))))))) pss_nil) (pss_cons (ps_set (i := 2) sc_law_deep_formula.nd rfl (by first | exact Or.inl rfl | exact Or.inr rfl) (pe_f c_law_end_by hr (by decide) (pa_cons (pv 0) (pa_cons (pv 1) pa_nil)))) (pss_cons (ps_set (i := 3) sc_law_deep_formula.nd rfl (by first | exact Or.inl rfl | exact Or.inr rfl) (pv 0)) (pss_cons (ps_for PassesOwn.never rfl (pi_range1 (by rfl) T.z_range (pa_cons (pe_op o_add pe_int (pe_op o_mod (pe_op o_div (pv 0) pe_int) pe_int)) pa_nil)) (pg_name (i := 4) sc_law_deep_formula.nd rfl (by first | exact Or.inl rfl | exact Or.inr rfl)) (pss_cons (ps_set (i := 3) sc_law_deep_formula.nd rfl (by first | exact Or.inl rfl | exact Or.inr rfl) (pe_f c_law_mixed hr (by decide) (pa_cons (pv 3) pa_nil))) (pss_cons (ps_set (i := 5) sc_law_deep_formula.nd rfl (by first | exact Or.inl rfl | exact Or.inr rfl) (pe_f c_law_end_by hr (by decide) (pa_cons (pe_op o_div (pv 3) pe_int) (pa_cons (pv 1) pa_nil)))) (pss_cons (ps_set (i := 6) sc_law_deep_formula.nd rfl (by first | exact Or.inl rfl | exact Or.inr rfl) (pe_ix ix_seq (pe_lst (pa_cons pe_str (pa_cons pe_str (pa_cons pe_str (pa_cons pe_str (pa_cons pe_str (pa_cons pe_str pa_nil))))))) (pe_op o_mod (pv 3) pe_int) (fun _ _ => rfl))) (pss_one (ps_set (i := 2) sc_law_deep_formula.nd rfl (by first | exact Or.inl rfl | exact Or.inr rfl) (pe_ix ix_seq (pe_lst (pa_cons (pe_tup (pa_cons (pv 6) (pa_cons (pv 2) (pa_cons (pv 5) pa_nil)))) (pa_cons (pe_tup (pa_cons (pv 6) (pa_cons (pv 5) (pa_cons (pv 2) pa_nil)))) pa_nil))) (pe_op o_mod (pe_op o_div (pv 3) pe_int) pe_int) (fun _ _ => rfl)))))))) (pss_one (ps_ret (pv 2))))))), pure_law_deep_formula K vs H Q E h⟩
theorem ok_put_together (T : Top K mg) : Cal P w K mg base 1 "put_together" (sp_put_together K) := by
  exact cal_of (k := 0) T.f_put_together sc_put_together (by intro vs H Q E h; first | (obtain ⟨_, rfl, _⟩ := h; rfl) | (obtain ⟨_, _, rfl, _⟩ := h; rfl) | (obtain ⟨_, _, _, rfl, _⟩ := h; rfl) | (obtain ⟨_, _, _, _, rfl, _⟩ := h; rfl) | (obtain ⟨_, _, _, _, _, rfl, _⟩ := h; rfl) | (obtain ⟨_, _, _, _, _, _, rfl, _⟩ := h; rfl) | (obtain ⟨_, _, _, _, _, _, _, rfl, _⟩ := h; rfl) | (obtain ⟨_, _, _, _, _, _, _, _, rfl, _⟩ := h; rfl) | (obtain ⟨_, _, _, _, _, _, _, _, _, rfl, _⟩ := h; rfl) | (obtain ⟨_, _, _, _, _, _, _, _, _, _, rfl, _⟩ := h; rfl)) fun f cdv A outer s H vs Q E hr h => ⟨t_put_together K, PSs.nox (pss_cons (ps_if (pt_cmpR (o_eq hr.units) (pv 0) pe_str (by first | exact nomark _ | rfl)) (pss_one (ps_ret (pe_op o_mod (pe_op o_add (pv 1) (pv 2)) (pe_globI (by rfl) T.g_LIMIT)))) pss_nil) (pss_cons (ps_if (pt_cmpR (o_eq hr.units) (pv 0) pe_str (by first | exact nomark _ | rfl)) (pss_one (ps_ret (pe_op o_mod (pe_op o_sub (pv 1) (pv 2)) (pe_globI (by rfl) T.g_LIMIT)))) pss_nil) (pss_cons (ps_if (pt_cmpR (o_eq hr.units) (pv 0) pe_str (by first | exact nomark _ | rfl)) (pss_one (ps_ret (pe_op o_mod (pe_op o_mul (pv 1) (pv 2)) (pe_globI (by rfl) T.g_LIMIT)))) pss_nil) (pss_cons (ps_if (pt_cmpR (o_eq hr.units) (pv 0) pe_str (by first | exact nomark _ | rfl)) (pss_one (ps_ret (pe_callTy o_int (by rfl) T.z_int (by decide +kernel) (pa_cons (pe_cmpR o_lt (pv 1) (pv 2) (by first | exact nomark _ | rfl)) pa_nil)))) pss_nil) (pss_cons (ps_if (pt_cmpR (o_eq hr.units) (pv 0) pe_str (by first | exact nomark _ | rfl)) (pss_one (ps_ret (pe_callTy o_int (by rfl) T.z_int (by decide +kernel) (pa_cons (pe_cmpR (o_eq hr.units) (pv 1) (pv 2) (by first | exact nomark _ | rfl)) pa_nil)))) pss_nil) (pss_cons (ps_if (pt_cmpR (o_eq hr.units) (pv 2) pe_int (by first | exact nomark _ | rfl)) (pss_one (ps_ret pe_non)) pss_nil) (pss_one (ps_ret (pe_op o_div (pv 1) (pv 2)))))))))), pure_put_together K vs H Q E h⟩
theorem ok_reckoned (T : Top K mg) : ∀ n : Nat, Cal P w K mg base (1 + n) "reckoned" (sp_reckoned K n)
  | 0 => cal_none T.f_reckoned no_reckoned
  | n + 1 => by
    have c_reckoned : Cal P w K mg base (1 + n) "reckoned" (sp_reckoned K n) := ok_reckoned T n
    have c_put_together : Cal P w K mg base 1 "put_together" (sp_put_together K) := ok_put_together T
    exact cal_of (k := 1 + n) T.f_reckoned sc_reckoned (by intro vs H Q E h; first | (obtain ⟨_, rfl, _⟩ := h; rfl) | (obtain ⟨_, _, rfl, _⟩ := h; rfl) | (obtain ⟨_, _, _, rfl, _⟩ := h; rfl) | (obtain ⟨_, _, _, _, rfl, _⟩ := h; rfl) | (obtain ⟨_, _, _, _, _, rfl, _⟩ := h; rfl) | (obtain ⟨_, _, _, _, _, _, rfl, _⟩ := h; rfl) | (obtain ⟨_, _, _, _, _, _, _, rfl, _⟩ := h; rfl) | (obtain ⟨_, _, _, _, _, _, _, _, rfl, _⟩ := h; rfl) | (obtain ⟨_, _, _, _, _, _, _, _, _, rfl, _⟩ := h; rfl) | (obtain ⟨_, _, _, _, _, _, _, _, _, _, rfl, _⟩ := h; rfl)) fun f cdv A outer s H vs Q E hr h => ⟨t_reckoned K n, PSs.nox (pss_cons (ps_if (pt_cmpR (o_eq hr.units) (pe_ix ix_seq (pv 0) pe_int (fun _ _ => rfl)) pe_str (by first | exact nomark _ | rfl)) (pss_one (ps_ret (pe_ix ix_seq (pv 0) pe_int (fun _ _ => rfl)))) pss_nil) (pss_cons (ps_if (pt_cmpR (o_eq hr.units) (pe_ix ix_seq (pv 0) pe_int (fun _ _ => rfl)) pe_str (by first | exact nomark _ | rfl)) (pss_one (ps_ret (pe_dget (hu_of hr) (pv 1) (pe_ix ix_seq (pv 0) pe_int (fun _ _ => rfl)) (fun _ _ => rfl)))) pss_nil) (pss_cons (ps_set (i := 2) sc_reckoned.nd rfl (by first | exact Or.inl rfl | exact Or.inr rfl) (pe_f c_reckoned hr (by omega) (pa_cons (pe_ix ix_seq (pv 0) pe_int (fun _ _ => rfl)) (pa_cons (pv 1) pa_nil)))) (pss_cons (ps_set (i := 3) sc_reckoned.nd rfl (by first | exact Or.inl rfl | exact Or.inr rfl) (pe_f c_reckoned hr (by omega) (pa_cons (pe_ix ix_seq (pv 0) pe_int (fun _ _ => rfl)) (pa_cons (pv 1) pa_nil)))) (pss_cons (ps_if (PW.pt (pw_or (pt_cmpR o_isN (pv 2) pe_non (by first | exact nomark _ | rfl)) (pw_or1 (pt_cmpR o_isN (pv 3) pe_non (by first | exact nomark _ | rfl))))) (pss_one (ps_ret pe_non)) pss_nil) (pss_one (ps_ret (pe_f c_put_together hr (by omega) (pa_cons (pe_ix ix_seq (pv 0) pe_int (fun _ _ => rfl)) (pa_cons (pv 2) (pa_cons (pv 3) pa_nil))))))))))), pure_reckoned K n vs H Q E h⟩
theorem ok_law_reckoned (T : Top K mg) : ∀ n : Nat, Cal P w K mg base (0 + n) "_law_reckoned" (sp_law_reckoned K n)
  | 0 => cal_none T.f_law_reckoned no_law_reckoned
  | n + 1 => by
    have c_law_reckoned : Cal P w K mg base (0 + n) "_law_reckoned" (sp_law_reckoned K n) := ok_law_reckoned T n
    exact cal_of (k := 0 + n) T.f_law_reckoned sc_law_reckoned (by intro vs H Q E h; first | (obtain ⟨_, rfl, _⟩ := h; rfl) | (obtain ⟨_, _, rfl, _⟩ := h; rfl) | (obtain ⟨_, _, _, rfl, _⟩ := h; rfl) | (obtain ⟨_, _, _, _, rfl, _⟩ := h; rfl) | (obtain ⟨_, _, _, _, _, rfl, _⟩ := h; rfl) | (obtain ⟨_, _, _, _, _, _, rfl, _⟩ := h; rfl) | (obtain ⟨_, _, _, _, _, _, _, rfl, _⟩ := h; rfl) | (obtain ⟨_, _, _, _, _, _, _, _, rfl, _⟩ := h; rfl) | (obtain ⟨_, _, _, _, _, _, _, _, _, rfl, _⟩ := h; rfl) | (obtain ⟨_, _, _, _, _, _, _, _, _, _, rfl, _⟩ := h; rfl)) fun f cdv A outer s H vs Q E hr h => ⟨t_law_reckoned K n, PSs.nox (pss_cons (ps_if (pt_cmpR (o_eq hr.units) (pe_ix ix_seq (pv 0) pe_int (fun _ _ => rfl)) pe_str (by first | exact nomark _ | rfl)) (pss_one (ps_ret (pe_ix ix_seq (pv 0) pe_int (fun _ _ => rfl)))) pss_nil) (pss_cons (ps_if (pt_cmpR (o_eq hr.units) (pe_ix ix_seq (pv 0) pe_int (fun _ _ => rfl)) pe_str (by first | exact nomark _ | rfl)) (pss_one (ps_ret (pe_dget (hu_of hr) (pv 1) (pe_ix ix_seq (pv 0) pe_int (fun _ _ => rfl)) (fun _ _ => rfl)))) pss_nil) (pss_cons (ps_set (i := 2) sc_law_reckoned.nd rfl (by first | exact Or.inl rfl | exact Or.inr rfl) (pe_f c_law_reckoned hr (by omega) (pa_cons (pe_ix ix_seq (pv 0) pe_int (fun _ _ => rfl)) (pa_cons (pv 1) pa_nil)))) (pss_cons (ps_set (i := 3) sc_law_reckoned.nd rfl (by first | exact Or.inl rfl | exact Or.inr rfl) (pe_f c_law_reckoned hr (by omega) (pa_cons (pe_ix ix_seq (pv 0) pe_int (fun _ _ => rfl)) (pa_cons (pv 1) pa_nil)))) (pss_cons (ps_if (PW.pt (pw_or (pt_cmpR o_isN (pv 2) pe_non (by first | exact nomark _ | rfl)) (pw_or (pt_cmpR o_isN (pv 3) pe_non (by first | exact nomark _ | rfl)) (pw_or1 (PW.pt (pw_and (pt_cmpR (o_eq hr.units) (pe_ix ix_seq (pv 0) pe_int (fun _ _ => rfl)) pe_str (by first | exact nomark _ | rfl)) (pw_and1 (pt_cmpR (o_eq hr.units) (pv 3) pe_int (by first | exact nomark _ | rfl))))))))) (pss_one (ps_ret pe_non)) pss_nil) (pss_cons (ps_if (pt_cmpR (o_eq hr.units) (pe_ix ix_seq (pv 0) pe_int (fun _ _ => rfl)) pe_str (by first | exact nomark _ | rfl)) (pss_one (ps_ret (pe_op o_div (pv 2) (pv 3)))) pss_nil) (pss_cons (ps_if (PW.pt (pw_or (pt_cmpR (o_eq hr.units) (pe_ix ix_seq (pv 0) pe_int (fun _ _ => rfl)) pe_str (by first | exact nomark _ | rfl)) (pw_or1 (pt_cmpR (o_eq hr.units) (pe_ix ix_seq (pv 0) pe_int (fun _ _ => rfl)) pe_str (by first | exact nomark _ | rfl))))) (pss_one (ps_ret (pe_callTy o_int (by rfl) T.z_int (by decide +kernel) (pa_cons (pe_or (pe_and (pe_cmpR o_lt (pv 2) (pv 3) (by first | exact nomark _ | rfl)) (pe_one (pe_cmpR (o_eq hr.units) (pe_ix ix_seq (pv 0) pe_int (fun _ _ => rfl)) pe_str (by first | exact nomark _ | rfl)))) (pe_one (pe_and (pe_cmpR (o_eq hr.units) (pv 2) (pv 3) (by first | exact nomark _ | rfl)) (pe_one (pe_cmpR (o_eq hr.units) (pe_ix ix_seq (pv 0) pe_int (fun _ _ => rfl)) pe_str (by first | exact nomark _ | rfl)))))) pa_nil)))) pss_nil) (pss_cons (ps_if (pt_cmpR (o_eq hr.units) (pe_ix ix_seq (pv 0) pe_int (fun _ _ => rfl)) pe_str (by first | exact nomark _ | rfl)) (pss_one (ps_ret (pe_op o_mod (pe_op o_mul (pv 2) (pv 3)) (pe_op o_pow pe_int pe_int)))) pss_nil) (pss_one (ps_ret (pe_op o_mod (pe_op o_add (pv 2) (pe_ix ix_seq (pe_lst (pa_cons (pv 3) (pa_cons (pe_un o_neg (pv 3)) pa_nil))) (pe_callTy o_int (by rfl) T.z_int (by decide +kernel) (pa_cons (pe_cmpR (o_eq hr.units) (pe_ix ix_seq (pv 0) pe_int (fun _ _ => rfl)) pe_str (by first | exact nomark _ | rfl)) pa_nil)) (fun _ _ => rfl))) (pe_op o_pow pe_int pe_int)))))))))))), pure_law_reckoned K n vs H Q E h⟩
theorem ok_law_whole (T : Top K mg) : Cal P w K mg base 1 "_law_whole" (sp_law_whole K) := by
  exact cal_of (k := 0) T.f_law_whole sc_law_whole (by intro vs H Q E h; first | (obtain ⟨_, rfl, _⟩ := h; rfl) | (obtain ⟨_, _, rfl, _⟩ := h; rfl) | (obtain ⟨_, _, _, rfl, _⟩ := h; rfl) | (obtain ⟨_, _, _, _, rfl, _⟩ := h; rfl) | (obtain ⟨_, _, _, _, _, rfl, _⟩ := h; rfl) | (obtain ⟨_, _, _, _, _, _, rfl, _⟩ := h; rfl) | (obtain ⟨_, _, _, _, _, _, _, rfl, _⟩ := h; rfl) | (obtain ⟨_, _, _, _, _, _, _, _, rfl, _⟩ := h; rfl) | (obtain ⟨_, _, _, _, _, _, _, _, _, rfl, _⟩ := h; rfl) | (obtain ⟨_, _, _, _, _, _, _, _, _, _, rfl, _⟩ := h; rfl)) fun f cdv A outer s H vs Q E hr h => ⟨t_law_whole K, PSs.nox (pss_one (ps_ret (pe_and (pe_callB o_isi (by rfl) T.z_isinstance (by decide +kernel) (pa_cons (pv 0) (pa_cons (pe_bltn (by rfl) T.z_int (by decide +kernel) rfl) pa_nil))) (pe_one (pe_not (pe_callB o_isi (by rfl) T.z_isinstance (by decide +kernel) (pa_cons (pv 0) (pa_cons (pe_bltn (by rfl) T.z_bool (by decide +kernel) rfl) pa_nil)))))))), pure_law_whole K vs H Q E h⟩
theorem ok_law {fa : Addr} {fd : FuncData} (T : Top K mg) (F : Fun K "law" "law" s_k02 fa fd) : FnOk P w K mg base CX0 20 fa fd ["_law_script"] (sp_k02 K) := by
  have c_law_names : Cal P w K mg base 3 "_law_names" (sp_law_names K) := ok_law_names T
  have c_law_cell_at : Cal P w K mg base 1 "_law_cell_at" (sp_law_cell_at K) := ok_law_cell_at T
  have c_law_deep_formula : Cal P w K mg base 8 "_law_deep_formula" (sp_law_deep_formula K) := ok_law_deep_formula T
  have c_law_mixed : Cal P w K mg base 1 "_law_mixed" (sp_law_mixed K) := ok_law_mixed T
  have c_reckoned : Cal P w K mg base 19 "reckoned" (sp_reckoned K 18) := ok_reckoned T 18
  have c_law_reckoned : Cal P w K mg base 18 "_law_reckoned" (sp_law_reckoned K 18) := ok_law_reckoned T 18
  have c_law_whole : Cal P w K mg base 1 "_law_whole" (sp_law_whole K) := ok_law_whole T
  exact F.ok sc_k02 (by intro vs H Q E h; first | (obtain ⟨_, rfl, _⟩ := h; rfl) | (obtain ⟨_, _, rfl, _⟩ := h; rfl) | (obtain ⟨_, _, _, rfl, _⟩ := h; rfl) | (obtain ⟨_, _, _, _, rfl, _⟩ := h; rfl) | (obtain ⟨_, _, _, _, _, rfl, _⟩ := h; rfl) | (obtain ⟨_, _, _, _, _, _, rfl, _⟩ := h; rfl) | (obtain ⟨_, _, _, _, _, _, _, rfl, _⟩ := h; rfl) | (obtain ⟨_, _, _, _, _, _, _, _, rfl, _⟩ := h; rfl) | (obtain ⟨_, _, _, _, _, _, _, _, _, rfl, _⟩ := h; rfl) | (obtain ⟨_, _, _, _, _, _, _, _, _, _, rfl, _⟩ := h; rfl)) fun cdv A outer s H vs Q E hr h => ⟨t_k02 K, PSs.nox (pss_cons (ps_set (i := 1) sc_k02.nd rfl (by first | exact Or.inl rfl | exact Or.inr rfl) (pe_f c_law_names hr (by decide) (pa_cons (pe_f c_law_cell_at hr (by decide) (pa_cons (pv 0) (pa_cons pe_int pa_nil))) (pa_cons (pe_f c_law_cell_at hr (by decide) (pa_cons (pv 0) (pa_cons pe_int pa_nil))) pa_nil)))) (pss_cons (ps_set (i := 2) sc_k02.nd rfl (by first | exact Or.inl rfl | exact Or.inr rfl) (pe_f c_law_deep_formula hr (by decide) (pa_cons (pe_f c_law_cell_at hr (by decide) (pa_cons (pv 0) (pa_cons pe_int pa_nil))) (pa_cons (pv 1) pa_nil)))) (pss_cons (ps_for PassesOwn.never rfl (pi_range1 (by rfl) T.z_range (pa_cons pe_int pa_nil)) (pg_name (i := 3) sc_k02.nd rfl (by first | exact Or.inl rfl | exact Or.inr rfl)) (pss_cons (ps_set (i := 4) sc_k02.nd rfl (by first | exact Or.inl rfl | exact Or.inr rfl) pe_dnewK) (pss_cons (ps_for PassesOwn.never rfl (pi_enum (by rfl) T.z_enumerate (pa_cons (pv 1) pa_nil)) (pg_tup rfl (pgs_cons (pg_name (i := 5) sc_k02.nd rfl (by first | exact Or.inl rfl | exact Or.inr rfl)) (pgs_cons (pg_name (i := 6) sc_k02.nd rfl (by first | exact Or.inl rfl | exact Or.inr rfl)) pgs_nil))) (pss_cons (ps_set (i := 10) sc_k02.nd rfl (by first | exact Or.inl rfl | exact Or.inr rfl) (pe_f c_law_mixed hr (by decide) (pa_cons (pe_op o_add (pe_f c_law_cell_at hr (by decide) (pa_cons (pv 0) (pa_cons (pe_op o_add pe_int (pv 5)) pa_nil))) (pv 3)) pa_nil))) (pss_one (ps_dput (hu_of hr) (pv 4) (pv 6) (pe_ix ix_seq (pe_lst (pa_cons (pe_op o_mod (pe_op o_div (pv 10) pe_int) pe_int) (pa_cons (pe_op o_mod (pe_op o_div (pv 10) pe_int) (pe_op o_pow pe_int pe_int)) pa_nil))) (pe_callTy o_int (by rfl) T.z_int (by decide +kernel) (pa_cons (pe_cmpR o_gt (pe_op o_mod (pv 10) pe_int) pe_int (by first | exact nomark _ | rfl)) pa_nil)) (fun _ _ => rfl)) rfl)))) (pss_cons (ps_set (i := 7) sc_k02.nd rfl (by first | exact Or.inl rfl | exact Or.inr rfl) (pe_callTy o_dict (by rfl) T.z_dict (by decide +kernel) (pa_cons (pv 4) pa_nil))) (pss_cons (ps_set (i := 8) sc_k02.nd rfl (by first | exact Or.inl rfl | exact Or.inr rfl) (pe_f c_reckoned hr (by decide) (pa_cons (pv 2) (pa_cons (pv 7) pa_nil)))) (pss_cons (ps_set (i := 9) sc_k02.nd rfl (by first | exact Or.inl rfl | exact Or.inr rfl) (pe_f c_law_reckoned hr (by decide) (pa_cons (pv 2) (pa_cons (pv 4) pa_nil)))) (pss_cons (ps_if (PW.pt (pw_or (pt_cmpR (o_ne hr.units) (pv 7) (pv 4) (by first | exact nomark _ | rfl)) (pw_or1 (PW.pt (pw_and (pt_cmpR o_isN (pv 9) pe_non (by first | exact nomark _ | rfl)) (pw_and1 (pt_cmpR o_notN (pv 8) pe_non (by first | exact nomark _ | rfl)))))))) (pss_one (ps_ret pe_bl)) pss_nil) (pss_one (ps_if (PW.pt (pw_and (pt_cmpR o_notN (pv 9) pe_non (by first | exact nomark _ | rfl)) (pw_and1 (PW.pt (pw_or (pt_not (pt_val (pe_f c_law_whole hr (by decide) (pa_cons (pv 8) pa_nil)))) (pw_or1 (pt_cmpR (o_ne hr.units) (pv 8) (pv 9) (by first | exact nomark _ | rfl)))))))) (pss_one (ps_ret pe_bl)) pss_nil))))))))) (pss_one (ps_ret pe_bl))))), pure_k02 K vs H Q E h⟩
end
theorem all_mk {P : Program} {w : World} {K : PySem.W.Frag} {h : Heap} {mg : Str → Option Value} {fa : Addr} (X : K.In h) (G : h.Ns mainGlobals mg) (hfa : mg "law" = some (.ref fa))
    {f0 f1 f2 f3 f4 f5 f6 f7 f8 f9 f10 f11 f12 : Addr} {od0 an0 od1 an1 od2 an2 od3 an3 od4 an4 od5 an5 od6 an6 od7 an7 od8 an8 od9 an9 od10 an10 od11 an11 od12 an12 : Option Addr} {sl0 sl1 sl2 sl3 sl4 sl5 sl6 sl7 sl8 sl9 sl10 sl11 sl12 : Array (Option Value)} {oc0 kV0 dc0 pm0 cd0 ct0 oc1 kV1 dc1 pm1 cd1 ct1 oc2 kV2 dc2 pm2 cd2 ct2 oc3 kV3 dc3 pm3 cd3 ct3 oc4 kV4 dc4 pm4 cd4 ct4 oc5 kV5 dc5 pm5 cd5 ct5 oc6 kV6 dc6 pm6 cd6 ct6 oc7 kV7 dc7 pm7 cd7 ct7 oc8 kV8 dc8 pm8 cd8 ct8 oc9 kV9 dc9 pm9 cd9 ct9 oc10 kV10 dc10 pm10 cd10 ct10 oc11 kV11 dc11 pm11 cd11 ct11 oc12 kV12 dc12 pm12 cd12 ct12 : Value}
    (a0 : PySem.W.nsIn K mainGlobals "put_together" = some (some (.ref f0))) (l0 : K.lookup f0 = some ⟨oc0, od0, .func (PySem.W.fnOf "put_together" "put_together" (defArgs s_put_together) (defBody s_put_together) (defScope s_put_together) .none kV0 dc0 pm0 an0 cd0 ct0), sl0⟩) (c0 : PySem.W.codeIn K cd0 "put_together" = true) (k0 : PySem.W.keepIn K (.ref f0) = true)
    (a1 : PySem.W.nsIn K mainGlobals "reckoned" = some (some (.ref f1))) (l1 : K.lookup f1 = some ⟨oc1, od1, .func (PySem.W.fnOf "reckoned" "reckoned" (defArgs s_reckoned) (defBody s_reckoned) (defScope s_reckoned) .none kV1 dc1 pm1 an1 cd1 ct1), sl1⟩) (c1 : PySem.W.codeIn K cd1 "reckoned" = true) (k1 : PySem.W.keepIn K (.ref f1) = true)
    (a2 : PySem.W.nsIn K mainGlobals "_law_whole" = some (some (.ref f2))) (l2 : K.lookup f2 = some ⟨oc2, od2, .func (PySem.W.fnOf "_law_whole" "_law_whole" (defArgs s_law_whole) (defBody s_law_whole) (defScope s_law_whole) .none kV2 dc2 pm2 an2 cd2 ct2), sl2⟩) (c2 : PySem.W.codeIn K cd2 "_law_whole" = true) (k2 : PySem.W.keepIn K (.ref f2) = true)
    (a3 : PySem.W.nsIn K mainGlobals "_law_cell_at" = some (some (.ref f3))) (l3 : K.lookup f3 = some ⟨oc3, od3, .func (PySem.W.fnOf "_law_cell_at" "_law_cell_at" (defArgs s_law_cell_at) (defBody s_law_cell_at) (defScope s_law_cell_at) .none kV3 dc3 pm3 an3 cd3 ct3), sl3⟩) (c3 : PySem.W.codeIn K cd3 "_law_cell_at" = true) (k3 : PySem.W.keepIn K (.ref f3) = true)
    (a4 : PySem.W.nsIn K mainGlobals "_law_mixed" = some (some (.ref f4))) (l4 : K.lookup f4 = some ⟨oc4, od4, .func (PySem.W.fnOf "_law_mixed" "_law_mixed" (defArgs s_law_mixed) (defBody s_law_mixed) (defScope s_law_mixed) .none kV4 dc4 pm4 an4 cd4 ct4), sl4⟩) (c4 : PySem.W.codeIn K cd4 "_law_mixed" = true) (k4 : PySem.W.keepIn K (.ref f4) = true)
    (a5 : PySem.W.nsIn K mainGlobals "_law_name_by" = some (some (.ref f5))) (l5 : K.lookup f5 = some ⟨oc5, od5, .func (PySem.W.fnOf "_law_name_by" "_law_name_by" (defArgs s_law_name_by) (defBody s_law_name_by) (defScope s_law_name_by) .none kV5 dc5 pm5 an5 cd5 ct5), sl5⟩) (c5 : PySem.W.codeIn K cd5 "_law_name_by" = true) (k5 : PySem.W.keepIn K (.ref f5) = true)
    (a6 : PySem.W.nsIn K mainGlobals "_law_twin" = some (some (.ref f6))) (l6 : K.lookup f6 = some ⟨oc6, od6, .func (PySem.W.fnOf "_law_twin" "_law_twin" (defArgs s_law_twin) (defBody s_law_twin) (defScope s_law_twin) .none kV6 dc6 pm6 an6 cd6 ct6), sl6⟩) (c6 : PySem.W.codeIn K cd6 "_law_twin" = true) (k6 : PySem.W.keepIn K (.ref f6) = true)
    (a7 : PySem.W.nsIn K mainGlobals "_law_names" = some (some (.ref f7))) (l7 : K.lookup f7 = some ⟨oc7, od7, .func (PySem.W.fnOf "_law_names" "_law_names" (defArgs s_law_names) (defBody s_law_names) (defScope s_law_names) .none kV7 dc7 pm7 an7 cd7 ct7), sl7⟩) (c7 : PySem.W.codeIn K cd7 "_law_names" = true) (k7 : PySem.W.keepIn K (.ref f7) = true)
    (a8 : PySem.W.nsIn K mainGlobals "_law_end_by" = some (some (.ref f8))) (l8 : K.lookup f8 = some ⟨oc8, od8, .func (PySem.W.fnOf "_law_end_by" "_law_end_by" (defArgs s_law_end_by) (defBody s_law_end_by) (defScope s_law_end_by) .none kV8 dc8 pm8 an8 cd8 ct8), sl8⟩) (c8 : PySem.W.codeIn K cd8 "_law_end_by" = true) (k8 : PySem.W.keepIn K (.ref f8) = true)
    (a9 : PySem.W.nsIn K mainGlobals "_law_formula_by" = some (some (.ref f9))) (l9 : K.lookup f9 = some ⟨oc9, od9, .func (PySem.W.fnOf "_law_formula_by" "_law_formula_by" (defArgs s_law_formula_by) (defBody s_law_formula_by) (defScope s_law_formula_by) .none kV9 dc9 pm9 an9 cd9 ct9), sl9⟩) (c9 : PySem.W.codeIn K cd9 "_law_formula_by" = true) (k9 : PySem.W.keepIn K (.ref f9) = true)
    (a10 : PySem.W.nsIn K mainGlobals "_law_deep_formula" = some (some (.ref f10))) (l10 : K.lookup f10 = some ⟨oc10, od10, .func (PySem.W.fnOf "_law_deep_formula" "_law_deep_formula" (defArgs s_law_deep_formula) (defBody s_law_deep_formula) (defScope s_law_deep_formula) .none kV10 dc10 pm10 an10 cd10 ct10), sl10⟩) (c10 : PySem.W.codeIn K cd10 "_law_deep_formula" = true) (k10 : PySem.W.keepIn K (.ref f10) = true)
    (a11 : PySem.W.nsIn K mainGlobals "_law_reckoned" = some (some (.ref f11))) (l11 : K.lookup f11 = some ⟨oc11, od11, .func (PySem.W.fnOf "_law_reckoned" "_law_reckoned" (defArgs s_law_reckoned) (defBody s_law_reckoned) (defScope s_law_reckoned) .none kV11 dc11 pm11 an11 cd11 ct11), sl11⟩) (c11 : PySem.W.codeIn K cd11 "_law_reckoned" = true) (k11 : PySem.W.keepIn K (.ref f11) = true)
    (a12 : PySem.W.nsIn K mainGlobals "law" = some (some (.ref f12))) (l12 : K.lookup f12 = some ⟨oc12, od12, .func (PySem.W.fnOf "law" "law" (defArgs s_k02) (defBody s_k02) (defScope s_k02) .none kV12 dc12 pm12 an12 cd12 ct12), sl12⟩) (c12 : PySem.W.codeIn K cd12 "law" = true) (k12 : PySem.W.keepIn K (.ref f12) = true)
    (z_int : PySem.W.nsIn K mainGlobals "int" = some none)
    (z_isinstance : PySem.W.nsIn K mainGlobals "isinstance" = some none)
    (z_bool : PySem.W.nsIn K mainGlobals "bool" = some none)
    (z_len : PySem.W.nsIn K mainGlobals "len" = some none)
    (z_range : PySem.W.nsIn K mainGlobals "range" = some none)
    (z_enumerate : PySem.W.nsIn K mainGlobals "enumerate" = some none)
    (z_dict : PySem.W.nsIn K mainGlobals "dict" = some none)
    {t_LIMIT : Tok} (g_LIMIT : PySem.W.nsIn K mainGlobals "LIMIT" = some (some (.int 1000000 t_LIMIT)))
    : ∃ fd : FuncData, (∀ (s : Shared) (v : Value), BindsTo s fd ⟨[v], []⟩ [("_law_script", v)]) ∧ ∀ base : Heap, K.In base → base.Ns mainGlobals mg → FnOk P w K mg base CX0 20 fa fd ["_law_script"] (sp_k02 K) := by
  have e := hfa.symm.trans (PySem.W.mg_of X G a12)
  cases e
  have d0 : DefAt K mg "put_together" s_put_together ["sign", "one", "other"] := ⟨⟨f0, _, fun_mk (st := s_put_together) l0 c0 k0, PySem.W.mg_of X G a0, (fun_mk (st := s_put_together) l0 c0 k0).binds (ps := ["sign", "one", "other"]) fun _ _ _ _ _ _ us hl => match us, hl with | [_, _, _], _ => rfl⟩⟩
  have d1 : DefAt K mg "reckoned" s_reckoned ["formula", "values"] := ⟨⟨f1, _, fun_mk (st := s_reckoned) l1 c1 k1, PySem.W.mg_of X G a1, (fun_mk (st := s_reckoned) l1 c1 k1).binds (ps := ["formula", "values"]) fun _ _ _ _ _ _ us hl => match us, hl with | [_, _], _ => rfl⟩⟩
  have d2 : DefAt K mg "_law_whole" s_law_whole ["_law_found"] := ⟨⟨f2, _, fun_mk (st := s_law_whole) l2 c2 k2, PySem.W.mg_of X G a2, (fun_mk (st := s_law_whole) l2 c2 k2).binds (ps := ["_law_found"]) fun _ _ _ _ _ _ us hl => match us, hl with | [_], _ => rfl⟩⟩
  have d3 : DefAt K mg "_law_cell_at" s_law_cell_at ["_law_script", "_law_k"] := ⟨⟨f3, _, fun_mk (st := s_law_cell_at) l3 c3 k3, PySem.W.mg_of X G a3, (fun_mk (st := s_law_cell_at) l3 c3 k3).binds (ps := ["_law_script", "_law_k"]) fun _ _ _ _ _ _ us hl => match us, hl with | [_, _], _ => rfl⟩⟩
  have d4 : DefAt K mg "_law_mixed" s_law_mixed ["_law_number"] := ⟨⟨f4, _, fun_mk (st := s_law_mixed) l4 c4 k4, PySem.W.mg_of X G a4, (fun_mk (st := s_law_mixed) l4 c4 k4).binds (ps := ["_law_number"]) fun _ _ _ _ _ _ us hl => match us, hl with | [_], _ => rfl⟩⟩
  have d5 : DefAt K mg "_law_name_by" s_law_name_by ["_law_cell"] := ⟨⟨f5, _, fun_mk (st := s_law_name_by) l5 c5 k5, PySem.W.mg_of X G a5, (fun_mk (st := s_law_name_by) l5 c5 k5).binds (ps := ["_law_cell"]) fun _ _ _ _ _ _ us hl => match us, hl with | [_], _ => rfl⟩⟩
  have d6 : DefAt K mg "_law_twin" s_law_twin ["_law_name", "_law_cell"] := ⟨⟨f6, _, fun_mk (st := s_law_twin) l6 c6 k6, PySem.W.mg_of X G a6, (fun_mk (st := s_law_twin) l6 c6 k6).binds (ps := ["_law_name", "_law_cell"]) fun _ _ _ _ _ _ us hl => match us, hl with | [_, _], _ => rfl⟩⟩
  have d7 : DefAt K mg "_law_names" s_law_names ["_law_one", "_law_other"] := ⟨⟨f7, _, fun_mk (st := s_law_names) l7 c7 k7, PySem.W.mg_of X G a7, (fun_mk (st := s_law_names) l7 c7 k7).binds (ps := ["_law_one", "_law_other"]) fun _ _ _ _ _ _ us hl => match us, hl with | [_, _], _ => rfl⟩⟩
  have d8 : DefAt K mg "_law_end_by" s_law_end_by ["_law_number", "_law_names_here"] := ⟨⟨f8, _, fun_mk (st := s_law_end_by) l8 c8 k8, PySem.W.mg_of X G a8, (fun_mk (st := s_law_end_by) l8 c8 k8).binds (ps := ["_law_number", "_law_names_here"]) fun _ _ _ _ _ _ us hl => match us, hl with | [_, _], _ => rfl⟩⟩
  have d9 : DefAt K mg "_law_formula_by" s_law_formula_by ["_law_number", "_law_names_here", "_law_low", "_law_divide", "_law_left"] := ⟨⟨f9, _, fun_mk (st := s_law_formula_by) l9 c9 k9, PySem.W.mg_of X G a9, (fun_mk (st := s_law_formula_by) l9 c9 k9).binds (ps := ["_law_number", "_law_names_here", "_law_low", "_law_divide", "_law_left"]) fun _ _ _ _ _ _ us hl => match us, hl with | [_, _, _, _, _], _ => rfl⟩⟩
  have d10 : DefAt K mg "_law_deep_formula" s_law_deep_formula ["_law_cell", "_law_names_here"] := ⟨⟨f10, _, fun_mk (st := s_law_deep_formula) l10 c10 k10, PySem.W.mg_of X G a10, (fun_mk (st := s_law_deep_formula) l10 c10 k10).binds (ps := ["_law_cell", "_law_names_here"]) fun _ _ _ _ _ _ us hl => match us, hl with | [_, _], _ => rfl⟩⟩
  have d11 : DefAt K mg "_law_reckoned" s_law_reckoned ["_law_formula", "_law_values"] := ⟨⟨f11, _, fun_mk (st := s_law_reckoned) l11 c11 k11, PySem.W.mg_of X G a11, (fun_mk (st := s_law_reckoned) l11 c11 k11).binds (ps := ["_law_formula", "_law_values"]) fun _ _ _ _ _ _ us hl => match us, hl with | [_, _], _ => rfl⟩⟩
  have T : Top K mg := ⟨d0, d1, d2, d3, d4, d5, d6, d7, d8, d9, d10, d11, PySem.W.mg_none_of X G z_int, PySem.W.mg_none_of X G z_isinstance, PySem.W.mg_none_of X G z_bool, PySem.W.mg_none_of X G z_len, PySem.W.mg_none_of X G z_range, PySem.W.mg_none_of X G z_enumerate, PySem.W.mg_none_of X G z_dict, ⟨_, PySem.W.mg_of X G g_LIMIT⟩⟩
  exact ⟨PySem.W.fnOf "law" "law" (defArgs s_k02) (defBody s_k02) (defScope s_k02) .none kV12 dc12 pm12 an12 cd12 ct12, fun s v => .of_eq rfl, fun base _ _ => ok_law T (fun_mk (st := s_k02) l12 c12 k12)⟩
theorem walk {l : PySem.W.OpenLaw} {q : Program} {loose : List Str} {XP : (Str → Option Value) → Heap → Prop} {YP : World → Heap → Prop} {d : DefRec} {K : Params → PySem.W.Frag} (hn : l.most = some 63) (hdf : d.params.defaults = [])
    (hY : ∀ (w : World) (h : Heap), YP w h → (K w.params).In h)
    (F : ∀ (w : World) (mg : Str → Option Value) (fa : Addr) (h : Heap), (K w.params).In h → h.Ns mainGlobals mg → mg d.name = some (.ref fa) →
      ∃ fd : FuncData, (∀ (s : Shared) (u : Value), BindsTo s fd ⟨[u], []⟩ [("_law_script", u)]) ∧ ∀ base : Heap, (K w.params).In base → base.Ns mainGlobals mg → FnOk l.prog w (K w.params) mg base CX0 20 fa fd ["_law_script"] (sp_k02 (K w.params))) :
    PySem.W.WalkO q loose XP YP l.row.toRowW d [] (fun f vs => PySem.call f vs) :=
  L2.walk_of (n := 63) (k := 20) (x := "_law_script") (CX := fun _ => CX0) (sp := fun w => sp_k02 (K w.params)) hn (by decide) hdf ⟨rfl, by decide, by decide⟩ hY F (fun w H a ns hl ho hS => law_in_k02 (K w.params) H a ns hl hS) fun _ _ _ _ _ z => z
end Hu
open PySem PySem.W PyProof.Rows
set_option maxRecDepth 100000 in
set_option maxHeartbeats 0 in
theorem PySem.Challenge.cw_hushkind_k02_formulas_reckoned_holds : PySem.Challenge.rw_hushkind_k02_formulas_reckoned.Holds := by
  w_on; o_law; k_head; (case hw => w_witness2)
  k_fill
  refine Hu.walk (l := PySem.Challenge.rw_hushkind_k02_formulas_reckoned) rfl rfl (fun w h Y => PySem.W.kIn_of Y) ?F
  case F =>
    intro w mg fa h KX G hmg
    refine' Hu.all_mk KX G hmg ?a0 ?l0 ?c0 ?k0 ?a1 ?l1 ?c1 ?k1 ?a2 ?l2 ?c2 ?k2 ?a3 ?l3 ?c3 ?k3 ?a4 ?l4 ?c4 ?k4 ?a5 ?l5 ?c5 ?k5 ?a6 ?l6 ?c6 ?k6 ?a7 ?l7 ?c7 ?k7 ?a8 ?l8 ?c8 ?k8 ?a9 ?l9 ?c9 ?k9 ?a10 ?l10 ?c10 ?k10 ?a11 ?l11 ?c11 ?k11 ?a12 ?l12 ?c12 ?k12 ?z_int ?z_isinstance ?z_bool ?z_len ?z_range ?z_enumerate ?z_dict ?g_LIMIT
    (case a0 => k_is)
    (case l0 => k_is)
    (case c0 => k_is)
    (case k0 => k_is)
    (case a1 => k_is)
    (case l1 => k_is)
    (case c1 => k_is)
    (case k1 => k_is)
    (case a2 => k_is)
    (case l2 => k_is)
    (case c2 => k_is)
    (case k2 => k_is)
    (case a3 => k_is)
    (case l3 => k_is)
    (case c3 => k_is)
    (case k3 => k_is)
    (case a4 => k_is)
    (case l4 => k_is)
    (case c4 => k_is)
    (case k4 => k_is)
    (case a5 => k_is)
    (case l5 => k_is)
    (case c5 => k_is)
    (case k5 => k_is)
    (case a6 => k_is)
    (case l6 => k_is)
    (case c6 => k_is)
    (case k6 => k_is)
    (case a7 => k_is)
    (case l7 => k_is)
    (case c7 => k_is)
    (case k7 => k_is)
    (case a8 => k_is)
    (case l8 => k_is)
    (case c8 => k_is)
    (case k8 => k_is)
    (case a9 => k_is)
    (case l9 => k_is)
    (case c9 => k_is)
    (case k9 => k_is)
    (case a10 => k_is)
    (case l10 => k_is)
    (case c10 => k_is)
    (case k10 => k_is)
    (case a11 => k_is)
    (case l11 => k_is)
    (case c11 => k_is)
    (case k11 => k_is)
    (case a12 => k_is)
    (case l12 => k_is)
    (case c12 => k_is)
    (case k12 => k_is)
    (case z_int => k_is)
    (case z_isinstance => k_is)
    (case z_bool => k_is)
    (case z_len => k_is)
    (case z_range => k_is)
    (case z_enumerate => k_is)
    (case z_dict => k_is)
    (case g_LIMIT => k_is)
#print axioms PySem.Challenge.cw_hushkind_k02_formulas_reckoned_holds

