import PyProof.Rows.All
import Wide.All
import OpenK.AllK
import Wide.FinOn
import HandS.ForMost
import HandS.ForExc
import HandS.Codes
import HandS.Style
import HandS.Wide
import HandS.IsInst
import HandS.TupAny
import PySem.Challenge.RW_strikewheel_k02_turned_and_in_the_glass
set_option Elab.async false
set_option linter.all false
set_option maxRecDepth 100000
set_option maxHeartbeats 4000000
set_option exponentiation.threshold 2000
/-! The layer of all laws: names for readings, calls by their promises, texts, draws. -/
namespace Sw
open PySem PySem.Spec PyProof.Rows L2 SX

/-! ### names for what operators and built-ins read -/
abbrev rAdd : R2 := rI0 fun i j => .int (i + j)
abbrev rSub : R2 := rI0 fun i j => .int (i - j)
abbrev rMulW : R2 := rI CMulW fun i j => .int (i * j)
abbrev rDivW : R2 := rI CDivW fun i j => .int (i / j)
abbrev rMod : R2 := rI (fun _ j => 0 < j) fun i j => .int (i % j)
abbrev rPow : R2 := rI CPow fun i j => .int (i ^ j.toNat)
abbrev rNeg : V → Hp → VK → Prop := rU fun i => .int (-i)
abbrev rLt : R2 := rI0 fun i j => .bl (decide (i < j))
abbrev rLe : R2 := rI0 fun i j => .bl (decide (i ≤ j))
abbrev rGt : R2 := rI0 fun i j => .bl (decide (j < i))
abbrev rGe : R2 := rI0 fun i j => .bl (decide (j ≤ i))
abbrev rLtS : R2 := fun x y H Q => ∃ i j, x = .str i ∧ y = .str j ∧ Q (.bl (decide (i.cps.toList < j.cps.toList))) H
abbrev rLeS : R2 := fun x y H Q => ∃ i j, x = .str i ∧ y = .str j ∧ Q (.bl (!decide (j.cps.toList < i.cps.toList))) H
abbrev rGtS : R2 := fun x y H Q => ∃ i j, x = .str i ∧ y = .str j ∧ Q (.bl (decide (j.cps.toList < i.cps.toList))) H
abbrev rGeS : R2 := fun x y H Q => ∃ i j, x = .str i ∧ y = .str j ∧ Q (.bl (!decide (i.cps.toList < j.cps.toList))) H
abbrev rAddS : R2 := fun x y H Q => ∃ i j, x = .str i ∧ y = .str j ∧ i.length + j.length ≤ sizeLine ∧ Q (.str (i ++ j)) H
abbrev rInSign : R2 := fun x y H Q => ∃ (c : Nat) (z : Str), x = .str ⟨#[c]⟩ ∧ y = .str z ∧ Q (.bl (decide (c ∈ z.cps.toList))) H
abbrev rNotInSign : R2 := fun x y H Q => ∃ (c : Nat) (z : Str), x = .str ⟨#[c]⟩ ∧ y = .str z ∧ Q (.bl (!decide (c ∈ z.cps.toList))) H
abbrev rIsNn : R2 := fun x y H Q => y = .non ∧ Q (.bl (decide (x = .non))) H
abbrev rNotNn : R2 := fun x y H Q => y = .non ∧ Q (.bl (!decide (x = .non))) H
abbrev RC := List V → Hp → VK → Prop
abbrev rLenStr : RC := fun xs H Q => ∃ z, xs = [.str z] ∧ z.length ≤ sizeLine ∧ Q (.int z.length) H
abbrev rLenSq (K : PySem.W.Frag) : RC := fun xs H Q => ∃ p ys, xs = [.ref p] ∧ (SqL K H p ys ∨ SqT K H p ys) ∧ Q (.int ys.length) H
abbrev rAbs : RC := fun xs H Q => ∃ i, xs = [.int i] ∧ Q (.int (if i < 0 then -i else i)) H
abbrev rMax2 : RC := fun xs H Q => ∃ i j, xs = [.int i, .int j] ∧ Q (.int (if j > i then j else i)) H
abbrev rMin2 : RC := fun xs H Q => ∃ i j, xs = [.int i, .int j] ∧ Q (.int (if j < i then j else i)) H
abbrev rInt1 : RC := fun xs H Q => (∃ i, xs = [.int i] ∧ Q (.int i) H) ∨ ∃ k, xs = [.bl k] ∧ Q (.int (if k then 1 else 0)) H
abbrev rListOf (K : PySem.W.Frag) : RC := fun xs H Q => ∃ p ys, xs = [.ref p] ∧ (SqL K H p ys ∨ SqT K H p ys) ∧ ∀ l, H l = none → Q (.ref l) (upd H l (.lst ys))
abbrev rStrInt : RC := fun xs H Q => ∃ i, xs = [.int i] ∧ i.natAbs.log2 < 1920 ∧ Q (.str (toString i)) H
abbrev rJoin (K : PySem.W.Frag) : V → List V → Hp → VK → Prop := fun x xs H Q => ∃ a p, ∃ ys : List Str, x = .str a ∧ xs = [.ref p] ∧ (SqL K H p (ys.map V.str) ∨ SqT K H p (ys.map V.str)) ∧ (ys.map (·.length)).sum + ys.length * a.length ≤ 16777216 ∧ Q (.str (Txt.join a ys)) H

/-! ### calls by promises -/
/-- the def under the name x keeps sp, by level k; nothing leaves it -/
structure Cal (P : Program) (w : World) (K : PySem.W.Frag) (mg : Str → Option Value) (base : Heap) (k : Nat) (x : Str) (sp : Sp) : Prop where
  ex : ∃ (f : Addr) (fd : FuncData) (ps : List Str), FnOk P w K mg base CX0 k f fd ps sp ∧ mg x = some (.ref f) ∧ PySem.W.keepIn K (.ref f) = true ∧ Binds K fd ps []
section
variable {X : Cx} {k j : Nat} {x : Str} {sp : Sp} {p pos : Pos} {e : Expr} {es : List Expr} {t : TA}
theorem pe_cal (c : Cal X.prog X.w X.K X.mg X.base k x sp) (hr : Room j X.A) (hk : k ≤ j) (hg : Gl X x) (ha : PA X (e :: es) t) (hdb : (x == ("__debug__" : Str)) = false := by decide)
    (he : starEach (e :: es) X.env = (false, eval e X.env) :: starEach es X.env := by rfl) (hpl : (backTo pos (starEach es X.env)).any (·.1) = false := by rfl) : PE X (.Call (.Name x p) (e :: es) [] pos) (tCall sp [] E0 t) := by
  obtain ⟨f, fd, ps, F, hm, kp, b⟩ := c.ex
  exact pe_call F (hr.mono hk) hg hm kp b .nil pass0 ha hdb he hpl
theorem pe_gc {v : V} (hg : Gl X x) (h : ∃ u, X.mg x = some u ∧ RelV v u) (hd : (x == ("__debug__" : Str)) = false := by decide) : PE X (.Name x pos) (tC v) := by
  obtain ⟨u, hm, r⟩ := h
  exact pe_glob hg hm r hd
end

/-! ### a text told from its end: s[::-1] -/
def tRevS (te : TE) : TE := fun σ H Q => te σ H fun x H1 => ∃ l : List Nat, x = .str (S l) ∧ l.length ≤ sizeLine ∧ Q (.str (S l.reverse)) H1
theorem rev_pick (l : List Nat) : (Builtin.Str.strSliceIndices none none (-1) (S l).length).filterMap ((S l).cps[·]?) = l.reverse := by
  rw [PyProof.Rows.picked_rev, PySem.W.krv_range, List.filterMap_reverse, S_len]
  have h := PySem.W.krv_all (S l).cps
  have e : (S l).cps.size = l.length := by simp
  rw [e] at h
  rw [h]
section
variable {X : Cx}
theorem pe_revS {e : Expr} {te : TE} {k : Nat} {p1 p2 p3 pos : Pos} (he : PE X e te) : PE X (.Subscript e (.Slice none none (some (.UnaryOp .USub (.Constant (.int 1) k p1) p2)) p3) pos) (tRevS te) := by
  refine ⟨fun pins s σ H Q I h => ?_⟩
  refine Subscript_ (thn (he.run pins s σ H _ I h) fun v s1 ⟨x, H1, I1, r1, q1⟩ => ?_)
  obtain ⟨l, ex, hz, q⟩ := q1
  subst ex
  obtain ⟨tk, rfl⟩ := r1
  have hst : PO X (some (.UnaryOp .USub (.Constant (.int 1) k p1) p2)) (tPart (tUn (rU fun i => .int (-i)) (tC (.int 1)))) := po_some (pe_un un_neg pe_int)
  refine wpAny_Slice (thn (po_none.run pins s1 σ H1 (fun o H2 => o = none ∧ H2 = H1) I1 ⟨rfl, rfl⟩) fun vl s2 ⟨lo, H2, I2, pl, el, e2⟩ => ?_)
  subst el e2
  refine thn (po_none.run pins s2 σ H2 (fun o H3 => o = none ∧ H3 = H2) I2 ⟨rfl, rfl⟩) fun vu s3 ⟨u, H3, I3, pu, eu, e3⟩ => ?_
  subst eu e3
  refine thn (hst.run pins s3 σ H3 (fun o H4 => o = some (-1) ∧ H4 = H3) I3 ⟨1, rfl, -1, rfl, rfl, rfl⟩) fun vs s4 ⟨o, H4, I4, ps, eo, e4⟩ => ?_
  subst eo e4
  have I5 : Inv X pins σ H4 { s4 with heap := s4.heap.push { cls := .type "slice", data := .fields #[vl, vu, vs] } } := I4.kept (t' := s4.toks) fun b ob q => Heap.get?_push_of_some _ q
  obtain ⟨pl', rfl, epl⟩ := IsPart.raw pl
  obtain ⟨pu', rfl, epu⟩ := IsPart.raw pu
  obtain ⟨ps', rfl, eps⟩ := IsPart.raw ps
  have hsl := Heap.IsSliceOf.new s4.heap (partValue pl') (partValue pu') (partValue ps')
  obtain ⟨os, hos, hcs, hds⟩ := hsl
  show wpAny (model X.prog X.w) X.A (subscriptTail e (.Slice none none (some (.UnaryOp .USub (.Constant (.int 1) k p1) p2)) p3) (.str (S l) tk) (.ref s4.heap.objs.size)) (EP X pins σ Q) X.xe _
  refine tail_any (ops := [.str (S l) tk, .ref s4.heap.objs.size]) (typeIs_str _ _ _) (F.slot_str_getitem.lookup) ?_ (by with_unfolding_all rfl)
  have h1 : ps'.map (·.1) = some (-1) := eps
  have h2 : pl'.map (·.1) = none := epl
  have h3 : pu'.map (·.1) = none := epu
  refine wpAny_getItem_str_slice (l := pl') (u := pu') (st := ps') ⟨os, hos, hcs, hds⟩ (by rw [h1]; rfl) ?_
  unfold sliceMade slicePicked
  rw [h1, h2, h3, if_neg (by simp)]
  show Made.post (Made.str ⟨((Builtin.Str.strSliceIndices none none (-1) (S l).length).filterMap ((S l).cps[·]?)).toArray⟩) _ _
  rw [rev_pick]
  exact ⟨by rw [S_len, List.length_reverse]; exact hz, .str (S l.reverse), H4, I5.tok _, ⟨_, rfl⟩, q⟩
end
end Sw
namespace Sw
open PySem PySem.Spec PyProof.Rows L2 SX
/-! ### reading, step by step -/
section
variable {K : PySem.W.Frag} {σ : L2.St} {H : Hp} {Q : VK} {QT : Bool → Hp → Prop} {QA : List V → Hp → Prop} {D : Ends} {te ta tb tc : TE} {tr : TA} {t u : TS} {tt tu : TT} {r r' : R2} {i : Nat} {v x y : V} {a b : Int}
theorem g_seqasg (h : te σ H fun x H1 => u D (σ.set i (some x)) H1) : tSeq (tAsg te (gName i)) u D σ H := h
theorem g_seqdrop (h : te σ H fun _ H1 => u D σ H1) : tSeq (tDrop te) u D σ H := h
theorem g_seqsub {to ti : TE} {rs : TSet} (h : te σ H fun x H1 => to σ H1 fun o H2 => ti σ H2 fun k H3 => rs o k x H3 fun H4 => u D σ H4) : tSeq (tAsg te (gSub to ti rs)) u D σ H := h
/-- what follows is shown once, for all states of I, then the ways to it -/
theorem g_join (I : L2.St → Hp → Prop) (hu : ∀ σ' H', I σ' H' → u D σ' H') (h : ∀ U : L2.St → Hp → Prop, (∀ σ' H', I σ' H' → U σ' H') → t { D with nx := U } σ H) : tSeq t u D σ H := h _ hu
theorem g_seqif (h : tt σ H fun b H1 => if b = true then t { D with nx := u D } σ H1 else u D σ H1) {w : TS} (e : w = tNext) : tSeq (tIfS tt t w) u D σ H := by subst e; exact h
theorem g_seq (h : t { D with nx := u D } σ H) : tSeq t u D σ H := h
theorem g_asg (h : te σ H fun x H1 => D.nx (σ.set i (some x)) H1) : tAsg te (gName i) D σ H := h
theorem g_asgsub {to ti : TE} {rs : TSet} (h : te σ H fun x H1 => to σ H1 fun o H2 => ti σ H2 fun k H3 => rs o k x H3 fun H4 => D.nx σ H4) : tAsg te (gSub to ti rs) D σ H := h
theorem g_ret (h : te σ H fun x H1 => D.rt x H1) : tRet te D σ H := h
theorem g_drop (h : te σ H fun _ H1 => D.nx σ H1) : tDrop te D σ H := h
theorem g_next (h : D.nx σ H) : tNext D σ H := h
theorem g_if (h : tt σ H fun b H1 => if b = true then t D σ H1 else u D σ H1) : tIfS tt t u D σ H := h
theorem g_test (h : te σ H fun x H1 => ∃ k, x = .bl k ∧ QT k H1) : tTest te σ H QT := h
theorem g_yes (h : QT true H) : tYes σ H QT := h
theorem g_B (h : te σ H fun x H1 => ∃ k, x = .bl k ∧ QT k H1) : tB te σ H QT := h
theorem g_not (h : tt σ H fun c H1 => QT (!c) H1) : tNot tt σ H QT := h
theorem g_and (h : tt σ H fun c H1 => if c = true then tu σ H1 QT else QT false H1) : tAnd tt tu σ H QT := h
theorem g_or (h : tt σ H fun c H1 => if c = true then QT true H1 else tu σ H1 QT) : tOr tt tu σ H QT := h
theorem g_andV (h : ta σ H fun x H1 => ∃ c, x = .bl c ∧ if c = true then tb σ H1 Q else Q (.bl false) H1) : tAndV ta tb σ H Q := h
theorem g_orV (h : ta σ H fun x H1 => ∃ c, x = .bl c ∧ if c = true then Q (.bl true) H1 else tb σ H1 Q) : tOrV ta tb σ H Q := h
theorem g_notV (h : ta σ H fun x H1 => ∃ c, x = .bl c ∧ Q (.bl (!c)) H1) : tNotV ta σ H Q := h
theorem g_ifE (h : tt σ H fun c H1 => if c = true then ta σ H1 Q else tb σ H1 Q) : tIf tt ta tb σ H Q := h
theorem g_chain (h : ta σ H fun x H1 => tb σ H1 fun y H2 => r x y H2 fun z H3 => ∃ k, z = .bl k ∧ (if k = true then tc σ H3 fun w' H4 => r' y w' H4 Q else Q (.bl false) H3)) : tChain r r' ta tb tc σ H Q := h
theorem g_op (h : ta σ H fun x H1 => tb σ H1 fun y H2 => r x y H2 Q) : tOp r ta tb σ H Q := h
theorem g_un {ru : V → Hp → VK → Prop} (h : ta σ H fun x H1 => ru x H1 Q) : tUn ru ta σ H Q := h
theorem g_cons (h : ta σ H fun x H1 => tr σ H1 fun xs H2 => QA (x :: xs) H2) : tCons ta tr σ H QA := h
theorem g_nil (h : QA [] H) : tNil σ H QA := h
theorem g_cb {rc : RC} (h : tr σ H fun vs H1 => rc vs H1 Q) : tCB rc tr σ H Q := h
theorem g_call {sp : Sp} {E : XK} (h : tr σ H fun vs H1 => sp vs H1 Q E) : tCall sp [] E tr σ H Q := by
  unfold tCall
  have e : (fun vs H1 => sp (vs ++ []) H1 Q E) = (fun vs H1 => sp vs H1 Q E) := by
    funext vs H1
    rw [List.append_nil]
  rw [e]
  exact h
theorem g_tup (h : tr σ H fun xs H1 => xs.length ≤ sizeLine ∧ ∀ p, H1 p = none → Q (.ref p) (upd H1 p (.tup xs))) : tTup tr σ H Q := h
theorem g_lst (h : tr σ H fun xs H1 => xs.length ≤ sizeLine ∧ ∀ p, H1 p = none → Q (.ref p) (upd H1 p (.lst xs))) : tLst tr σ H Q := h
theorem g_var (hv : σ[i]? = some (some v)) (h : Q v H) : tVar i σ H Q := ⟨v, hv, h⟩
theorem g_c (h : Q v H) : tC v σ H Q := h
theorem g_sl {rs : V → Option Int → Option Int → Hp → VK → Prop} {tl th : TO} (h : te σ H fun x H1 => tl σ H1 fun l H2 => th σ H2 fun u H3 => rs x l u H3 Q) : tSl rs te tl th σ H Q := h
theorem g_part {QO : Option Int → Hp → Prop} (h : te σ H fun x H1 => ∃ i, x = .int i ∧ QO (some i) H1) : tPart te σ H QO := h
theorem g_m1 {rm : V → List V → Hp → VK → Prop} (h : ta σ H fun x H1 => (∃ a, x = .str a) ∧ tb σ H1 fun y H2 => rm x [y] H2 Q) : tM1 rm ta tb σ H Q := h
theorem g_nopart {QO : Option Int → Hp → Prop} (h : QO none H) : tNoPart σ H QO := h
/-! by values -/
theorem g_I0 {g : Int → Int → V} (h : Q (g a b) H) : rI0 g (.int a) (.int b) H Q := ⟨a, b, rfl, rfl, h⟩
theorem g_I {C : Int → Int → Prop} {g : Int → Int → V} (hc : C a b) (h : Q (g a b) H) : rI C g (.int a) (.int b) H Q := ⟨a, b, rfl, rfl, hc, h⟩
theorem g_U {g : Int → V} (h : Q (g a) H) : rU g (.int a) H Q := ⟨a, rfl, h⟩
theorem g_eq (hs : scal x y = true) (h : Q (.bl (decide (x = y))) H) : rEq x y H Q := ⟨hs, h⟩
theorem g_ne (hs : scal x y = true) (h : Q (.bl (!decide (x = y))) H) : rNe x y H Q := ⟨hs, h⟩
theorem g_ixL {p : Addr} {xs : List V} (h : H p = some (.lst xs)) (ha : atI xs a = some v) (q : Q v H) : rIxL K (.ref p) (.int a) H Q := ⟨p, xs, a, v, rfl, rfl, .inl (.inl h), ha, q⟩
theorem g_ixT {p : Addr} {xs : List V} (h : H p = some (.tup xs)) (ha : atI xs a = some v) (q : Q v H) : rIxT K (.ref p) (.int a) H Q := ⟨p, xs, a, v, rfl, rfl, .inl (.inl h), ha, q⟩
theorem g_setL {p : Addr} {xs ys : List V} {j : Nat} {QS : Hp → Prop} (h : H p = some (.lst xs)) (ha : ixN xs.length a = some j) (hy : xs.set j v = ys) (q : ∀ H', H' p = some (.lst ys) → (∀ b, b ≠ p → H' b = H b) → QS H') : rSetL (.ref p) (.int a) v H QS :=
  ⟨p, xs, a, j, rfl, rfl, h, ha, by rw [hy]; exact q _ upd_same fun b hb => upd_ne hb⟩
theorem cm {i j : Int} (h1 : -(2 ^ 500) < i) (h2 : i < 2 ^ 500) (h3 : -(2 ^ 500) < j) (h4 : j < 2 ^ 500) : CMulW i j := wide_mul (a := 500) (b := 500) (by omega) (by omega) (by decide) (by decide) (by decide)
theorem cd {i j : Int} (h1 : 0 < j) (h4 : j < 2 ^ 500) : CDivW i j := wide_div (b := 500) h1 (by omega) (by decide) (by decide)
theorem g_bl {c : Bool} {F : Bool → Prop} (h : F c) : ∃ k, V.bl c = .bl k ∧ F k := ⟨c, rfl, h⟩
theorem g_int {F : Int → Prop} (h : F a) : ∃ k, V.int a = .int k ∧ F k := ⟨a, rfl, h⟩
theorem ite_d {c A B : Prop} [Decidable c] (h1 : c → A) (h2 : ¬ c → B) : if decide c = true then A else B := by
  by_cases h : c
  · rw [if_pos (decide_eq_true h)]; exact h1 h
  · rw [if_neg (by rw [decide_eq_false h]; exact Bool.false_ne_true)]; exact h2 h
theorem ite_n {c A B : Prop} [Decidable c] (h1 : ¬ c → A) (h2 : c → B) : if (!decide c) = true then A else B := by
  by_cases h : c
  · rw [if_neg (by rw [decide_eq_true h]; exact Bool.false_ne_true)]; exact h2 h
  · rw [if_pos (by rw [decide_eq_false h]; rfl)]; exact h1 h
theorem ite_b {c : Bool} {A B : Prop} (h1 : c = true → A) (h2 : c = false → B) : if c = true then A else B := by
  cases c with
  | true => exact h1 rfl
  | false => exact h2 rfl
end

/-! ### loops -/
section
variable {K : PySem.W.Frag} {σ : L2.St} {H : Hp} {Q : VK} {D : Ends} {te ta : TE} {tr : TA} {tb : TS} {tt : TT} {g : TG} {j : Nat} {vs : List Nat}
/-- for i in range(e): C: what e comes to; Pv: the invariant -/
theorem for1 (C : Int → Hp → Prop) (hn : ∀ QA : List V → Hp → Prop, (∀ n H1, C n H1 → QA [.int n] H1) → tr σ H QA) (Pv : Int → Nat → L2.St → Hp → Prop) (p0 : ∀ n H1, C n H1 → n < 2 ^ 62 ∧ -(2 ^ 62) ≤ n ∧ Pv n 0 σ H1)
    (ps : ∀ (n : Int) (i : Nat) σ' H', (i : Int) < n → Pv n i σ' H' → tb { D with nx := Pv n (i + 1), ct := Pv n (i + 1), bk := D.nx } (σ'.set j (some (.int (i : Int)))) H') (pd : ∀ n σ' H', Pv n n.toNat σ' H' → D.nx σ' H') : tFor (iRng1 tr) (gName j) tb D σ H := by
  refine hn _ fun n H1 c => ?_
  obtain ⟨h1, h2, h0⟩ := p0 n H1 c
  refine ⟨n, rfl, h2, h1, for_range (lo := 0) (n := n.toNat) (Pv n) h0 (fun i σ' H' hi p => ?_) (pd n)⟩
  show tb _ (σ'.set j (some (.int ((0 : Int) + (i : Int))))) H'
  rw [Int.zero_add]
  exact ps n i σ' H' (by omega) p
/-- for i in range(lo, e) -/
theorem for2 (C : Int → Int → Hp → Prop) (hn : ∀ QA : List V → Hp → Prop, (∀ m n H1, C m n H1 → QA [.int m, .int n] H1) → tr σ H QA) (Pv : Int → Int → Nat → L2.St → Hp → Prop) (p0 : ∀ m n H1, C m n H1 → m < 2 ^ 62 ∧ -(2 ^ 62) ≤ m ∧ n < 2 ^ 62 ∧ -(2 ^ 62) ≤ n ∧ Pv m n 0 σ H1)
    (ps : ∀ (m n : Int) (i : Nat) σ' H', m + (i : Int) < n → Pv m n i σ' H' → tb { D with nx := Pv m n (i + 1), ct := Pv m n (i + 1), bk := D.nx } (σ'.set j (some (.int (m + (i : Int))))) H') (pd : ∀ m n σ' H', Pv m n (n - m).toNat σ' H' → D.nx σ' H') : tFor (iRng2 tr) (gName j) tb D σ H := by
  refine hn _ fun m n H1 c => ?_
  obtain ⟨h1, h2, h3, h4, h0⟩ := p0 m n H1 c
  exact ⟨m, n, rfl, ⟨h2, h1, h4, h3⟩, for_range (lo := m) (n := (n - m).toNat) (Pv m n) h0 (fun i σ' H' hi p => ps m n i σ' H' (by omega) p) (pd m n)⟩
/-- [.. for i in range(e) if ..] -/
theorem lc1 (C : Int → Hp → Prop) (hn : ∀ QA : List V → Hp → Prop, (∀ n H1, C n H1 → QA [.int n] H1) → tr σ H QA) (hC : ∀ n H1, C n H1 → n < 2 ^ 62 ∧ -(2 ^ 62) ≤ n) (Pv : Addr → Int → Nat → Hp → Prop) (p0 : ∀ Dl n H1, C n H1 → H1 Dl = none → Pv Dl n 0 (upd H1 Dl (.lst [])))
    (hw : ∀ x : V, wipe ((wipe σ vs).set j (some x)) vs = wipe σ vs)
    (ps : ∀ Dl (n : Int) (i : Nat) H', (i : Int) < n → Pv Dl n i H' → tt ((wipe σ vs).set j (some (.int (i : Int)))) H' fun b H3 => if b = true then te ((wipe σ vs).set j (some (.int (i : Int)))) H3 fun y H4 => ∃ acc, H4 Dl = some (.lst acc) ∧ acc.length < sizeLine ∧ Pv Dl n (i + 1) (upd H4 Dl (.lst (acc ++ [y]))) else Pv Dl n (i + 1) H3)
    (pd : ∀ Dl n H', Pv Dl n n.toNat H' → Q (.ref Dl) H') : tLc (iRng1 tr) (gName j) tt te vs σ H Q := by
  refine hn _ fun n H1 c => ?_
  obtain ⟨h1, h2⟩ := hC n H1 c
  refine ⟨n, rfl, h2, h1, fun Dl hD => lc_range (lo := 0) (n := n.toNat) (Pv Dl n) (p0 Dl n H1 c hD) (fun i H' hi p => ?_) (fun H' q => pd Dl n H' q)⟩
  have e : (0 : Int) + (i : Int) = (i : Int) := Int.zero_add _
  show wipe ((wipe σ vs).set j (some (.int ((0 : Int) + (i : Int))))) vs = wipe σ vs ∧ tt ((wipe σ vs).set j (some (.int ((0 : Int) + (i : Int))))) H' _
  rw [e]
  exact ⟨hw _, ps Dl n i H' (by omega) p⟩
/-- for c in text -/
theorem forS {l : List Nat} (hn : ∀ Q : VK, Q (.str (S l)) H → te σ H Q) (Pv : Nat → L2.St → Hp → Prop) (p0 : Pv 0 σ H)
    (ps : ∀ (i : Nat) (c : Nat) σ' H', l[i]? = some c → Pv i σ' H' → tb { D with nx := Pv (i + 1), ct := Pv (i + 1), bk := D.nx } (σ'.set j (some (.str (S [c])))) H') (pd : ∀ σ' H', Pv l.length σ' H' → D.nx σ' H') : tFor (iStr te) (gName j) tb D σ H := by
  refine hn _ ⟨S l, rfl, fun i m σ H => m = l.length - i ∧ i ≤ l.length ∧ Pv i σ H, ⟨l.length, by omega, by omega, p0⟩, ?_⟩
  rintro i m σ' H' ⟨rfl, hi, p⟩
  have es : (S l).cps.size = l.length := by simp
  by_cases hlt : i < l.length
  · refine .inr ⟨by show i < (S l).cps.size; omega, Pv (i + 1), fun σ2 H2 p' => ⟨l.length - (i + 1), by omega, rfl, by omega, p'⟩, fun v H2 y => ?_⟩
    obtain ⟨e, c, hc, ev⟩ := y
    subst e ev
    exact ps i c σ' _ (by simpa using hc) p
  · have e : i = l.length := by omega
    subst e
    exact .inl ⟨by show (S l).cps.size ≤ l.length; omega, pd σ' H' p⟩
end
end Sw
local macro_rules | `(tactic| walk_at "go1") => `(tactic| first
  | with_reducible refine Sw.g_seqasg ?_ | with_reducible refine Sw.g_op ?_ | with_reducible refine Sw.g_var rfl ?_ | with_reducible refine Sw.g_c ?_ | with_reducible refine Sw.g_I0 ?_
  | with_reducible refine Sw.g_cons ?_ | with_reducible refine Sw.g_nil ?_ | with_reducible refine Sw.g_call ?_ | with_reducible refine Sw.g_cb ?_ | with_reducible refine Sw.g_test ?_ | with_reducible refine Sw.g_bl ?_
  | with_reducible refine Sw.g_seqdrop ?_ | with_reducible refine Sw.g_seqsub ?_ | with_reducible refine Sw.g_asg ?_ | with_reducible refine Sw.g_asgsub ?_ | with_reducible refine Sw.g_ret ?_ | with_reducible refine Sw.g_drop ?_ | with_reducible refine Sw.g_if ?_ | with_reducible refine Sw.g_next ?_
  | with_reducible refine Sw.g_B ?_ | with_reducible refine Sw.g_not ?_ | with_reducible refine Sw.g_and ?_ | with_reducible refine Sw.g_or ?_ | with_reducible refine Sw.g_andV ?_ | with_reducible refine Sw.g_orV ?_ | with_reducible refine Sw.g_notV ?_
  | with_reducible refine Sw.g_ifE ?_ | with_reducible refine Sw.g_chain ?_ | with_reducible refine Sw.g_un ?_ | with_reducible refine Sw.g_tup ?_ | with_reducible refine Sw.g_lst ?_ | with_reducible refine Sw.g_sl ?_ | with_reducible refine Sw.g_part ?_ | with_reducible refine Sw.g_nopart ?_
  | with_reducible refine Sw.g_U ?_ | with_reducible refine Sw.g_eq rfl ?_ | with_reducible refine Sw.g_ne rfl ?_ | with_reducible refine Sw.g_int ?_ | with_reducible refine Sw.g_yes ?_ | with_reducible refine L2.iteT ?_ | with_reducible refine L2.iteF ?_ | with_reducible refine Sw.g_m1 ?_
  | with_reducible refine Sw.g_ixL (by assumption) rfl ?_ | with_reducible refine Sw.g_ixT (by assumption) rfl ?_)
local macro_rules | `(tactic| walk_at "go") => `(tactic| repeat walk_at "go1")
namespace Sw
open PySem PySem.Spec PyProof.Rows L2 SX
/-! ### draws -/
def Dr (H : Hp) (d : Addr) : Prop := ∃ c s p : Int, H d = some (.lst [.int c, .int s, .int p]) ∧ 0 ≤ s ∧ s ≤ 2147500000 ∧ 0 < p ∧ p ≤ 2147483647
/-- all but d stays -/
def Fr (d : Addr) (H H' : Hp) : Prop := ∀ b o, b ≠ d → H b = some o → H' b = some o
theorem Fr.refl (d : Addr) (H : Hp) : Fr d H H := fun _ _ _ h => h
theorem Fr.trans {d : Addr} {H H1 H2 : Hp} (a : Fr d H H1) (b : Fr d H1 H2) : Fr d H H2 := fun x o n h => b x o n (a x o n h)
theorem Fr.of {d : Addr} {H H' : Hp} (a : Same H H') : Fr d H H' := fun x o _ h => a x o h
theorem same_upd {H : Hp} {p : Addr} {o : HO} (h : H p = none) : Same H (upd H p o) := fun b x e => by
  rw [upd_ne (ne_of_none e h)]
  exact e
theorem Same.tup {K : PySem.W.Frag} {H H' : Hp} {a : Addr} {xs : List V} (e : Same H H') (h : SqT K H a xs) : SqT K H' a xs := by
  rcases h with (h | ⟨o, h⟩) | h
  · exact .inl (.inl (e _ _ h))
  · exact .inl (.inr ⟨o, e _ _ h⟩)
  · exact .inr h
/-- the law's state: draws stand at d; G: what stays -/
structure LS (G : Hp) (d : Addr) (H : Hp) : Prop where
  dr : Dr H d
  ex : Same G H
  no : G d = none
section
variable {G H H' : Hp} {d p : Addr} {o : HO}
theorem LS.to (hs : LS G d H) (dr : Dr H' d) (fr : Fr d H H') : LS G d H' := ⟨dr, fun b x e => fr b x (ne_of_none e hs.no) (hs.ex b x e), hs.no⟩
theorem Dr.same (h : Dr H d) (e : Same H H') : Dr H' d := by
  obtain ⟨c, s, p, h1, h2⟩ := h
  exact ⟨c, s, p, e _ _ h1, h2⟩
theorem Dr.ne (h : Dr H d) (np : H p = none) : p ≠ d := fun e => by
  obtain ⟨c, s, q, h1, _⟩ := h
  rw [← e, np] at h1
  cases h1
/-- all but d stays -/
def but (H : Hp) (d : Addr) : Hp := fun b => if b = d then none else H b
theorem LS.of (dr : Dr H d) : LS (but H d) d H := ⟨dr, fun b o e => by
  unfold but at e
  by_cases hb : b = d
  · rw [if_pos hb] at e; cases e
  · rw [if_neg hb] at e; exact e, if_pos rfl⟩
theorem LS.fr (hs : LS (but H d) d H') : Fr d H H' := fun b o n e => hs.ex b o (by unfold but; rw [if_neg n]; exact e)
theorem LS.nog (hs : LS G d H) (np : H p = none) : G p = none := hs.ex.free np
/-- a new object that stays -/
theorem LS.new (hs : LS G d H) (np : H p = none) : LS (upd G p o) d (upd H p o) :=
  ⟨hs.dr.same (same_upd np), fun b x e => by
    by_cases hb : b = p
    · subst hb
      rw [upd_same] at e ⊢
      exact e
    · rw [upd_ne hb] at e ⊢
      exact hs.ex b x e, by rw [upd_ne (hs.dr.ne np).symm]; exact hs.no⟩
/-- a new object that doesn't matter -/
theorem LS.old (hs : LS G d H) (np : H p = none) : LS G d (upd H p o) := ⟨hs.dr.same (same_upd np), fun b x e => same_upd np b x (hs.ex b x e), hs.no⟩
/-- another object than d, of which G knows nothing, is changed -/
theorem LS.put (hs : LS G d H) (np : G p = none) (hp : p ≠ d) : LS G d (upd H p o) := by
  obtain ⟨c, s, q, h1, h2⟩ := hs.dr
  exact ⟨⟨c, s, q, by rw [upd_ne hp.symm]; exact h1, h2⟩, fun b x e => by rw [upd_ne (ne_of_none e np)]; exact hs.ex b x e, hs.no⟩
theorem LS.less {G' : Hp} (hs : LS G' d H) (e : Same G G') : LS G d H := ⟨hs.dr, fun b x q => hs.ex b x (e b x q), e.free hs.no⟩
theorem LS.same (hs : LS G d H) (e : Same H H') : LS G d H' := ⟨hs.dr.same e, fun b x q => e b x (hs.ex b x q), hs.no⟩
theorem LS.drop (hs : LS (upd G p o) d H) (np : G p = none) : LS G d H := hs.less (same_upd np)
end
theorem all_nil {P : V → Prop} : ∀ x ∈ ([] : List V), P x := fun _ h => nomatch h
theorem all_cons {P : V → Prop} {y : V} {l : List V} (h : P y) (hl : ∀ x ∈ l, P x) : ∀ x ∈ y :: l, P x := fun x hx => by
  rcases List.mem_cons.mp hx with e | e
  · rw [e]; exact h
  · exact hl x e
theorem atI_of {α : Type} {xs : List α} {r : Int} (h0 : 0 ≤ r) (h1 : r < (xs.length : Int)) : ∃ v, atI xs r = some v ∧ v ∈ xs ∧ xs[r.toNat]? = some v := by
  have hl : r.toNat < xs.length := by omega
  have e : ((r.toNat : Nat) : Int) = r := by omega
  have z := atI_nat (xs := xs) (j := r.toNat) (List.getElem?_eq_getElem hl)
  rw [e] at z
  exact ⟨xs[r.toNat], z, List.getElem_mem hl, List.getElem?_eq_getElem hl⟩
/-- a drawn item of a list that was just made -/
theorem LS.at {K : PySem.W.Frag} {G H : Hp} {d p : Addr} {xs : List V} {r : Int} {Q : VK} (hs : LS (upd G p (.lst xs)) d H) (np : G p = none) (P : V → Prop) (hP : ∀ x ∈ xs, P x) (h0 : 0 ≤ r) (h1 : r < (xs.length : Int)) (q : ∀ v, P v → LS G d H → Q v H) : rIxL K (.ref p) (.int r) H Q := by
  obtain ⟨v, e, hv, _⟩ := atI_of h0 h1
  exact ⟨p, xs, r, v, rfl, rfl, .inl (.inl (hs.ex p _ upd_same)), e, q v (hP v hv) (hs.drop np)⟩
def sp_law_draw (K : PySem.W.Frag) : Sp := fun vs H Q _ => ∃ (d : Addr) (m : Int), vs = [.ref d, .int m] ∧ Dr H d ∧ 0 < m ∧ m < 2 ^ 64 ∧ ∀ r H', 0 ≤ r → r < m → Dr H' d → (∀ b, b ≠ d → H' b = H b) → Q (.int r) H'
def t_law_draw (K : PySem.W.Frag) : TS :=
  (tSeq (tIfS (tTest (tOp rGt (tOp (rIxL K) (tVar 0) (tC (.int 0))) (tC (.int 0)))) (tSeq (tAsg (tOp rMod (tOp (rIxL K) (tVar 0) (tC (.int 0))) (tVar 1)) (gName 2))
  (tSeq (tAsg (tOp rDivW (tOp (rIxL K) (tVar 0) (tC (.int 0))) (tVar 1)) (gSub (tVar 0) (tC (.int 0)) rSetL))
  (tRet (tVar 2)))) tNext)
  (tSeq (tAsg (tOp rAdd (tOp rMod (tOp rMulW (tOp (rIxL K) (tVar 0) (tC (.int 1))) (tC (.int 69621))) (tOp (rIxL K) (tVar 0) (tC (.int 2)))) (tC (.int 1))) (gSub (tVar 0) (tC (.int 1)) rSetL))
  (tRet (tOp rMod (tOp rDivW (tOp rMod (tOp rMulW (tOp (rIxL K) (tVar 0) (tC (.int 1))) (tOp rAdd (tOp rDivW (tOp (rIxL K) (tVar 0) (tC (.int 1))) (tC (.int 128))) (tC (.int 3)))) (tC (.int 2147483423))) (tC (.int 8))) (tVar 1)))))

theorem LS.draw {K : PySem.W.Frag} {G H : Hp} {d : Addr} {m : Int} {Q : VK} {E : XK} (hs : LS G d H) (m0 : 0 < m) (m1 : m < 2 ^ 64) (k : ∀ r H', 0 ≤ r → r < m → LS G d H' → Q (.int r) H') : sp_law_draw K [.ref d, .int m] H Q E :=
  ⟨d, m, rfl, hs.dr, m0, m1, fun r H' h0 h1 dr kp => k r H' h0 h1 (hs.to dr fun b o n e => (kp b n).trans e)⟩
/-- .. and another object stays -/
theorem LS.drawP {K : PySem.W.Frag} {G H : Hp} {d p : Addr} {o : HO} {m : Int} {Q : VK} {E : XK} (hs : LS G d H) (m0 : 0 < m) (m1 : m < 2 ^ 64) (hp : p ≠ d) (ho : H p = some o) (k : ∀ r H', 0 ≤ r → r < m → LS G d H' → H' p = some o → Q (.int r) H') : sp_law_draw K [.ref d, .int m] H Q E :=
  ⟨d, m, rfl, hs.dr, m0, m1, fun r H' h0 h1 dr kp => k r H' h0 h1 (hs.to dr fun b o n e => (kp b n).trans e) ((kp p hp).trans ho)⟩
theorem ln_law_draw {K : PySem.W.Frag} {vs : List V} {H : Hp} {Q : VK} {E : XK} (h : sp_law_draw K vs H Q E) : vs.length = 2 := by
  obtain ⟨_, _, rfl, _⟩ := h
  rfl
theorem rd_law_draw {K : PySem.W.Frag} {vs : List V} {H : Hp} {Q : VK} {E : XK} (h : sp_law_draw K vs H Q E) : t_law_draw K { nx := fun _ H' => Q .non H', rt := Q } (start ["draws", "many", "found"] vs) H := by
  obtain ⟨d, m, rfl, ⟨c, s, p, hd, s0, s1, p0, p1⟩, m0, m1, k⟩ := h
  show t_law_draw K _ [some (.ref d), some (.int m), none] H
  unfold t_law_draw
  refine g_seq ?_
  walk_at "go"
  refine ite_d (fun hc => ?_) (fun hc => ?_)
  · walk_at "go"
    refine g_I m0 ?_
    walk_at "go"
    refine g_I (cd m0 (by omega)) ?_
    walk_at "go"
    refine g_setL hd rfl rfl fun H1 h1 kp => ?_
    walk_at "go"
    exact k _ _ (Int.emod_nonneg _ (by omega)) (Int.emod_lt_of_pos _ m0) ⟨c / m, s, p, h1, s0, s1, p0, p1⟩ kp
  · walk_at "go"
    refine g_I (cm (by omega) (by omega) (by omega) (by omega)) ?_
    walk_at "go"
    refine g_I p0 ?_
    have e0 : 0 ≤ s * 69621 % p := Int.emod_nonneg _ (by omega)
    have e1 : s * 69621 % p < p := Int.emod_lt_of_pos _ p0
    generalize s * 69621 % p = z at e0 e1
    walk_at "go"
    refine g_setL hd rfl rfl fun H1 h1 kp => ?_
    walk_at "go"
    refine g_I (cd (by decide) (by decide)) ?_
    walk_at "go"
    refine g_I (cm (by omega) (by omega) (by omega) (by omega)) ?_
    walk_at "go"
    refine g_I (by decide) ?_
    walk_at "go"
    refine g_I (cd (by decide) (by decide)) ?_
    walk_at "go"
    refine g_I m0 ?_
    exact k _ _ (Int.emod_nonneg _ (by omega)) (Int.emod_lt_of_pos _ m0) ⟨c, z + 1, p, h1, by omega, by omega, p0, p1⟩ kp
/-! ### the draws of a cell -/
def sp_law_draws (K : PySem.W.Frag) : Sp := fun vs H Q _ => ∃ (a : Addr) (ns : List Int) (k : Int), vs = [.ref a, .int k] ∧ SqL K H a (ns.map V.int) ∧ ns.length ≤ 63 ∧ 0 ≤ k ∧ k ≤ 1000 ∧ ∀ d H', H d = none → Same H H' → Dr H' d → Q (.ref d) H'
theorem ln_law_draws {K : PySem.W.Frag} {vs : List V} {H : Hp} {Q : VK} {E : XK} (h : sp_law_draws K vs H Q E) : vs.length = 2 := by
  obtain ⟨_, _, _, rfl, _⟩ := h
  rfl
def t_law_draws (K : PySem.W.Frag) : TS :=
  (tSeq (tAsg (tTup (tCons (tC (.int 2147483647)) (tCons (tC (.int 2147483629)) (tCons (tC (.int 2147483587)) (tCons (tC (.int 2147483579)) (tCons (tC (.int 2147483563)) (tCons (tC (.int 2147483549)) (tCons (tC (.int 2147483543)) (tCons (tC (.int 2147483497)) tNil))))))))) (gName 2))
  (tSeq (tAsg (tOp rAdd (tOp rMulW (tC (.int 15485863)) (tVar 1)) (tC (.int 7))) (gName 3))
  (tSeq (tIfS (tTest (tOp rLt (tVar 1) (tCB (rLenSq K) (tCons (tVar 0) tNil)))) (tAsg (tOp rMod (tOp (rIxL K) (tVar 0) (tVar 1)) (tOp rMulW (tOp rPow (tC (.int 10)) (tC (.int 60))) (tOp rPow (tC (.int 10)) (tC (.int 60))))) (gName 3)) (tIfS (tTest (tOp rGt (tCB (rLenSq K) (tCons (tVar 0) tNil)) (tC (.int 0)))) (tAsg (tOp rAdd (tOp rMod (tOp (rIxL K) (tVar 0) (tOp rMod (tVar 1) (tCB (rLenSq K) (tCons (tVar 0) tNil)))) (tOp rPow (tC (.int 10)) (tC (.int 15)))) (tOp rMulW (tC (.int 15485863)) (tVar 1))) (gName 3)) tNext))
  (tSeq (tAsg (tOp rMod (tOp rMulW (tOp rAdd (tOp rAdd (tOp rMod (tVar 3) (tC (.int 2147483423))) (tOp rMulW (tC (.int 3)) (tVar 1))) (tC (.int 1))) (tOp rAdd (tC (.int 48271)) (tOp rMulW (tOp rMulW (tC (.int 2)) (tVar 1)) (tVar 1)))) (tC (.int 2147483423))) (gName 4))
  (tSeq (tAsg (tOp rAdd (tOp rAdd (tOp rMod (tOp rMulW (tOp rMulW (tVar 4) (tVar 4)) (tVar 4)) (tC (.int 2147483399))) (tVar 1)) (tC (.int 1))) (gName 4))
  (tRet (tLst (tCons (tOp rMulW (tVar 3) (tCB rInt1 (tCons (tOp rGe (tVar 3) (tOp rPow (tC (.int 10)) (tC (.int 18)))) tNil))) (tCons (tVar 4) (tCons (tOp (rIxT K) (tVar 2) (tOp rMod (tVar 1) (tC (.int 8)))) tNil))))))))))

theorem emod_bd {z m : Int} (h : 0 < m) : 0 ≤ z % m ∧ z % m < m := ⟨Int.emod_nonneg _ (by omega), Int.emod_lt_of_pos _ h⟩
theorem at_map {ns : List Int} {z : Int} (h0 : 0 ≤ z) (h1 : z < (ns.length : Int)) : ∃ n, atI (ns.map V.int) z = some (.int n) := by
  obtain ⟨v, e, hv, _⟩ := atI_of (xs := ns.map V.int) h0 (by rw [List.length_map]; exact h1)
  obtain ⟨n, _, rfl⟩ := List.mem_map.mp hv
  exact ⟨n, e⟩
theorem mul_bd {a b A B : Int} (a0 : 0 ≤ a) (a1 : a ≤ A) (b0 : 0 ≤ b) (b1 : b ≤ B) : 0 ≤ a * b ∧ a * b ≤ A * B :=
  ⟨Int.mul_nonneg a0 b0, Int.mul_le_mul a1 b1 b0 (Int.le_trans a0 a1)⟩
set_option maxHeartbeats 8000000 in
theorem rd_law_draws {K : PySem.W.Frag} {vs : List V} {H : Hp} {Q : VK} {E : XK} (h : sp_law_draws K vs H Q E) : t_law_draws K { nx := fun _ H' => Q .non H', rt := Q } (start ["script", "k", "primes", "cell", "seed"] vs) H := by
  obtain ⟨a, ns, k, rfl, hS, hn, k0, k1, q⟩ := h
  show t_law_draws K _ [some (.ref a), some (.int k), none, none, none] H
  unfold t_law_draws
  walk_at "go"
  refine ⟨by decide, fun p np => ?_⟩
  have s1 := same_upd (o := .tup [.int 2147483647, .int 2147483629, .int 2147483587, .int 2147483579, .int 2147483563, .int 2147483549, .int 2147483543, .int 2147483497]) np
  have hp : upd H p (.tup [.int 2147483647, .int 2147483629, .int 2147483587, .int 2147483579, .int 2147483563, .int 2147483549, .int 2147483543, .int 2147483497]) p = _ := upd_same
  generalize upd H p (.tup [.int 2147483647, .int 2147483629, .int 2147483587, .int 2147483579, .int 2147483563, .int 2147483549, .int 2147483543, .int 2147483497]) = H1 at s1 hp
  have hS1 := s1.seq hS
  have e60 : (10 : Int) ^ (60 : Int).toNat = 10 ^ 60 := rfl
  have e15 : (10 : Int) ^ (15 : Int).toNat = 10 ^ 15 := rfl
  have e18 : (10 : Int) ^ (18 : Int).toNat = 10 ^ 18 := rfl
  walk_at "go"
  refine g_I (cm (by omega) (by omega) (by omega) (by omega)) ?_
  walk_at "go"
  refine g_join (fun σ' H' => ∃ c : Int, σ' = [some (.ref a), some (.int k), some (.ref p), some (.int c), none] ∧ 0 ≤ c ∧ c < 10 ^ 121 ∧ H' = H1) ?_ fun U hu => ?_
  · rintro σ' H' ⟨c, rfl, c0, c1, rfl⟩
    walk_at "go"
    refine g_I (by decide) ?_
    obtain ⟨x0, x1⟩ := emod_bd (z := c) (m := 2147483423) (by decide)
    generalize c % 2147483423 = x at x0 x1
    walk_at "go"
    refine g_I (cm (by omega) (by omega) (by omega) (by omega)) ?_
    walk_at "go"
    refine g_I (cm (by omega) (by omega) (by omega) (by omega)) ?_
    walk_at "go"
    refine g_I (cm (by omega) (by omega) (by omega) (by omega)) ?_
    walk_at "go"
    obtain ⟨y0, y1⟩ := mul_bd (a := 2 * k) (b := k) (A := 2000) (B := 1000) (by omega) (by omega) (by omega) (by omega)
    generalize 2 * k * k = y at y0 y1
    refine g_I (cm (by omega) (by omega) (by omega) (by omega)) ?_
    walk_at "go"
    refine g_I (by decide) ?_
    generalize (x + 3 * k + 1) * (48271 + y) = z
    obtain ⟨z0, z1⟩ := emod_bd (z := z) (m := 2147483423) (by decide)
    generalize z % 2147483423 = s at z0 z1
    walk_at "go"
    refine g_I (cm (by omega) (by omega) (by omega) (by omega)) ?_
    obtain ⟨u0, u1⟩ := mul_bd (a := s) (b := s) (A := 2147483423) (B := 2147483423) (by omega) (by omega) (by omega) (by omega)
    generalize s * s = u at u0 u1
    walk_at "go"
    refine g_I (cm (by omega) (by omega) (by omega) (by omega)) ?_
    walk_at "go"
    refine g_I (by decide) ?_
    obtain ⟨v0, v1⟩ := emod_bd (z := u * s) (m := 2147483399) (by decide)
    generalize u * s % 2147483399 = v at v0 v1
    walk_at "go"
    refine g_I ⟨by decide, by decide, by decide⟩ ?_
    walk_at "go"
    refine .inr ⟨_, rfl, ?_⟩
    have ci : ∀ b : Bool, 0 ≤ (if b = true then (1 : Int) else 0) ∧ (if b = true then (1 : Int) else 0) ≤ 1 := fun b => by cases b <;> decide
    obtain ⟨w0, w1⟩ := ci (decide (10 ^ (18 : Int).toNat ≤ c))
    generalize (if decide (10 ^ (18 : Int).toNat ≤ c) = true then (1 : Int) else 0) = w at w0 w1
    refine g_I (cm (by omega) (by omega) (by omega) (by omega)) ?_
    walk_at "go"
    refine g_I (by decide) ?_
    obtain ⟨i0, i1⟩ := emod_bd (z := k) (m := 8) (by decide)
    obtain ⟨pv, ea, hv, _⟩ := atI_of (xs := [V.int 2147483647, .int 2147483629, .int 2147483587, .int 2147483579, .int 2147483563, .int 2147483549, .int 2147483543, .int 2147483497]) i0 i1
    have hP : ∃ pr : Int, pv = .int pr ∧ 0 < pr ∧ pr ≤ 2147483647 := all_cons (P := fun v => ∃ pr : Int, v = .int pr ∧ 0 < pr ∧ pr ≤ 2147483647) ⟨_, rfl, by decide, by decide⟩ (all_cons ⟨_, rfl, by decide, by decide⟩ (all_cons ⟨_, rfl, by decide, by decide⟩ (all_cons ⟨_, rfl, by decide, by decide⟩
      (all_cons ⟨_, rfl, by decide, by decide⟩ (all_cons ⟨_, rfl, by decide, by decide⟩ (all_cons ⟨_, rfl, by decide, by decide⟩ (all_cons ⟨_, rfl, by decide, by decide⟩ all_nil))))))) pv hv
    obtain ⟨pr, rfl, r0, r1⟩ := hP
    refine g_ixT hp ea ?_
    walk_at "go"
    refine ⟨by show 3 ≤ sizeLine; decide, fun d nd => ?_⟩
    refine q d _ (s1.free nd) (s1.trans (same_upd nd)) ⟨_, _, _, upd_same, by omega, by omega, r0, r1⟩
  · walk_at "go"
    refine ⟨a, _, rfl, .inl hS1, ?_⟩
    walk_at "go"
    rw [List.length_map]
    refine ite_d (fun hc => ?_) (fun hc => ?_)
    · walk_at "go"
      obtain ⟨n, en⟩ := at_map (ns := ns) k0 hc
      refine ⟨a, _, k, _, rfl, rfl, hS1, en, ?_⟩
      walk_at "go"
      refine g_I ⟨by decide, by decide, by decide⟩ ?_
      walk_at "go"
      refine g_I ⟨by decide, by decide, by decide⟩ ?_
      refine g_I (cm (by rw [e60]; decide) (by rw [e60]; decide) (by rw [e60]; decide) (by rw [e60]; decide)) ?_
      refine g_I (by rw [e60]; decide) ?_
      obtain ⟨b0, b1⟩ := emod_bd (z := n) (m := 10 ^ (60 : Int).toNat * 10 ^ (60 : Int).toNat) (by rw [e60]; decide)
      refine hu _ _ ⟨_, rfl, b0, Int.lt_trans b1 (by rw [e60]; decide), rfl⟩
    · walk_at "go"
      refine ⟨a, _, rfl, .inl hS1, ?_⟩
      walk_at "go"
      rw [List.length_map]
      refine ite_d (fun hc2 => ?_) (fun hc2 => ?_)
      · walk_at "go"
        refine ⟨a, _, rfl, .inl hS1, ?_⟩
        rw [List.length_map]
        refine g_I hc2 ?_
        obtain ⟨j0, j1⟩ := emod_bd (z := k) hc2
        obtain ⟨n, en⟩ := at_map (ns := ns) j0 j1
        refine ⟨a, _, _, _, rfl, rfl, hS1, en, ?_⟩
        walk_at "go"
        refine g_I ⟨by decide, by decide, by decide⟩ ?_
        refine g_I (by rw [e15]; decide) ?_
        obtain ⟨b0, b1⟩ := emod_bd (z := n) (m := 10 ^ (15 : Int).toNat) (by rw [e15]; decide)
        rw [e15] at b0 b1 ⊢
        walk_at "go"
        refine g_I (cm (by omega) (by omega) (by omega) (by omega)) ?_
        walk_at "go"
        exact hu _ _ ⟨_, rfl, by omega, by omega, rfl⟩
      · walk_at "go"
        exact hu _ _ ⟨_, rfl, by omega, by omega, rfl⟩
/-! ### letters, wheels, figures -/
def Low (l : List Nat) : Prop := ∀ c ∈ l, 97 ≤ c ∧ c ≤ 122
def sp_law_letters (K : PySem.W.Frag) : Sp := fun vs H Q _ => ∃ (d : Addr) (n kinds : Int), vs = [.ref d, .int n, .int kinds] ∧ Dr H d ∧ 0 ≤ n ∧ n ≤ 1000 ∧ 1 ≤ kinds ∧ kinds ≤ 26 ∧
  ∀ (l : List Nat) H', (l.length : Int) = n → Low l → Dr H' d → Fr d H H' → Q (.str (S l)) H'
theorem ln_law_letters {K : PySem.W.Frag} {vs : List V} {H : Hp} {Q : VK} {E : XK} (h : sp_law_letters K vs H Q E) : vs.length = 3 := by
  obtain ⟨_, _, _, rfl, _⟩ := h
  rfl
theorem LS.letters {K : PySem.W.Frag} {G H : Hp} {d : Addr} {n kinds : Int} {Q : VK} {E : XK} (hs : LS G d H) (n0 : 0 ≤ n) (n1 : n ≤ 1000) (k0 : 1 ≤ kinds) (k1 : kinds ≤ 26)
    (k : ∀ (l : List Nat) H', (l.length : Int) = n → Low l → LS G d H' → Q (.str (S l)) H') : sp_law_letters K [.ref d, .int n, .int kinds] H Q E :=
  ⟨d, n, kinds, rfl, hs.dr, n0, n1, k0, k1, fun l H' h0 h1 dr fr => k l H' h0 h1 (hs.to dr fr)⟩
def t_law_letters (K : PySem.W.Frag) : TS :=
  (tSeq (tAsg (tC (.str "abcdefghijklmnopqrstuvwxyz")) (gName 3))
  (tSeq (tAsg (tCall (sp_law_draw K) [] E0 (tCons (tVar 0) (tCons (tOp rSub (tC (.int 27)) (tVar 2)) tNil))) (gName 4))
  (tRet (tM1 (rJoin K) (tC (.str "")) (tLc (iRng1 (tCons (tVar 1) tNil)) (gName 5) tYes (tOp rIxS (tVar 3) (tOp rAdd (tVar 4) (tCall (sp_law_draw K) [] E0 (tCons (tVar 0) (tCons (tVar 2) tNil))))) [5])))))

def abc : List Nat := [97, 98, 99, 100, 101, 102, 103, 104, 105, 106, 107, 108, 109, 110, 111, 112, 113, 114, 115, 116, 117, 118, 119, 120, 121, 122]
theorem abc_S : (PySem.Str.ofString "abcdefghijklmnopqrstuvwxyz") = S abc := by decide +kernel
theorem low_nil : Low [] := fun _ h => nomatch h
theorem low_app {l : List Nat} {c : Nat} (h : Low l) (hc : 97 ≤ c ∧ c ≤ 122) : Low (l ++ [c]) := fun x hx => by
  rcases List.mem_append.mp hx with e | e
  · exact h x e
  · rw [List.mem_singleton.mp e]; exact hc
theorem LS.nof {H H1 : Hp} {d p : Addr} (hs : LS (but H d) d H) (np : H1 p = none) (hs1 : LS (but H d) d H1) : H p = none := by
  have h1 := hs1.nog np
  unfold but at h1
  rw [if_neg (hs1.dr.ne np)] at h1
  exact h1
theorem abc_low : Low abc := by unfold Low abc; decide
theorem join_nil (l : List Nat) : Txt.join (S []) (l.map fun c => S [c]) = S l := by
  have e : (l.map fun c => S [c]) = (l.map fun c => [c]).map S := by rw [List.map_map]; rfl
  rw [e, join_S]
  refine congrArg S ?_
  clear e
  induction l with
  | nil => rfl
  | cons c l ih =>
    cases l with
    | nil => rfl
    | cons b l => 
      show [c] ++ [] ++ TL.joinL [] ((b :: l).map fun c => [c]) = c :: b :: l
      rw [ih]
      rfl
theorem empty_S : (PySem.Str.ofString "") = S [] := rfl
theorem sum_one (l : List Nat) : ((l.map fun c => S [c]).map (·.length)).sum = l.length := by
  induction l with
  | nil => rfl
  | cons c l ih =>
    rw [List.map_cons, List.map_cons, List.sum_cons, ih, S_len]
    show 1 + l.length = l.length + 1
    omega
theorem g_ixS {K : PySem.W.Frag} {l : List Nat} {a : Int} {c : Nat} {H : Hp} {Q : VK} (hz : l.length ≤ 100000) (ha : atI l a = some c) (q : Q (.str (S [c])) H) : rIxS (.str (S l)) (.int a) H Q :=
  ⟨S l, a, c, rfl, rfl, by rw [S_len]; exact Nat.le_trans hz (by decide), ha, q⟩
theorem rd_law_letters {K : PySem.W.Frag} {vs : List V} {H : Hp} {Q : VK} {E : XK} (h : sp_law_letters K vs H Q E) : t_law_letters K { nx := fun _ H' => Q .non H', rt := Q } (start ["draws", "many", "kinds", "letters", "first", "k"] vs) H := by
  obtain ⟨d, n, kinds, rfl, dr, n0, n1, k0, k1, q⟩ := h
  show t_law_letters K _ [some (.ref d), some (.int n), some (.int kinds), none, none, none] H
  have hs : LS (but H d) d H := LS.of dr
  unfold t_law_letters
  walk_at "go"
  have hs0 := hs
  refine hs.draw (by omega) (by omega) fun first H1 f0 f1 hs => ?_
  walk_at "go"
  refine ⟨⟨_, rfl⟩, ?_⟩
  refine lc1 (fun m Hm => m = n ∧ Hm = H1) (fun QA h => ?_) (fun m Hm ⟨e, _⟩ => by omega) (fun Dl m i H' => m = n ∧ H Dl = none ∧ Dl ≠ d ∧ ∃ l : List Nat, l.length = i ∧ Low l ∧ H' Dl = some (.lst (l.map fun c => V.str (S [c]))) ∧ LS (but H d) d H') (fun Dl m Hm ⟨e, eH⟩ nD => ?_) (fun x => rfl) (fun Dl m i H' hi p => ?_) (fun Dl m H' p => ?_)
  · walk_at "go"
    exact h _ _ ⟨rfl, rfl⟩
  · subst e eH
    exact ⟨rfl, hs0.nof nD hs, hs.dr.ne nD, [], rfl, low_nil, upd_same, hs.old nD⟩
  · obtain ⟨rfl, nD, nd, l, el, lo, hD, hs'⟩ := p
    walk_at "go"
    refine hs'.drawP (p := Dl) (o := .lst (l.map fun c => V.str (S [c]))) (by omega) (by omega) nd hD fun r H2 r0 r1 hs2 hD2 => ?_
    walk_at "go"
    rw [show (V.str "abcdefghijklmnopqrstuvwxyz") = V.str (S abc) from congrArg V.str abc_S]
    obtain ⟨c, ec, hc, _⟩ := atI_of (xs := abc) (r := first + r) (by omega) (by show _ < ((26 : Nat) : Int); omega)
    refine g_ixS (K := K) (by decide) ec ?_
    refine ⟨_, hD2, ?_, rfl, nD, nd, l ++ [c], ?_, ?_, ?_, hs2.put ?_ nd⟩
    · rw [List.length_map, el]
      exact Nat.lt_of_lt_of_le (show i < 1001 by omega) (by decide)
    · rw [List.length_append, el]
      rfl
    · exact low_app lo (abc_low c hc)
    · rw [List.map_append]
      exact upd_same
    · unfold but
      rw [if_neg nd]
      exact nD
  · obtain ⟨rfl, nD, nd, l, el, lo, hD, hs'⟩ := p
    refine ⟨S [], Dl, l.map fun c => S [c], rfl, rfl, .inl (.inl (.inl (by rw [List.map_map]; exact hD))), ?_, ?_⟩
    · rw [sum_one, List.length_map, S_len]
      show l.length + l.length * 0 ≤ _
      omega
    · rw [join_nil]
      exact q l H' (by omega) lo hs'.dr hs'.fr
/-- ints of a list that was just made, within bounds -/
def Bd (lo hi : Int) (v : V) : Prop := ∃ z : Int, v = .int z ∧ lo ≤ z ∧ z ≤ hi
def sp_law_wheel (K : PySem.W.Frag) : Sp := fun vs H Q _ => ∃ (d : Addr) (m : Int), vs = [.ref d, .int m] ∧ Dr H d ∧ 1 ≤ m ∧ m ≤ 1000 ∧ ∀ (l : List Nat) H', 1 ≤ l.length → (l.length : Int) ≤ m → Low l → Dr H' d → Fr d H H' → Q (.str (S l)) H'
theorem ln_law_wheel {K : PySem.W.Frag} {vs : List V} {H : Hp} {Q : VK} {E : XK} (h : sp_law_wheel K vs H Q E) : vs.length = 2 := by
  obtain ⟨_, _, rfl, _⟩ := h
  rfl
theorem LS.wheel {K : PySem.W.Frag} {G H : Hp} {d : Addr} {m : Int} {Q : VK} {E : XK} (hs : LS G d H) (m0 : 1 ≤ m) (m1 : m ≤ 1000)
    (k : ∀ (l : List Nat) H', 1 ≤ l.length → (l.length : Int) ≤ m → Low l → LS G d H' → Q (.str (S l)) H') : sp_law_wheel K [.ref d, .int m] H Q E :=
  ⟨d, m, rfl, hs.dr, m0, m1, fun l H' h0 h1 h2 dr fr => k l H' h0 h1 h2 (hs.to dr fr)⟩
def t_law_wheel (K : PySem.W.Frag) : TS :=
  (tSeq (tAsg (tCall (sp_law_draw K) [] E0 (tCons (tVar 0) (tCons (tC (.int 4)) tNil))) (gName 2))
  (tSeq (tAsg (tOp (rIxL K) (tLst (tCons (tOp rAdd (tC (.int 1)) (tCall (sp_law_draw K) [] E0 (tCons (tVar 0) (tCons (tC (.int 3)) tNil)))) (tCons (tC (.int 2)) (tCons (tOp rAdd (tC (.int 3)) (tCall (sp_law_draw K) [] E0 (tCons (tVar 0) (tCons (tC (.int 5)) tNil)))) (tCons (tC (.int 26)) tNil))))) (tCall (sp_law_draw K) [] E0 (tCons (tVar 0) (tCons (tC (.int 4)) tNil)))) (gName 3))
  (tSeq (tAsg (tOp (rIxL K) (tLst (tCons (tOp rAdd (tC (.int 1)) (tCall (sp_law_draw K) [] E0 (tCons (tVar 0) (tCons (tC (.int 4)) tNil)))) (tCons (tOp rAdd (tC (.int 1)) (tCall (sp_law_draw K) [] E0 (tCons (tVar 0) (tCons (tVar 1) tNil)))) (tCons (tVar 1) (tCons (tOp rAdd (tC (.int 1)) (tCall (sp_law_draw K) [] E0 (tCons (tVar 0) (tCons (tC (.int 9)) tNil)))) tNil))))) (tVar 2)) (gName 4))
  (tRet (tCall (sp_law_letters K) [] E0 (tCons (tVar 0) (tCons (tCB rMin2 (tCons (tVar 4) (tCons (tVar 1) tNil))) (tCons (tVar 3) tNil))))))))

theorem rd_law_wheel {K : PySem.W.Frag} {vs : List V} {H : Hp} {Q : VK} {E : XK} (h : sp_law_wheel K vs H Q E) : t_law_wheel K { nx := fun _ H' => Q .non H', rt := Q } (start ["draws", "most", "way", "kinds", "many"] vs) H := by
  obtain ⟨d, m, rfl, dr, m0, m1, q⟩ := h
  show t_law_wheel K _ [some (.ref d), some (.int m), none, none, none] H
  have hs : LS (but H d) d H := LS.of dr
  unfold t_law_wheel
  walk_at "go"
  refine hs.draw (by omega) (by omega) fun way H1 w0 w1 hs => ?_
  walk_at "go"
  refine hs.draw (by omega) (by omega) fun r1 H2 a1 b1 hs => ?_
  walk_at "go"
  refine hs.draw (by omega) (by omega) fun r2 H3 a2 b2 hs => ?_
  walk_at "go"
  refine ⟨by show 4 ≤ sizeLine; decide, fun p np => ?_⟩
  walk_at "go"
  refine (hs.new np).draw (by omega) (by omega) fun r3 H4 a3 b3 hs' => ?_
  refine hs'.at (hs.nog np) (Bd 1 26) (all_cons ⟨_, rfl, by omega, by omega⟩ (all_cons ⟨_, rfl, by omega, by omega⟩ (all_cons ⟨_, rfl, by omega, by omega⟩ (all_cons ⟨_, rfl, by omega, by omega⟩ all_nil)))) a3 b3 fun v hv hs => ?_
  obtain ⟨kinds, rfl, k0, k1⟩ := hv
  walk_at "go"
  refine hs.draw (by omega) (by omega) fun r1 H5 a1 b1 hs => ?_
  walk_at "go"
  refine hs.draw (by omega) (by omega) fun r2 H6 a2 b2 hs => ?_
  walk_at "go"
  refine hs.draw (by omega) (by omega) fun r3 H7 a3 b3 hs => ?_
  walk_at "go"
  refine ⟨by show 4 ≤ sizeLine; decide, fun p2 np2 => ?_⟩
  walk_at "go"
  refine (hs.new np2).at (hs.nog np2) (Bd 1 100000) (all_cons ⟨_, rfl, by omega, by omega⟩ (all_cons ⟨_, rfl, by omega, by omega⟩ (all_cons ⟨_, rfl, by omega, by omega⟩ (all_cons ⟨_, rfl, by omega, by omega⟩ all_nil)))) w0 w1 fun v hv hs => ?_
  obtain ⟨many, rfl, y0, y1⟩ := hv
  walk_at "go"
  refine ⟨_, _, rfl, ?_⟩
  walk_at "go"
  refine hs.letters (by split <;> omega) (by split <;> omega) k0 k1 fun l H8 el lo hs => ?_
  refine q l H8 ?_ ?_ lo hs.dr hs.fr
  · split at el <;> omega
  · split at el <;> omega
def sp_law_figures (K : PySem.W.Frag) : Sp := fun vs H Q _ => ∃ (d : Addr) (m : Int), vs = [.ref d, .int m] ∧ Dr H d ∧ 1 ≤ m ∧ m ≤ 6 ∧ ∀ (r : Int) H', -(10 ^ 42) ≤ r → r ≤ 10 ^ 42 → Dr H' d → Fr d H H' → Q (.int r) H'
theorem ln_law_figures {K : PySem.W.Frag} {vs : List V} {H : Hp} {Q : VK} {E : XK} (h : sp_law_figures K vs H Q E) : vs.length = 2 := by
  obtain ⟨_, _, rfl, _⟩ := h
  rfl
theorem LS.figures {K : PySem.W.Frag} {G H : Hp} {d : Addr} {m : Int} {Q : VK} {E : XK} (hs : LS G d H) (m0 : 1 ≤ m) (m1 : m ≤ 6)
    (k : ∀ (r : Int) H', -(10 ^ 42) ≤ r → r ≤ 10 ^ 42 → LS G d H' → Q (.int r) H') : sp_law_figures K [.ref d, .int m] H Q E :=
  ⟨d, m, rfl, hs.dr, m0, m1, fun l H' h0 h1 dr fr => k l H' h0 h1 (hs.to dr fr)⟩
def t_law_figures (K : PySem.W.Frag) : TS :=
  (tSeq (tAsg (tCall (sp_law_draw K) [] E0 (tCons (tVar 0) (tCons (tOp rPow (tC (.int 10)) (tC (.int 6))) tNil))) (gName 2))
  (tSeq (tFor (iRng1 (tCons (tCall (sp_law_draw K) [] E0 (tCons (tVar 0) (tCons (tVar 1) tNil))) tNil)) (gName 3)
  (tAsg (tOp rAdd (tOp rMulW (tVar 2) (tOp rPow (tC (.int 10)) (tC (.int 6)))) (tCall (sp_law_draw K) [] E0 (tCons (tVar 0) (tCons (tOp rPow (tC (.int 10)) (tC (.int 6))) tNil)))) (gName 2)))
  (tRet (tOp (rIxL K) (tLst (tCons (tVar 2) (tCons (tOp rSub (tC (.int 0)) (tVar 2)) (tCons (tOp rSub (tOp rMod (tVar 2) (tC (.int 7))) (tC (.int 3))) tNil)))) (tCall (sp_law_draw K) [] E0 (tCons (tVar 0) (tCons (tC (.int 3)) tNil)))))))

theorem e6 : (10 : Int) ^ (6 : Int).toNat = 1000000 := rfl
theorem p6 {i : Nat} (h : i ≤ 6) : (1000000 : Int) ^ (i + 1) ≤ 10 ^ 42 := by
  have : i = 0 ∨ i = 1 ∨ i = 2 ∨ i = 3 ∨ i = 4 ∨ i = 5 ∨ i = 6 := by omega
  rcases this with rfl | rfl | rfl | rfl | rfl | rfl | rfl <;> decide
theorem rd_law_figures {K : PySem.W.Frag} {vs : List V} {H : Hp} {Q : VK} {E : XK} (h : sp_law_figures K vs H Q E) : t_law_figures K { nx := fun _ H' => Q .non H', rt := Q } (start ["draws", "most", "number", "k"] vs) H := by
  obtain ⟨d, m, rfl, dr, m0, m1, q⟩ := h
  show t_law_figures K _ [some (.ref d), some (.int m), none, none] H
  have hs : LS (but H d) d H := LS.of dr
  unfold t_law_figures
  walk_at "go"
  refine g_I ⟨by decide, by decide, by decide⟩ ?_
  rw [e6]
  walk_at "go"
  refine hs.draw (by omega) (by omega) fun r1 H1 a1 b1 hs => ?_
  refine g_seq (for1 (fun n Hn => 0 ≤ n ∧ n < m ∧ LS (but H d) d Hn) (fun QA h => ?_) (fun n i σ' H' => n < m ∧ ∃ (z : Int) (v : Option V), σ' = [some (.ref d), some (.int m), some (.int z), v] ∧ 0 ≤ z ∧ z < 1000000 ^ (i + 1) ∧ LS (but H d) d H') (fun n Hn hc => ?_) (fun n i σ' H' hi hp => ?_) (fun n σ' H' hp => ?_))
  · walk_at "go"
    refine hs.draw (by omega) (by omega) fun r2 H2 a2 b2 hs => ?_
    exact h _ _ ⟨a2, b2, hs⟩
  · obtain ⟨c0, c1, hs⟩ := hc
    exact ⟨by omega, by omega, c1, r1, none, rfl, a1, by simpa using b1, hs⟩
  · obtain ⟨nm, z, v, rfl, z0, z1, hs⟩ := hp
    have hp := p6 (i := i) (by omega)
    walk_at "go"
    refine g_I ⟨by decide, by decide, by decide⟩ ?_
    rw [e6]
    refine g_I (cm (by omega) (by omega) (by omega) (by omega)) ?_
    walk_at "go"
    refine g_I ⟨by decide, by decide, by decide⟩ ?_
    rw [e6]
    walk_at "go"
    refine hs.draw (by omega) (by omega) fun r2 H2 a2 b2 hs => ?_
    walk_at "go"
    refine ⟨nm, _, _, rfl, by omega, ?_, hs⟩
    rw [Int.pow_succ]
    generalize (1000000 : Int) ^ (i + 1) = b at z1
    omega
  · obtain ⟨nm, z, v, rfl, z0, z1, hs⟩ := hp
    have hp := p6 (i := n.toNat) (by omega)
    walk_at "go"
    refine g_I (by decide) ?_
    walk_at "go"
    refine ⟨by show 3 ≤ sizeLine; decide, fun p np => ?_⟩
    obtain ⟨x0, x1⟩ := emod_bd (z := z) (m := 7) (by decide)
    walk_at "go"
    refine (hs.new np).draw (by omega) (by omega) fun r3 H4 a3 b3 hs' => ?_
    refine hs'.at (hs.nog np) (Bd (-(10 ^ 42)) (10 ^ 42)) (all_cons ⟨_, rfl, by omega, by omega⟩ (all_cons ⟨_, rfl, by omega, by omega⟩ (all_cons ⟨_, rfl, by omega, by omega⟩ all_nil))) a3 b3 fun v hv hs => ?_
    obtain ⟨w, rfl, w0, w1⟩ := hv
    exact q w _ w0 w1 hs.dr hs.fr
end Sw
namespace Sw
open PySem PySem.Spec PyProof.Rows L2 SX
/-! ### signs, words, wheels -/
def lowB (c : Nat) : Bool := decide (97 ≤ c) && decide (c ≤ 122)
theorem lowB_iff {c : Nat} : lowB c = true ↔ 97 ≤ c ∧ c ≤ 122 := by unfold lowB; simp
theorem mem_abc (c : Nat) : decide (c ∈ abc) = lowB c := by
  by_cases h : 97 ≤ c ∧ c ≤ 122
  · rw [lowB_iff.mpr h, decide_eq_true_eq]
    unfold abc
    simp only [List.mem_cons, List.not_mem_nil, or_false]
    omega
  · have h2 : lowB c = false := by
      cases e : lowB c with
      | false => rfl
      | true => exact absurd (lowB_iff.mp e) h
    rw [h2, decide_eq_false_iff_not]
    intro hm
    exact h (abc_low c hm)
def sgn (l : List Nat) : Bool := l.all lowB
def isWord (l : List Nat) : Bool := decide (l.length ≤ 80) && sgn l
def isWheel (l : List Nat) : Bool := isWord l && (decide (1 ≤ l.length) && decide (l.length ≤ 30))
theorem sgn_low {l : List Nat} : sgn l = true ↔ Low l := by
  unfold sgn Low
  rw [List.all_eq_true]
  exact forall_congr' fun c => forall_congr' fun _ => lowB_iff
theorem isWord_iff {l : List Nat} : isWord l = true ↔ l.length ≤ 80 ∧ Low l := by
  unfold isWord
  rw [Bool.and_eq_true, decide_eq_true_eq, sgn_low]
theorem isWheel_iff {l : List Nat} : isWheel l = true ↔ 1 ≤ l.length ∧ l.length ≤ 30 ∧ Low l := by
  unfold isWheel
  rw [Bool.and_eq_true, Bool.and_eq_true, decide_eq_true_eq, decide_eq_true_eq, isWord_iff]
  constructor
  · rintro ⟨⟨_, h⟩, h1, h2⟩; exact ⟨h1, h2, h⟩
  · rintro ⟨h1, h2, h⟩; exact ⟨⟨by omega, h⟩, h1, h2⟩
def sp_are_signs (K : PySem.W.Frag) : Sp := fun vs H Q _ => ∃ l : List Nat, vs = [.str (S l)] ∧ Q (.bl (sgn l)) H
theorem ln_are_signs {K : PySem.W.Frag} {vs : List V} {H : Hp} {Q : VK} {E : XK} (h : sp_are_signs K vs H Q E) : vs.length = 1 := by
  obtain ⟨_, rfl, _⟩ := h
  rfl
def t_are_signs (K : PySem.W.Frag) : TS :=
  (tSeq (tFor (iStr (tVar 0)) (gName 1)
  (tIfS (tTest (tOp rNotInSign (tVar 1) (tC (.str "abcdefghijklmnopqrstuvwxyz")))) (tRet (tC (.bl false))) tNext))
  (tRet (tC (.bl true))))

theorem all_take {p : Nat → Bool} {l : List Nat} {i c : Nat} (h : l[i]? = some c) : (l.take (i + 1)).all p = ((l.take i).all p && p c) := by
  rw [List.take_add_one, h, List.all_append]
  simp
theorem rd_are_signs {K : PySem.W.Frag} {vs : List V} {H : Hp} {Q : VK} {E : XK} (h : sp_are_signs K vs H Q E) : t_are_signs K { nx := fun _ H' => Q .non H', rt := Q } (start ["text", "sign"] vs) H := by
  obtain ⟨l, rfl, q⟩ := h
  show t_are_signs K _ [some (.str (S l)), none] H
  unfold t_are_signs
  refine g_seq (forS (l := l) (fun Q h => ?_) (fun i σ' H' => H' = H ∧ (l.take i).all lowB = true ∧ ∃ v, σ' = [some (.str (S l)), v]) ⟨rfl, rfl, _, rfl⟩ (fun i c σ' H' hc hp => ?_) (fun σ' H' hp => ?_))
  · walk_at "go"
    exact h
  · obtain ⟨rfl, ha, v, rfl⟩ := hp
    walk_at "go"
    rw [show (V.str "abcdefghijklmnopqrstuvwxyz") = V.str (S abc) from congrArg V.str abc_S]
    refine ⟨c, S abc, rfl, rfl, ?_⟩
    walk_at "go"
    rw [show (S abc).cps.toList = abc from rfl, mem_abc]
    refine ite_b (fun hb => ?_) (fun hb => ?_)
    · walk_at "go"
      have e : sgn l = false := by
        unfold sgn
        rw [List.all_eq_false]
        refine ⟨c, List.mem_of_getElem? hc, ?_⟩
        intro z
        rw [z] at hb
        cases hb
      rw [e] at q
      exact q
    · walk_at "go"
      refine ⟨rfl, ?_, _, rfl⟩
      rw [all_take hc, ha]
      simpa using hb
  · obtain ⟨rfl, ha, v, rfl⟩ := hp
    walk_at "go"
    rw [List.take_length] at ha
    have e : sgn l = true := ha
    rw [e] at q
    exact q
def sp_is_word (K : PySem.W.Frag) : Sp := fun vs H Q _ => ∃ l : List Nat, vs = [.str (S l)] ∧ l.length ≤ 100000 ∧ Q (.bl (isWord l)) H
theorem ln_is_word {K : PySem.W.Frag} {vs : List V} {H : Hp} {Q : VK} {E : XK} (h : sp_is_word K vs H Q E) : vs.length = 1 := by
  obtain ⟨_, rfl, _⟩ := h
  rfl
def t_is_word (K : PySem.W.Frag) : TS :=
  (tRet (tAndV (tCB (rIsi K) (tCons (tVar 0) (tCons (tC (.ty "str")) tNil))) (tAndV (tOp rLe (tCB rLenStr (tCons (tVar 0) tNil)) (tC (.int 80))) (tCall (sp_are_signs K) [] E0 (tCons (tVar 0) tNil)))))

theorem g_isStr {K : PySem.W.Frag} {l : Str} {H : Hp} {Q : VK} (q : Q (.bl true) H) : rIsi K [.str l, .ty "str"] H Q := ⟨.str l, .ty "str", .type "str", .type "str", true, rfl, .ty "str", .base (.str l), kit_ty (by decide +kernel), q⟩
theorem g_lenS {l : List Nat} {H : Hp} {Q : VK} (h : l.length ≤ 100000) (q : Q (.int (l.length : Int)) H) : rLenStr [.str (S l)] H Q := ⟨S l, rfl, by rw [S_len]; exact Nat.le_trans h (by decide), by rw [S_len]; exact q⟩
theorem rd_is_word {K : PySem.W.Frag} {vs : List V} {H : Hp} {Q : VK} {E : XK} (h : sp_is_word K vs H Q E) : t_is_word K { nx := fun _ H' => Q .non H', rt := Q } (start ["thing"] vs) H := by
  obtain ⟨l, rfl, hl, q⟩ := h
  show t_is_word K _ [some (.str (S l))] H
  unfold t_is_word
  walk_at "go"
  refine g_isStr ?_
  walk_at "go"
  refine g_lenS hl ?_
  walk_at "go"
  have e : isWord l = (decide ((l.length : Int) ≤ 80) && sgn l) := by
    unfold isWord
    congr 1
    rw [decide_eq_decide]
    omega
  rw [e] at q
  refine ite_b (fun hb => ?_) (fun hb => ?_)
  · walk_at "go"
    rw [hb] at q
    exact ⟨l, rfl, q⟩
  · walk_at "go"
    rw [hb] at q
    exact q
def sp_is_wheel (K : PySem.W.Frag) : Sp := fun vs H Q _ => ∃ l : List Nat, vs = [.str (S l)] ∧ l.length ≤ 100000 ∧ Q (.bl (isWheel l)) H
theorem ln_is_wheel {K : PySem.W.Frag} {vs : List V} {H : Hp} {Q : VK} {E : XK} (h : sp_is_wheel K vs H Q E) : vs.length = 1 := by
  obtain ⟨_, rfl, _⟩ := h
  rfl
def t_is_wheel (K : PySem.W.Frag) : TS :=
  (tRet (tAndV (tCall (sp_is_word K) [] E0 (tCons (tVar 0) tNil)) (tChain rLe rLe (tC (.int 1)) (tCB rLenStr (tCons (tVar 0) tNil)) (tC (.int 30)))))

theorem rd_is_wheel {K : PySem.W.Frag} {vs : List V} {H : Hp} {Q : VK} {E : XK} (h : sp_is_wheel K vs H Q E) : t_is_wheel K { nx := fun _ H' => Q .non H', rt := Q } (start ["thing"] vs) H := by
  obtain ⟨l, rfl, hl, q⟩ := h
  show t_is_wheel K _ [some (.str (S l))] H
  unfold t_is_wheel
  walk_at "go"
  refine ⟨l, rfl, hl, ?_⟩
  walk_at "go"
  have e : isWheel l = (isWord l && (decide ((1 : Int) ≤ l.length) && decide ((l.length : Int) ≤ 30))) := by
    unfold isWheel
    congr 1
    congr 1
    · rw [decide_eq_decide]; omega
    · rw [decide_eq_decide]; omega
  rw [e] at q
  refine ite_b (fun hb => ?_) (fun hb => ?_)
  · rw [hb] at q
    walk_at "go"
    refine g_lenS hl ?_
    walk_at "go"
    refine ite_b (fun hc => ?_) (fun hc => ?_)
    · walk_at "go"
      rw [hc] at q
      exact q
    · rw [hc] at q
      exact q
  · rw [hb] at q
    walk_at "go"
    exact q
/-- of a wheel nothing is refused -/
def sp_look_at_wheel (K : PySem.W.Frag) : Sp := fun vs H Q _ => ∃ l : List Nat, vs = [.str (S l)] ∧ isWheel l = true ∧ Q .non H
theorem ln_look_at_wheel {K : PySem.W.Frag} {vs : List V} {H : Hp} {Q : VK} {E : XK} (h : sp_look_at_wheel K vs H Q E) : vs.length = 1 := by
  obtain ⟨_, rfl, _⟩ := h
  rfl
def t_look_at_wheel (K : PySem.W.Frag) : TS :=
  (tIfS (tNot (tB (tCall (sp_is_wheel K) [] E0 (tCons (tVar 0) tNil)))) tNever tNext)

theorem wheel_len {l : List Nat} (h : isWheel l = true) : l.length ≤ 100000 := by
  have := isWheel_iff.mp h
  omega
theorem rd_look_at_wheel {K : PySem.W.Frag} {vs : List V} {H : Hp} {Q : VK} {E : XK} (h : sp_look_at_wheel K vs H Q E) : t_look_at_wheel K { nx := fun _ H' => Q .non H', rt := Q } (start ["wheel"] vs) H := by
  obtain ⟨l, rfl, hw, q⟩ := h
  show t_look_at_wheel K _ [some (.str (S l))] H
  unfold t_look_at_wheel
  walk_at "go"
  refine ⟨l, rfl, wheel_len hw, ?_⟩
  walk_at "go"
  rw [hw]
  walk_at "go"
  refine iteF ?_
  exact q
/-! ### turned, in the glass -/
theorem cut_from {a : List Nat} {i : Int} (h : 0 ≤ i) : cutS (S a) (some i) none = S (a.drop i.toNat) := by
  obtain ⟨n, rfl⟩ : ∃ n : Nat, i = (n : Int) := ⟨i.toNat, by omega⟩
  unfold cutS
  rw [HT.sIx_nat, HT.sIx_none, S_len]
  show S ((a.drop (min n a.length)).take (a.length - min n a.length)) = S (a.drop n)
  refine congrArg S ?_
  by_cases hn : n ≤ a.length
  · rw [Nat.min_eq_left hn]
    exact List.take_of_length_le (by rw [List.length_drop]; omega)
  · rw [Nat.min_eq_right (by omega), List.drop_eq_nil_of_le (by omega), List.drop_eq_nil_of_le (by omega)]
    simp
theorem cut_to {a : List Nat} {i : Int} (h : 0 ≤ i) : cutS (S a) none (some i) = S (a.take i.toNat) := by
  obtain ⟨n, rfl⟩ : ∃ n : Nat, i = (n : Int) := ⟨i.toNat, by omega⟩
  unfold cutS
  rw [HT.sIx_nat, HT.sIx_none, S_len]
  show S ((a.drop 0).take (min n a.length - 0)) = S (a.take n)
  refine congrArg S ?_
  rw [List.drop_zero, Nat.sub_zero]
  by_cases hn : n ≤ a.length
  · rw [Nat.min_eq_left hn]
  · rw [Nat.min_eq_right (by omega), List.take_of_length_le (by omega), List.take_of_length_le (by omega)]
theorem g_from {a : List Nat} {i : Int} {H : Hp} {Q : VK} (h : 0 ≤ i) (hl : a.length ≤ 100000) (q : Q (.str (S (a.drop i.toNat))) H) : rSlS (.str (S a)) (some i) none H Q := ⟨S a, rfl, by rw [S_len]; exact Nat.le_trans hl (by decide), by rw [cut_from h]; exact q⟩
theorem g_to {a : List Nat} {i : Int} {H : Hp} {Q : VK} (h : 0 ≤ i) (hl : a.length ≤ 100000) (q : Q (.str (S (a.take i.toNat))) H) : rSlS (.str (S a)) none (some i) H Q := ⟨S a, rfl, by rw [S_len]; exact Nat.le_trans hl (by decide), by rw [cut_to h]; exact q⟩
theorem g_cat {a b : List Nat} {H : Hp} {Q : VK} (hl : a.length + b.length ≤ 1000000) (q : Q (.str (S (a ++ b))) H) : rAddS (.str (S a)) (.str (S b)) H Q := ⟨S a, S b, rfl, rfl, by rw [S_len, S_len]; exact Nat.le_trans hl (by decide), by rw [S_cat]; exact q⟩
def turnL (l : List Nat) (k : Int) : List Nat := l.drop (k % (l.length : Int)).toNat ++ l.take (k % (l.length : Int)).toNat
def glassL (l : List Nat) : List Nat := l.take 1 ++ (l.drop 1).reverse
def sp_turned (K : PySem.W.Frag) : Sp := fun vs H Q _ => ∃ (l : List Nat) (k : Int), vs = [.str (S l), .int k] ∧ isWheel l = true ∧ Q (.str (S (turnL l k))) H
theorem ln_turned {K : PySem.W.Frag} {vs : List V} {H : Hp} {Q : VK} {E : XK} (h : sp_turned K vs H Q E) : vs.length = 2 := by
  obtain ⟨_, _, rfl, _⟩ := h
  rfl
def t_turned (K : PySem.W.Frag) : TS :=
  (tSeq (tDrop (tCall (sp_look_at_wheel K) [] E0 (tCons (tVar 0) tNil)))
  (tSeq (tAsg (tOp rMod (tVar 1) (tCB rLenStr (tCons (tVar 0) tNil))) (gName 2))
  (tRet (tOp rAddS (tSl rSlS (tVar 0) (tPart (tVar 2)) tNoPart) (tSl rSlS (tVar 0) tNoPart (tPart (tVar 2)))))))

theorem rd_turned {K : PySem.W.Frag} {vs : List V} {H : Hp} {Q : VK} {E : XK} (h : sp_turned K vs H Q E) : t_turned K { nx := fun _ H' => Q .non H', rt := Q } (start ["wheel", "k", "at"] vs) H := by
  obtain ⟨l, k, rfl, hw, q⟩ := h
  show t_turned K _ [some (.str (S l)), some (.int k), none] H
  have hl := isWheel_iff.mp hw
  unfold t_turned
  walk_at "go"
  refine ⟨l, rfl, hw, ?_⟩
  walk_at "go"
  refine g_lenS (wheel_len hw) ?_
  refine g_I (by omega) ?_
  obtain ⟨k0, k1⟩ := emod_bd (z := k) (m := (l.length : Int)) (by omega)
  walk_at "go"
  refine g_from k0 (wheel_len hw) ?_
  walk_at "go"
  refine g_to k0 (wheel_len hw) ?_
  refine g_cat (by rw [List.length_drop, List.length_take]; omega) ?_
  exact q
def sp_in_glass (K : PySem.W.Frag) : Sp := fun vs H Q _ => ∃ l : List Nat, vs = [.str (S l)] ∧ isWheel l = true ∧ Q (.str (S (glassL l))) H
theorem ln_in_glass {K : PySem.W.Frag} {vs : List V} {H : Hp} {Q : VK} {E : XK} (h : sp_in_glass K vs H Q E) : vs.length = 1 := by
  obtain ⟨_, rfl, _⟩ := h
  rfl
def t_in_glass (K : PySem.W.Frag) : TS :=
  (tSeq (tDrop (tCall (sp_look_at_wheel K) [] E0 (tCons (tVar 0) tNil)))
  (tRet (tOp rAddS (tSl rSlS (tVar 0) tNoPart (tPart (tC (.int 1)))) (tRevS (tSl rSlS (tVar 0) (tPart (tC (.int 1))) tNoPart)))))

theorem rd_in_glass {K : PySem.W.Frag} {vs : List V} {H : Hp} {Q : VK} {E : XK} (h : sp_in_glass K vs H Q E) : t_in_glass K { nx := fun _ H' => Q .non H', rt := Q } (start ["wheel"] vs) H := by
  obtain ⟨l, rfl, hw, q⟩ := h
  show t_in_glass K _ [some (.str (S l))] H
  have hl := isWheel_iff.mp hw
  unfold t_in_glass
  walk_at "go"
  refine ⟨l, rfl, hw, ?_⟩
  walk_at "go"
  refine g_to (by decide) (wheel_len hw) ?_
  show tRevS _ _ _ _
  refine g_sl ?_
  walk_at "go"
  refine g_from (by decide) (wheel_len hw) ?_
  refine ⟨_, rfl, by rw [List.length_drop]; exact Nat.le_trans (show _ ≤ 30 by omega) (by decide), ?_⟩
  refine g_cat (by rw [List.length_reverse, List.length_drop, List.length_take]; omega) ?_
  exact q
/-! ### the mathematics of turning -/
theorem turn_len (l : List Nat) (k : Int) : (turnL l k).length = l.length := by
  unfold turnL
  rw [List.length_append, List.length_drop, List.length_take]
  omega
theorem glass_len (l : List Nat) : (glassL l).length = l.length := by
  unfold glassL
  rw [List.length_append, List.length_reverse, List.length_drop, List.length_take]
  omega
theorem turn_low {l : List Nat} {k : Int} (h : Low l) : Low (turnL l k) := fun c hc => by
  unfold turnL at hc
  rcases List.mem_append.mp hc with e | e
  · exact h c (List.mem_of_mem_drop e)
  · exact h c (List.mem_of_mem_take e)
theorem glass_low {l : List Nat} (h : Low l) : Low (glassL l) := fun c hc => by
  unfold glassL at hc
  rcases List.mem_append.mp hc with e | e
  · exact h c (List.mem_of_mem_take e)
  · exact h c (List.mem_of_mem_drop (List.mem_reverse.mp e))
theorem turn_wheel {l : List Nat} {k : Int} (h : isWheel l = true) : isWheel (turnL l k) = true := by
  obtain ⟨h1, h2, h3⟩ := isWheel_iff.mp h
  exact isWheel_iff.mpr ⟨by rw [turn_len]; exact h1, by rw [turn_len]; exact h2, turn_low h3⟩
theorem glass_wheel {l : List Nat} (h : isWheel l = true) : isWheel (glassL l) = true := by
  obtain ⟨h1, h2, h3⟩ := isWheel_iff.mp h
  exact isWheel_iff.mpr ⟨by rw [glass_len]; exact h1, by rw [glass_len]; exact h2, glass_low h3⟩
/-- the sign so far on -/
theorem turn_get {l : List Nat} {k : Int} {i : Nat} (hi : i < l.length) : (turnL l k)[i]? = l[(((i : Int) + k) % (l.length : Int)).toNat]? := by
  obtain ⟨k0, k1⟩ := emod_bd (z := k) (m := (l.length : Int)) (by omega)
  have e : ((i : Int) + k) % (l.length : Int) = ((i : Int) + k % (l.length : Int)) % (l.length : Int) := by rw [Int.add_emod_emod]
  unfold turnL
  generalize k % (l.length : Int) = a at k0 k1 e
  rw [e]
  by_cases h : i < l.length - a.toNat
  · rw [List.getElem?_append_left (by rw [List.length_drop]; exact h), List.getElem?_drop]
    rw [Int.emod_eq_of_lt (by omega) (by omega)]
    congr 1
    omega
  · rw [List.getElem?_append_right (by rw [List.length_drop]; omega), List.length_drop, List.getElem?_take_of_lt (by omega)]
    have e2 : ((i : Int) + a) % (l.length : Int) = (i : Int) + a - (l.length : Int) := by
      rw [← Int.sub_emod_right, Int.emod_eq_of_lt (by omega) (by omega)]
    rw [e2]
    congr 1
    omega
/-- the sign so far back -/
theorem glass_get {l : List Nat} {i : Nat} (hi : i < l.length) : (glassL l)[i]? = l[((0 - (i : Int)) % (l.length : Int)).toNat]? := by
  unfold glassL
  cases i with
  | zero =>
    rw [List.getElem?_append_left (by rw [List.length_take]; omega), List.getElem?_take_of_lt (by omega)]
    simp
  | succ j =>
    rw [List.getElem?_append_right (by rw [List.length_take]; omega), List.length_take, List.getElem?_reverse (by rw [List.length_drop]; omega), List.length_drop, List.getElem?_drop]
    have e2 : (0 - ((j + 1 : Nat) : Int)) % (l.length : Int) = (l.length : Int) - ((j : Int) + 1) := by
      rw [← Int.add_emod_right, Int.emod_eq_of_lt (by omega) (by omega)]
      omega
    rw [e2]
    congr 1
    omega
theorem ext_len {a b : List Nat} (hl : a.length = b.length) (h : ∀ i, i < a.length → a[i]? = b[i]?) : a = b := by
  apply List.ext_getElem?
  intro i
  by_cases hi : i < a.length
  · exact h i hi
  · rw [List.getElem?_eq_none (by omega), List.getElem?_eq_none (by omega)]
theorem emod_toNat {z : Int} {n : Nat} (h : 0 < n) : (z % (n : Int)).toNat < n ∧ (((z % (n : Int)).toNat : Nat) : Int) = z % (n : Int) := by
  obtain ⟨k0, k1⟩ := emod_bd (z := z) (m := (n : Int)) (by omega)
  omega
theorem turn_turn (l : List Nat) (j k : Int) (h : 0 < l.length) : turnL (turnL l j) k = turnL l (j + k) := by
  refine ext_len (by rw [turn_len, turn_len, turn_len]) fun i hi => ?_
  rw [turn_len, turn_len] at hi
  rw [turn_get (by rw [turn_len]; exact hi), turn_len]
  obtain ⟨a, b⟩ := emod_toNat (z := (i : Int) + k) h
  rw [turn_get a, turn_get hi, b]
  congr 2
  rw [Int.emod_add_emod]
  congr 1
  omega
theorem glass_glass (l : List Nat) (h : 0 < l.length) : glassL (glassL l) = l := by
  refine ext_len (by rw [glass_len, glass_len]) fun i hi => ?_
  rw [glass_len, glass_len] at hi
  rw [glass_get (by rw [glass_len]; exact hi), glass_len]
  obtain ⟨a, b⟩ := emod_toNat (z := 0 - (i : Int)) h
  rw [glass_get a, b]
  congr 1
  have : (0 - (0 - (i : Int)) % (l.length : Int)) % (l.length : Int) = (i : Int) := by
    rw [Int.sub_emod_emod, Int.emod_eq_of_lt (by omega) (by omega)]
    omega
  rw [this]
  omega
theorem glass_turn (l : List Nat) (k : Int) (h : 0 < l.length) : glassL (turnL l k) = turnL (glassL l) (0 - k) := by
  refine ext_len (by rw [glass_len, turn_len, turn_len, glass_len]) fun i hi => ?_
  rw [glass_len, turn_len] at hi
  rw [glass_get (by rw [turn_len]; exact hi), turn_len]
  obtain ⟨a, b⟩ := emod_toNat (z := 0 - (i : Int)) h
  rw [turn_get a, b, turn_get (by rw [glass_len]; exact hi), glass_len]
  obtain ⟨c, e⟩ := emod_toNat (z := (i : Int) + (0 - k)) h
  rw [glass_get c, e]
  congr 2
  rw [Int.sub_emod_emod, Int.emod_add_emod]
  congr 1
  omega
end Sw
namespace Sw
open PySem PySem.Spec PyProof.Rows L2 SX
/-! ### the law -/
def sp_law (K : PySem.W.Frag) : Sp := fun vs H Q _ => ∃ (a : Addr) (ns : List Int), vs = [.ref a] ∧ SqL K H a (ns.map V.int) ∧ ns.length ≤ 63 ∧ ∀ H', Q (.bl true) H'
theorem ln_law {K : PySem.W.Frag} {vs : List V} {H : Hp} {Q : VK} {E : XK} (h : sp_law K vs H Q E) : vs.length = 1 := by
  obtain ⟨_, _, rfl, _⟩ := h
  rfl
theorem LS.start {G H H' : Hp} {d : Addr} (e : Same G H) (nd : H d = none) (s : Same H H') (dr : Dr H' d) : LS G d H' := ⟨dr, e.trans s, e.free nd⟩
theorem g_lenL {K : PySem.W.Frag} {a : Addr} {xs : List V} {H : Hp} {Q : VK} (h : SqL K H a xs) (q : Q (.int (xs.length : Int)) H) : rLenSq K [.ref a] H Q := ⟨a, xs, rfl, .inl h, q⟩
theorem g_max {i j : Int} {H : Hp} {Q : VK} (q : Q (.int (if j > i then j else i)) H) : rMax2 [.int i, .int j] H Q := ⟨i, j, rfl, q⟩
theorem g_min {i j : Int} {H : Hp} {Q : VK} (q : Q (.int (if j < i then j else i)) H) : rMin2 [.int i, .int j] H Q := ⟨i, j, rfl, q⟩
def t_law (K : PySem.W.Frag) : TS :=
  (tSeq (tFor (iRng1 (tCons (tCB rMax2 (tCons (tC (.int 1)) (tCons (tCB rMin2 (tCons (tC (.int 20)) (tCons (tCB (rLenSq K) (tCons (tVar 0) tNil)) tNil))) tNil))) tNil)) (gName 1)
  (tSeq (tAsg (tCall (sp_law_draws K) [] E0 (tCons (tVar 0) (tCons (tVar 1) tNil))) (gName 2))
  (tSeq (tAsg (tCall (sp_law_wheel K) [] E0 (tCons (tVar 2) (tCons (tC (.int 30)) tNil))) (gName 3))
  (tSeq (tAsg (tCB rLenStr (tCons (tVar 3) tNil)) (gName 4))
  (tSeq (tAsg (tOp (rIxL K) (tLst (tCons (tOp rSub (tCall (sp_law_draw K) [] E0 (tCons (tVar 2) (tCons (tC (.int 70)) tNil))) (tC (.int 35))) (tCons (tCall (sp_law_figures K) [] E0 (tCons (tVar 2) (tCons (tC (.int 6)) tNil))) tNil))) (tCall (sp_law_draw K) [] E0 (tCons (tVar 2) (tCons (tC (.int 2)) tNil)))) (gName 5))
  (tSeq (tAsg (tOp (rIxL K) (tLst (tCons (tOp rSub (tCall (sp_law_draw K) [] E0 (tCons (tVar 2) (tCons (tC (.int 9)) tNil))) (tC (.int 4))) (tCons (tCall (sp_law_figures K) [] E0 (tCons (tVar 2) (tCons (tC (.int 6)) tNil))) (tCons (tVar 4) (tCons (tOp rSub (tC (.int 0)) (tVar 4)) tNil))))) (tCall (sp_law_draw K) [] E0 (tCons (tVar 2) (tCons (tC (.int 4)) tNil)))) (gName 6))
  (tSeq (tAsg (tCall (sp_turned K) [] E0 (tCons (tVar 3) (tCons (tVar 5) tNil))) (gName 7))
  (tSeq (tAsg (tCall (sp_in_glass K) [] E0 (tCons (tVar 3) tNil)) (gName 8))
  (tSeq (tIfS (tOr (tNot (tB (tCB (rIsi K) (tCons (tVar 7) (tCons (tC (.ty "str")) tNil))))) (tOr (tNot (tB (tCB (rIsi K) (tCons (tVar 8) (tCons (tC (.ty "str")) tNil))))) (tOr (tTest (tOp rNe (tCB rLenStr (tCons (tVar 7) tNil)) (tVar 4))) (tTest (tOp rNe (tCB rLenStr (tCons (tVar 8) tNil)) (tVar 4)))))) (tRet (tC (.bl false))) tNext)
  (tSeq (tFor (iRng1 (tCons (tVar 4) tNil)) (gName 9)
  (tIfS (tOr (tTest (tOp rNe (tOp rIxS (tVar 7) (tVar 9)) (tOp rIxS (tVar 3) (tOp rMod (tOp rAdd (tVar 9) (tVar 5)) (tVar 4))))) (tTest (tOp rNe (tOp rIxS (tVar 8) (tVar 9)) (tOp rIxS (tVar 3) (tOp rMod (tOp rSub (tC (.int 0)) (tVar 9)) (tVar 4)))))) (tRet (tC (.bl false))) tNext))
  (tSeq (tIfS (tOr (tTest (tOp rNe (tCall (sp_turned K) [] E0 (tCons (tVar 7) (tCons (tVar 6) tNil))) (tCall (sp_turned K) [] E0 (tCons (tVar 3) (tCons (tOp rAdd (tVar 5) (tVar 6)) tNil))))) (tTest (tOp rNe (tCall (sp_in_glass K) [] E0 (tCons (tVar 8) tNil)) (tVar 3)))) (tRet (tC (.bl false))) tNext)
  (tIfS (tTest (tOp rNe (tCall (sp_in_glass K) [] E0 (tCons (tVar 7) tNil)) (tCall (sp_turned K) [] E0 (tCons (tVar 8) (tCons (tOp rSub (tC (.int 0)) (tVar 5)) tNil))))) (tRet (tC (.bl false))) tNext))))))))))))
  (tRet (tC (.bl true))))

theorem S_inj' {a b : List Nat} : (V.str (S a) = V.str (S b)) ↔ a = b := ⟨fun h => S_inj (V.str.inj h), fun h => by rw [h]⟩
theorem rd_law {K : PySem.W.Frag} {vs : List V} {H : Hp} {Q : VK} {E : XK} (h : sp_law K vs H Q E) : t_law K { nx := fun _ H' => Q .non H', rt := Q } (start ["script", "k", "draws", "wheel", "many", "one", "other", "told", "glass", "place"] vs) H := by
  obtain ⟨a, ns, rfl, hS, hn, q⟩ := h
  show t_law K _ [some (.ref a), none, none, none, none, none, none, none, none, none] H
  unfold t_law
  refine g_seq (for1 (fun n Hn => n ≤ 20 ∧ 0 ≤ n ∧ Hn = H) (fun QA h => ?_) (fun n i σ' H' => n ≤ 20 ∧ Same H H' ∧ ∃ v1 v2 v3 v4 v5 v6 v7 v8 v9, σ' = [some (.ref a), v1, v2, v3, v4, v5, v6, v7, v8, v9]) (fun n Hn hc => ?_) (fun n i σ' H' hi hp => ?_) (fun n σ' H' hp => ?_))
  · walk_at "go"
    refine g_lenL hS ?_
    walk_at "go"
    refine g_min ?_
    walk_at "go"
    refine g_max ?_
    refine h _ _ ⟨?_, ?_, rfl⟩
    · split <;> split <;> omega
    · split <;> split <;> omega
  · obtain ⟨c0, c1, rfl⟩ := hc
    exact ⟨by omega, by omega, c0, Same.refl _, none, none, none, none, none, none, none, none, none, rfl⟩
  · obtain ⟨n20, sm, v1, v2, v3, v4, v5, v6, v7, v8, v9, rfl⟩ := hp
    walk_at "go"
    refine ⟨a, ns, _, rfl, sm.seq hS, hn, by omega, by omega, fun d H1 nd s1 dr => ?_⟩
    have hs : LS H d H1 := LS.start sm nd s1 dr
    walk_at "go"
    refine hs.wheel (by decide) (by decide) fun l H2 l0 l1 lo hs => ?_
    have hw : isWheel l = true := isWheel_iff.mpr ⟨l0, by omega, lo⟩
    walk_at "go"
    refine g_lenS (by omega) ?_
    walk_at "go"
    refine hs.draw (by omega) (by omega) fun r1 H3 a1 b1 hs => ?_
    walk_at "go"
    refine hs.figures (by decide) (by decide) fun r2 H4 a2 b2 hs => ?_
    walk_at "go"
    refine ⟨by show 2 ≤ sizeLine; decide, fun p np => ?_⟩
    walk_at "go"
    refine (hs.new np).draw (by omega) (by omega) fun r3 H5 a3 b3 hs' => ?_
    refine hs'.at (hs.nog np) (fun v => ∃ z, v = .int z) (all_cons ⟨_, rfl⟩ (all_cons ⟨_, rfl⟩ all_nil)) a3 b3 fun v hv hs => ?_
    obtain ⟨one, rfl⟩ := hv
    walk_at "go"
    refine hs.draw (by omega) (by omega) fun r1 H6 a1 b1 hs => ?_
    walk_at "go"
    refine hs.figures (by decide) (by decide) fun r2 H7 a2 b2 hs => ?_
    walk_at "go"
    refine ⟨by show 4 ≤ sizeLine; decide, fun p2 np2 => ?_⟩
    walk_at "go"
    refine (hs.new np2).draw (by omega) (by omega) fun r3 H8 a3 b3 hs' => ?_
    refine hs'.at (hs.nog np2) (fun v => ∃ z, v = .int z) (all_cons ⟨_, rfl⟩ (all_cons ⟨_, rfl⟩ (all_cons ⟨_, rfl⟩ (all_cons ⟨_, rfl⟩ all_nil)))) a3 b3 fun v hv hs => ?_
    obtain ⟨other, rfl⟩ := hv
    walk_at "go"
    refine ⟨l, one, rfl, hw, ?_⟩
    walk_at "go"
    refine ⟨l, rfl, hw, ?_⟩
    refine g_seq ?_
    walk_at "go"
    refine g_isStr ?_
    walk_at "go"
    refine iteF ?_
    walk_at "go"
    refine g_isStr ?_
    walk_at "go"
    refine iteF ?_
    walk_at "go"
    refine g_lenS (by rw [turn_len]; omega) ?_
    walk_at "go"
    rw [turn_len]
    refine iteNS rfl ?_
    walk_at "go"
    refine g_lenS (by rw [glass_len]; omega) ?_
    walk_at "go"
    rw [glass_len]
    refine iteNS rfl ?_
    walk_at "go"
    dsimp only
    refine g_seq (for1 (fun n' Hn => n' = l.length ∧ Hn = H8) (fun QA h => ?_) (fun n' i σ' H' => n' = l.length ∧ H' = H8 ∧ ∃ v1 v2 v9, σ' = [some (.ref a), v1, v2, some (.str (S l)), some (.int l.length), some (.int one), some (.int other), some (.str (S (turnL l one))), some (.str (S (glassL l))), v9]) (fun n' Hn hc => ?_) (fun n' i σ' H' hi hp => ?_) (fun n' σ' H' hp => ?_))
    · walk_at "go"
      exact h _ _ ⟨rfl, rfl⟩
    · obtain ⟨rfl, rfl⟩ := hc
      exact ⟨by omega, by omega, rfl, rfl, _, _, _, rfl⟩
    · obtain ⟨rfl, rfl, v1, v2, v9, rfl⟩ := hp
      have hil : i < l.length := by omega
      obtain ⟨m0, m1⟩ := emod_toNat (z := (i : Int) + one) (n := l.length) (by omega)
      obtain ⟨m2, m3⟩ := emod_toNat (z := 0 - (i : Int)) (n := l.length) (by omega)
      walk_at "go"
      have g1 : (turnL l one)[i]? = some l[(((i : Int) + one) % (l.length : Int)).toNat] := by rw [turn_get hil, List.getElem?_eq_getElem m0]
      refine g_ixS (K := K) (by rw [turn_len]; omega) (atI_nat g1) ?_
      walk_at "go"
      refine g_I (by omega) ?_
      refine g_ixS (K := K) (by omega) (by rw [← m1]; exact atI_nat (List.getElem?_eq_getElem m0)) ?_
      walk_at "go"
      refine iteNS rfl ?_
      walk_at "go"
      have g2 : (glassL l)[i]? = some l[((0 - (i : Int)) % (l.length : Int)).toNat] := by rw [glass_get hil, List.getElem?_eq_getElem m2]
      refine g_ixS (K := K) (by rw [glass_len]; omega) (atI_nat g2) ?_
      walk_at "go"
      refine g_I (by omega) ?_
      refine g_ixS (K := K) (by omega) (by rw [← m3]; exact atI_nat (List.getElem?_eq_getElem m2)) ?_
      walk_at "go"
      refine iteNS rfl ?_
      walk_at "go"
      exact ⟨rfl, rfl, _, _, _, rfl⟩
    · obtain ⟨rfl, rfl, v1, v2, v9, rfl⟩ := hp
      dsimp only
      refine g_seq ?_
      walk_at "go"
      refine ⟨_, other, rfl, turn_wheel hw, ?_⟩
      walk_at "go"
      refine ⟨_, one + other, rfl, hw, ?_⟩
      walk_at "go"
      rw [turn_turn l one other (by omega)]
      refine iteNS rfl ?_
      walk_at "go"
      refine ⟨_, rfl, glass_wheel hw, ?_⟩
      walk_at "go"
      rw [glass_glass l (by omega)]
      refine iteNS rfl ?_
      walk_at "go"
      refine ⟨_, rfl, turn_wheel hw, ?_⟩
      walk_at "go"
      refine ⟨_, 0 - one, rfl, glass_wheel hw, ?_⟩
      walk_at "go"
      rw [glass_turn l one (by omega)]
      refine iteNS rfl ?_
      walk_at "go"
      exact ⟨n20, hs.ex, _, _, _, _, _, _, _, _, _, rfl⟩
  · obtain ⟨_, sm, v1, v2, v3, v4, v5, v6, v7, v8, v9, rfl⟩ := hp
    walk_at "go"
    exact q H'
end Sw
namespace Sw
open PySem PySem.Spec PyProof.Rows L2 SX
def topS (i : Nat) : Stmt := PySem.Challenge.pw_strikewheel_k02_turned_and_in_the_glass.main.body.getD i (.Pass ⟨0, 0, 0, 0⟩)
abbrev s_are_signs : Stmt := topS 6
abbrev s_is_word : Stmt := topS 7
abbrev s_is_wheel : Stmt := topS 10
abbrev s_look_at_wheel : Stmt := topS 11
abbrev s_turned : Stmt := topS 12
abbrev s_in_glass : Stmt := topS 13
abbrev s_law_draws : Stmt := topS 15
abbrev s_law_draw : Stmt := topS 16
abbrev s_law_letters : Stmt := topS 17
abbrev s_law_wheel : Stmt := topS 18
abbrev s_law_figures : Stmt := topS 19
abbrev s_law : Stmt := topS 20
/-! what the names of built-ins and constants hold -/
structure Bl (mg : Str → Option Value) : Prop where
  int : mg "int" = none
  isinstance : mg "isinstance" = none
  len : mg "len" = none
  max : mg "max" = none
  min : mg "min" = none
  range : mg "range" = none
  str : mg "str" = none
  c_LETTERS : ∃ u, mg "LETTERS" = some u ∧ RelV (V.str "abcdefghijklmnopqrstuvwxyz") u
  c_MOST_PLACES : ∃ u, mg "MOST_PLACES" = some u ∧ RelV (V.int 30) u
  c_MOST_SIGNS : ∃ u, mg "MOST_SIGNS" = some u ∧ RelV (V.int 80) u
section
variable {P : Program} {w : World} {K : PySem.W.Frag} {mg : Str → Option Value} {base : Heap}
theorem sc_are_signs : FnScope ["text", "sign"] ["text"] (defScope s_are_signs) := ⟨rfl, rfl, rfl, by decide +kernel, rfl, by decide +kernel, by decide +kernel⟩
theorem ok_are_signs {f : Addr} {fd : FuncData} (F : L2.Fun K "are_signs" "are_signs" s_are_signs f fd) (g : mg "are_signs" = some (.ref f)) (b : Binds K fd ["text"] []) (B : Bl mg)  : Cal P w K mg base 1 "are_signs" (sp_are_signs K) :=
  ⟨f, fd, ["text"], F.ok sc_are_signs (fun vs H Q E h => ln_are_signs h) (fun cdv A outer s H vs Q E hr h => have hu := hu_of hr; ⟨t_are_signs K, (pss_cons (ps_for PassesOwn.never rfl (pi_str (pv 0)) (pg_name (i := 1) sc_are_signs.nd rfl (Or.inl rfl))
      (pss_one (ps_if (pt_cmpR op_notIn_sign (pv 1) (pe_gc rfl B.c_LETTERS) rfl) (pss_one (ps_ret pe_bl)) pss_nil)))
      (pss_one (ps_ret pe_bl))), rd_are_signs h⟩), g, F.kp, b⟩
theorem sc_is_word : FnScope ["thing"] ["thing"] (defScope s_is_word) := ⟨rfl, rfl, rfl, by decide +kernel, rfl, by decide +kernel, by decide +kernel⟩
theorem ok_is_word {f : Addr} {fd : FuncData} (F : L2.Fun K "is_word" "is_word" s_is_word f fd) (g : mg "is_word" = some (.ref f)) (b : Binds K fd ["thing"] []) (B : Bl mg) (c_are_signs : Cal P w K mg base 1 "are_signs" (sp_are_signs K)) : Cal P w K mg base 2 "is_word" (sp_is_word K) :=
  ⟨f, fd, ["thing"], F.ok sc_is_word (fun vs H Q E h => ln_is_word h) (fun cdv A outer s H vs Q E hr h => have hu := hu_of hr; ⟨t_is_word K, (pss_one (ps_ret (pe_and (pe_callB call_isi (by rfl) B.isinstance (by decide +kernel) (pa_cons (pv 0) (pa_cons (pe_bltn (v := .ty "str") (by rfl) B.str (by decide +kernel) rfl) pa_nil))) (pe_and (pe_cmpR op_le (pe_callB call_len_str (by rfl) B.len (by decide +kernel) (pa_cons (pv 0) pa_nil)) (pe_gc rfl B.c_MOST_SIGNS) (nomark _)) (pe_one (pe_cal c_are_signs hr (by decide) (by rfl) (pa_cons (pv 0) pa_nil))))))), rd_is_word h⟩), g, F.kp, b⟩
theorem sc_is_wheel : FnScope ["thing"] ["thing"] (defScope s_is_wheel) := ⟨rfl, rfl, rfl, by decide +kernel, rfl, by decide +kernel, by decide +kernel⟩
theorem ok_is_wheel {f : Addr} {fd : FuncData} (F : L2.Fun K "is_wheel" "is_wheel" s_is_wheel f fd) (g : mg "is_wheel" = some (.ref f)) (b : Binds K fd ["thing"] []) (B : Bl mg) (c_is_word : Cal P w K mg base 2 "is_word" (sp_is_word K)) : Cal P w K mg base 3 "is_wheel" (sp_is_wheel K) :=
  ⟨f, fd, ["thing"], F.ok sc_is_wheel (fun vs H Q E h => ln_is_wheel h) (fun cdv A outer s H vs Q E hr h => have hu := hu_of hr; ⟨t_is_wheel K, (pss_one (ps_ret (pe_and (pe_cal c_is_word hr (by decide) (by rfl) (pa_cons (pv 0) pa_nil)) (pe_one (pe_chain op_le op_le pe_int (pe_callB call_len_str (by rfl) B.len (by decide +kernel) (pa_cons (pv 0) pa_nil)) (pe_gc rfl B.c_MOST_PLACES)))))), rd_is_wheel h⟩), g, F.kp, b⟩
theorem sc_look_at_wheel : FnScope ["wheel"] ["wheel"] (defScope s_look_at_wheel) := ⟨rfl, rfl, rfl, by decide +kernel, rfl, by decide +kernel, by decide +kernel⟩
theorem ok_look_at_wheel {f : Addr} {fd : FuncData} (F : L2.Fun K "look_at_wheel" "look_at_wheel" s_look_at_wheel f fd) (g : mg "look_at_wheel" = some (.ref f)) (b : Binds K fd ["wheel"] []) (B : Bl mg) (c_is_wheel : Cal P w K mg base 3 "is_wheel" (sp_is_wheel K)) : Cal P w K mg base 4 "look_at_wheel" (sp_look_at_wheel K) :=
  ⟨f, fd, ["wheel"], F.ok sc_look_at_wheel (fun vs H Q E h => ln_look_at_wheel h) (fun cdv A outer s H vs Q E hr h => have hu := hu_of hr; ⟨t_look_at_wheel K, (pss_one (ps_if (pt_not (pt_val (pe_cal c_is_wheel hr (by decide) (by rfl) (pa_cons (pv 0) pa_nil)))) (pss_one ps_never) pss_nil)), rd_look_at_wheel h⟩), g, F.kp, b⟩
theorem sc_turned : FnScope ["wheel", "k", "at"] ["wheel", "k"] (defScope s_turned) := ⟨rfl, rfl, rfl, by decide +kernel, rfl, by decide +kernel, by decide +kernel⟩
theorem ok_turned {f : Addr} {fd : FuncData} (F : L2.Fun K "turned" "turned" s_turned f fd) (g : mg "turned" = some (.ref f)) (b : Binds K fd ["wheel", "k"] []) (B : Bl mg) (c_look_at_wheel : Cal P w K mg base 4 "look_at_wheel" (sp_look_at_wheel K)) : Cal P w K mg base 5 "turned" (sp_turned K) :=
  ⟨f, fd, ["wheel", "k"], F.ok sc_turned (fun vs H Q E h => ln_turned h) (fun cdv A outer s H vs Q E hr h => have hu := hu_of hr; ⟨t_turned K, (pss_cons (ps_expr (pe_cal c_look_at_wheel hr (by decide) (by rfl) (pa_cons (pv 0) pa_nil)))
      (pss_cons (ps_set (i := 2) sc_turned.nd rfl (Or.inl rfl) (pe_op op_mod (pv 1) (pe_callB call_len_str (by rfl) B.len (by decide +kernel) (pa_cons (pv 0) pa_nil))))
      (pss_one (ps_ret (pe_op op_add_str (pe_slice sl_str (pv 0) (po_some (pv 2)) po_none) (pe_slice sl_str (pv 0) po_none (po_some (pv 2)))))))), rd_turned h⟩), g, F.kp, b⟩
theorem sc_in_glass : FnScope ["wheel"] ["wheel"] (defScope s_in_glass) := ⟨rfl, rfl, rfl, by decide +kernel, rfl, by decide +kernel, by decide +kernel⟩
theorem ok_in_glass {f : Addr} {fd : FuncData} (F : L2.Fun K "in_glass" "in_glass" s_in_glass f fd) (g : mg "in_glass" = some (.ref f)) (b : Binds K fd ["wheel"] []) (B : Bl mg) (c_look_at_wheel : Cal P w K mg base 4 "look_at_wheel" (sp_look_at_wheel K)) : Cal P w K mg base 5 "in_glass" (sp_in_glass K) :=
  ⟨f, fd, ["wheel"], F.ok sc_in_glass (fun vs H Q E h => ln_in_glass h) (fun cdv A outer s H vs Q E hr h => have hu := hu_of hr; ⟨t_in_glass K, (pss_cons (ps_expr (pe_cal c_look_at_wheel hr (by decide) (by rfl) (pa_cons (pv 0) pa_nil)))
      (pss_one (ps_ret (pe_op op_add_str (pe_slice sl_str (pv 0) po_none (po_some pe_int)) (pe_revS (pe_slice sl_str (pv 0) (po_some pe_int) po_none)))))), rd_in_glass h⟩), g, F.kp, b⟩
theorem sc_law_draws : FnScope ["script", "k", "primes", "cell", "seed"] ["script", "k"] (defScope s_law_draws) := ⟨rfl, rfl, rfl, by decide +kernel, rfl, by decide +kernel, by decide +kernel⟩
theorem ok_law_draws {f : Addr} {fd : FuncData} (F : L2.Fun K "_law_draws" "_law_draws" s_law_draws f fd) (g : mg "_law_draws" = some (.ref f)) (b : Binds K fd ["script", "k"] []) (B : Bl mg)  : Cal P w K mg base 1 "_law_draws" (sp_law_draws K) :=
  ⟨f, fd, ["script", "k"], F.ok sc_law_draws (fun vs H Q E h => ln_law_draws h) (fun cdv A outer s H vs Q E hr h => have hu := hu_of hr; ⟨t_law_draws K, (pss_cons (ps_set (i := 2) sc_law_draws.nd rfl (Or.inl rfl) (pe_tup (pa_cons pe_int (pa_cons pe_int (pa_cons pe_int (pa_cons pe_int (pa_cons pe_int (pa_cons pe_int (pa_cons pe_int (pa_cons pe_int pa_nil))))))))))
      (pss_cons (ps_set (i := 3) sc_law_draws.nd rfl (Or.inl rfl) (pe_op op_add (pe_op op_mulW pe_int (pv 1)) pe_int))
      (pss_cons (ps_if (pt_cmpR op_lt (pv 1) (pe_callB call_len_seq (by rfl) B.len (by decide +kernel) (pa_cons (pv 0) pa_nil)) (nomark _)) (pss_one (ps_set (i := 3) sc_law_draws.nd rfl (Or.inl rfl) (pe_op op_mod (pe_ix ix_list (pv 0) (pv 1) (fun _ _ => rfl)) (pe_op op_mulW (pe_op op_pow pe_int pe_int) (pe_op op_pow pe_int pe_int))))) (pss_one (ps_if (pt_cmpR op_gt (pe_callB call_len_seq (by rfl) B.len (by decide +kernel) (pa_cons (pv 0) pa_nil)) pe_int (nomark _)) (pss_one (ps_set (i := 3) sc_law_draws.nd rfl (Or.inl rfl) (pe_op op_add (pe_op op_mod (pe_ix ix_list (pv 0) (pe_op op_mod (pv 1) (pe_callB call_len_seq (by rfl) B.len (by decide +kernel) (pa_cons (pv 0) pa_nil))) (fun _ _ => rfl)) (pe_op op_pow pe_int pe_int)) (pe_op op_mulW pe_int (pv 1))))) pss_nil)))
      (pss_cons (ps_set (i := 4) sc_law_draws.nd rfl (Or.inl rfl) (pe_op op_mod (pe_op op_mulW (pe_op op_add (pe_op op_add (pe_op op_mod (pv 3) pe_int) (pe_op op_mulW pe_int (pv 1))) pe_int) (pe_op op_add pe_int (pe_op op_mulW (pe_op op_mulW pe_int (pv 1)) (pv 1)))) pe_int))
      (pss_cons (ps_set (i := 4) sc_law_draws.nd rfl (Or.inl rfl) (pe_op op_add (pe_op op_add (pe_op op_mod (pe_op op_mulW (pe_op op_mulW (pv 4) (pv 4)) (pv 4)) pe_int) (pv 1)) pe_int))
      (pss_one (ps_ret (pe_lst (pa_cons (pe_op op_mulW (pv 3) (pe_callTy call_int1 (by rfl) B.int (by decide +kernel) (pa_cons (pe_cmpR op_ge (pv 3) (pe_op op_pow pe_int pe_int) (nomark _)) pa_nil))) (pa_cons (pv 4) (pa_cons (pe_ix ix_tup (pv 2) (pe_op op_mod (pv 1) pe_int) (fun _ _ => rfl)) pa_nil))))))))))), rd_law_draws h⟩), g, F.kp, b⟩
theorem sc_law_draw : FnScope ["draws", "many", "found"] ["draws", "many"] (defScope s_law_draw) := ⟨rfl, rfl, rfl, by decide +kernel, rfl, by decide +kernel, by decide +kernel⟩
theorem ok_law_draw {f : Addr} {fd : FuncData} (F : L2.Fun K "_law_draw" "_law_draw" s_law_draw f fd) (g : mg "_law_draw" = some (.ref f)) (b : Binds K fd ["draws", "many"] []) (B : Bl mg)  : Cal P w K mg base 1 "_law_draw" (sp_law_draw K) :=
  ⟨f, fd, ["draws", "many"], F.ok sc_law_draw (fun vs H Q E h => ln_law_draw h) (fun cdv A outer s H vs Q E hr h => have hu := hu_of hr; ⟨t_law_draw K, (pss_cons (ps_if (pt_cmpR op_gt (pe_ix ix_list (pv 0) pe_int (fun _ _ => rfl)) pe_int (nomark _)) (pss_cons (ps_set (i := 2) sc_law_draw.nd rfl (Or.inl rfl) (pe_op op_mod (pe_ix ix_list (pv 0) pe_int (fun _ _ => rfl)) (pv 1)))
      (pss_cons (ps_asg (pe_op op_fdivW (pe_ix ix_list (pv 0) pe_int (fun _ _ => rfl)) (pv 1)) (pg_sub (pv 0) pe_int set_list))
      (pss_one (ps_ret (pv 2))))) pss_nil)
      (pss_cons (ps_asg (pe_op op_add (pe_op op_mod (pe_op op_mulW (pe_ix ix_list (pv 0) pe_int (fun _ _ => rfl)) pe_int) (pe_ix ix_list (pv 0) pe_int (fun _ _ => rfl))) pe_int) (pg_sub (pv 0) pe_int set_list))
      (pss_one (ps_ret (pe_op op_mod (pe_op op_fdivW (pe_op op_mod (pe_op op_mulW (pe_ix ix_list (pv 0) pe_int (fun _ _ => rfl)) (pe_op op_add (pe_op op_fdivW (pe_ix ix_list (pv 0) pe_int (fun _ _ => rfl)) pe_int) pe_int)) pe_int) pe_int) (pv 1)))))), rd_law_draw h⟩), g, F.kp, b⟩
theorem sc_law_letters : FnScope ["draws", "many", "kinds", "letters", "first", "k"] ["draws", "many", "kinds"] (defScope s_law_letters) := ⟨rfl, rfl, rfl, by decide +kernel, rfl, by decide +kernel, by decide +kernel⟩
theorem ok_law_letters {f : Addr} {fd : FuncData} (F : L2.Fun K "_law_letters" "_law_letters" s_law_letters f fd) (g : mg "_law_letters" = some (.ref f)) (b : Binds K fd ["draws", "many", "kinds"] []) (B : Bl mg) (c_law_draw : Cal P w K mg base 1 "_law_draw" (sp_law_draw K)) : Cal P w K mg base 2 "_law_letters" (sp_law_letters K) :=
  ⟨f, fd, ["draws", "many", "kinds"], F.ok sc_law_letters (fun vs H Q E h => ln_law_letters h) (fun cdv A outer s H vs Q E hr h => have hu := hu_of hr; ⟨t_law_letters K, (pss_cons (ps_set (i := 3) sc_law_letters.nd rfl (Or.inr rfl) pe_str)
      (pss_cons (ps_set (i := 4) sc_law_letters.nd rfl (Or.inr rfl) (pe_cal c_law_draw hr (by decide) (by rfl) (pa_cons (pv 0) (pa_cons (pe_op op_sub pe_int (pv 2)) pa_nil))))
      (pss_one (ps_ret (pe_join pe_str (pe_lc (own := [("k", 5)]) (g := (gName 5)) (tt := tYes) (by rfl) sc_law_letters.nd (pi_range1 rfl B.range (pa_cons (pv 1) pa_nil)) (blkOk_by (own := [("k", 5)]) (N := ["draws", "many", "kinds", "letters", "first", "k"]) (sc := defScope s_law_letters) (by decide +kernel)) (fun _ _ _ _ _ => (pg_name (i := 5) sc_law_letters.nd rfl (Or.inl rfl))) (fun _ _ _ _ _ => pts_nil) (fun _ _ _ _ _ => (pe_ix ix_str (pv 3) (pe_op op_add (pv 4) (pe_cal c_law_draw hr (by decide) (by rfl) (pa_cons (pv 0) (pa_cons (pv 2) pa_nil)))) (fun _ _ => rfl))))))))), rd_law_letters h⟩), g, F.kp, b⟩
theorem sc_law_wheel : FnScope ["draws", "most", "way", "kinds", "many"] ["draws", "most"] (defScope s_law_wheel) := ⟨rfl, rfl, rfl, by decide +kernel, rfl, by decide +kernel, by decide +kernel⟩
theorem ok_law_wheel {f : Addr} {fd : FuncData} (F : L2.Fun K "_law_wheel" "_law_wheel" s_law_wheel f fd) (g : mg "_law_wheel" = some (.ref f)) (b : Binds K fd ["draws", "most"] []) (B : Bl mg) (c_law_draw : Cal P w K mg base 1 "_law_draw" (sp_law_draw K)) (c_law_letters : Cal P w K mg base 2 "_law_letters" (sp_law_letters K)) : Cal P w K mg base 3 "_law_wheel" (sp_law_wheel K) :=
  ⟨f, fd, ["draws", "most"], F.ok sc_law_wheel (fun vs H Q E h => ln_law_wheel h) (fun cdv A outer s H vs Q E hr h => have hu := hu_of hr; ⟨t_law_wheel K, (pss_cons (ps_set (i := 2) sc_law_wheel.nd rfl (Or.inl rfl) (pe_cal c_law_draw hr (by decide) (by rfl) (pa_cons (pv 0) (pa_cons pe_int pa_nil))))
      (pss_cons (ps_set (i := 3) sc_law_wheel.nd rfl (Or.inl rfl) (pe_ix ix_list (pe_lst (pa_cons (pe_op op_add pe_int (pe_cal c_law_draw hr (by decide) (by rfl) (pa_cons (pv 0) (pa_cons pe_int pa_nil)))) (pa_cons pe_int (pa_cons (pe_op op_add pe_int (pe_cal c_law_draw hr (by decide) (by rfl) (pa_cons (pv 0) (pa_cons pe_int pa_nil)))) (pa_cons pe_int pa_nil))))) (pe_cal c_law_draw hr (by decide) (by rfl) (pa_cons (pv 0) (pa_cons pe_int pa_nil))) (fun _ _ => rfl)))
      (pss_cons (ps_set (i := 4) sc_law_wheel.nd rfl (Or.inl rfl) (pe_ix ix_list (pe_lst (pa_cons (pe_op op_add pe_int (pe_cal c_law_draw hr (by decide) (by rfl) (pa_cons (pv 0) (pa_cons pe_int pa_nil)))) (pa_cons (pe_op op_add pe_int (pe_cal c_law_draw hr (by decide) (by rfl) (pa_cons (pv 0) (pa_cons (pv 1) pa_nil)))) (pa_cons (pv 1) (pa_cons (pe_op op_add pe_int (pe_cal c_law_draw hr (by decide) (by rfl) (pa_cons (pv 0) (pa_cons pe_int pa_nil)))) pa_nil))))) (pv 2) (fun _ _ => rfl)))
      (pss_one (ps_ret (pe_cal c_law_letters hr (by decide) (by rfl) (pa_cons (pv 0) (pa_cons (pe_callB (call_min2 rfl) (by rfl) B.min (by decide +kernel) (pa_cons (pv 4) (pa_cons (pv 1) pa_nil))) (pa_cons (pv 3) pa_nil))))))))), rd_law_wheel h⟩), g, F.kp, b⟩
theorem sc_law_figures : FnScope ["draws", "most", "number", "k"] ["draws", "most"] (defScope s_law_figures) := ⟨rfl, rfl, rfl, by decide +kernel, rfl, by decide +kernel, by decide +kernel⟩
theorem ok_law_figures {f : Addr} {fd : FuncData} (F : L2.Fun K "_law_figures" "_law_figures" s_law_figures f fd) (g : mg "_law_figures" = some (.ref f)) (b : Binds K fd ["draws", "most"] []) (B : Bl mg) (c_law_draw : Cal P w K mg base 1 "_law_draw" (sp_law_draw K)) : Cal P w K mg base 2 "_law_figures" (sp_law_figures K) :=
  ⟨f, fd, ["draws", "most"], F.ok sc_law_figures (fun vs H Q E h => ln_law_figures h) (fun cdv A outer s H vs Q E hr h => have hu := hu_of hr; ⟨t_law_figures K, (pss_cons (ps_set (i := 2) sc_law_figures.nd rfl (Or.inl rfl) (pe_cal c_law_draw hr (by decide) (by rfl) (pa_cons (pv 0) (pa_cons (pe_op op_pow pe_int pe_int) pa_nil))))
      (pss_cons (ps_for PassesOwn.never rfl (pi_range1 rfl B.range (pa_cons (pe_cal c_law_draw hr (by decide) (by rfl) (pa_cons (pv 0) (pa_cons (pv 1) pa_nil))) pa_nil)) (pg_name (i := 3) sc_law_figures.nd rfl (Or.inl rfl))
      (pss_one (ps_set (i := 2) sc_law_figures.nd rfl (Or.inl rfl) (pe_op op_add (pe_op op_mulW (pv 2) (pe_op op_pow pe_int pe_int)) (pe_cal c_law_draw hr (by decide) (by rfl) (pa_cons (pv 0) (pa_cons (pe_op op_pow pe_int pe_int) pa_nil)))))))
      (pss_one (ps_ret (pe_ix ix_list (pe_lst (pa_cons (pv 2) (pa_cons (pe_op op_sub pe_int (pv 2)) (pa_cons (pe_op op_sub (pe_op op_mod (pv 2) pe_int) pe_int) pa_nil)))) (pe_cal c_law_draw hr (by decide) (by rfl) (pa_cons (pv 0) (pa_cons pe_int pa_nil))) (fun _ _ => rfl)))))), rd_law_figures h⟩), g, F.kp, b⟩
theorem sc_law : FnScope ["script", "k", "draws", "wheel", "many", "one", "other", "told", "glass", "place"] ["script"] (defScope s_law) := ⟨rfl, rfl, rfl, by decide +kernel, rfl, by decide +kernel, by decide +kernel⟩
theorem ok_law {f : Addr} {fd : FuncData} (F : L2.Fun K "law" "law" s_law f fd) (B : Bl mg) (c_law_draws : Cal P w K mg base 1 "_law_draws" (sp_law_draws K)) (c_law_wheel : Cal P w K mg base 3 "_law_wheel" (sp_law_wheel K)) (c_law_figures : Cal P w K mg base 2 "_law_figures" (sp_law_figures K)) (c_law_draw : Cal P w K mg base 1 "_law_draw" (sp_law_draw K)) (c_turned : Cal P w K mg base 5 "turned" (sp_turned K)) (c_in_glass : Cal P w K mg base 5 "in_glass" (sp_in_glass K)) : FnOk P w K mg base CX0 6 f fd ["script"] (sp_law K) :=
  F.ok sc_law (fun vs H Q E h => ln_law h) (fun cdv A outer s H vs Q E hr h => have hu := hu_of hr; ⟨t_law K, (pss_cons (ps_for PassesOwn.never rfl (pi_range1 rfl B.range (pa_cons (pe_callB (call_max2 rfl) (by rfl) B.max (by decide +kernel) (pa_cons pe_int (pa_cons (pe_callB (call_min2 rfl) (by rfl) B.min (by decide +kernel) (pa_cons pe_int (pa_cons (pe_callB call_len_seq (by rfl) B.len (by decide +kernel) (pa_cons (pv 0) pa_nil)) pa_nil))) pa_nil))) pa_nil)) (pg_name (i := 1) sc_law.nd rfl (Or.inl rfl))
      (pss_cons (ps_set (i := 2) sc_law.nd rfl (Or.inl rfl) (pe_cal c_law_draws hr (by decide) (by rfl) (pa_cons (pv 0) (pa_cons (pv 1) pa_nil))))
      (pss_cons (ps_set (i := 3) sc_law.nd rfl (Or.inl rfl) (pe_cal c_law_wheel hr (by decide) (by rfl) (pa_cons (pv 2) (pa_cons pe_int pa_nil))))
      (pss_cons (ps_set (i := 4) sc_law.nd rfl (Or.inl rfl) (pe_callB call_len_str (by rfl) B.len (by decide +kernel) (pa_cons (pv 3) pa_nil)))
      (pss_cons (ps_set (i := 5) sc_law.nd rfl (Or.inl rfl) (pe_ix ix_list (pe_lst (pa_cons (pe_op op_sub (pe_cal c_law_draw hr (by decide) (by rfl) (pa_cons (pv 2) (pa_cons pe_int pa_nil))) pe_int) (pa_cons (pe_cal c_law_figures hr (by decide) (by rfl) (pa_cons (pv 2) (pa_cons pe_int pa_nil))) pa_nil))) (pe_cal c_law_draw hr (by decide) (by rfl) (pa_cons (pv 2) (pa_cons pe_int pa_nil))) (fun _ _ => rfl)))
      (pss_cons (ps_set (i := 6) sc_law.nd rfl (Or.inl rfl) (pe_ix ix_list (pe_lst (pa_cons (pe_op op_sub (pe_cal c_law_draw hr (by decide) (by rfl) (pa_cons (pv 2) (pa_cons pe_int pa_nil))) pe_int) (pa_cons (pe_cal c_law_figures hr (by decide) (by rfl) (pa_cons (pv 2) (pa_cons pe_int pa_nil))) (pa_cons (pv 4) (pa_cons (pe_op op_sub pe_int (pv 4)) pa_nil))))) (pe_cal c_law_draw hr (by decide) (by rfl) (pa_cons (pv 2) (pa_cons pe_int pa_nil))) (fun _ _ => rfl)))
      (pss_cons (ps_set (i := 7) sc_law.nd rfl (Or.inl rfl) (pe_cal c_turned hr (by decide) (by rfl) (pa_cons (pv 3) (pa_cons (pv 5) pa_nil))))
      (pss_cons (ps_set (i := 8) sc_law.nd rfl (Or.inl rfl) (pe_cal c_in_glass hr (by decide) (by rfl) (pa_cons (pv 3) pa_nil)))
      (pss_cons (ps_if (pw_or (pt_not (pt_val (pe_callB call_isi (by rfl) B.isinstance (by decide +kernel) (pa_cons (pv 7) (pa_cons (pe_bltn (v := .ty "str") (by rfl) B.str (by decide +kernel) rfl) pa_nil))))) (pw_or (pt_not (pt_val (pe_callB call_isi (by rfl) B.isinstance (by decide +kernel) (pa_cons (pv 8) (pa_cons (pe_bltn (v := .ty "str") (by rfl) B.str (by decide +kernel) rfl) pa_nil))))) (pw_or (pt_cmpR op_ne (pe_callB call_len_str (by rfl) B.len (by decide +kernel) (pa_cons (pv 7) pa_nil)) (pv 4) (nomark _)) (pw_or1 (pt_cmpR op_ne (pe_callB call_len_str (by rfl) B.len (by decide +kernel) (pa_cons (pv 8) pa_nil)) (pv 4) (nomark _)))))).pt (pss_one (ps_ret pe_bl)) pss_nil)
      (pss_cons (ps_for PassesOwn.never rfl (pi_range1 rfl B.range (pa_cons (pv 4) pa_nil)) (pg_name (i := 9) sc_law.nd rfl (Or.inl rfl))
      (pss_one (ps_if (pw_or (pt_cmpR op_ne (pe_ix ix_str (pv 7) (pv 9) (fun _ _ => rfl)) (pe_ix ix_str (pv 3) (pe_op op_mod (pe_op op_add (pv 9) (pv 5)) (pv 4)) (fun _ _ => rfl)) (nomark _)) (pw_or1 (pt_cmpR op_ne (pe_ix ix_str (pv 8) (pv 9) (fun _ _ => rfl)) (pe_ix ix_str (pv 3) (pe_op op_mod (pe_op op_sub pe_int (pv 9)) (pv 4)) (fun _ _ => rfl)) (nomark _)))).pt (pss_one (ps_ret pe_bl)) pss_nil)))
      (pss_cons (ps_if (pw_or (pt_cmpR op_ne (pe_cal c_turned hr (by decide) (by rfl) (pa_cons (pv 7) (pa_cons (pv 6) pa_nil))) (pe_cal c_turned hr (by decide) (by rfl) (pa_cons (pv 3) (pa_cons (pe_op op_add (pv 5) (pv 6)) pa_nil))) (nomark _)) (pw_or1 (pt_cmpR op_ne (pe_cal c_in_glass hr (by decide) (by rfl) (pa_cons (pv 8) pa_nil)) (pv 3) (nomark _)))).pt (pss_one (ps_ret pe_bl)) pss_nil)
      (pss_one (ps_if (pt_cmpR op_ne (pe_cal c_in_glass hr (by decide) (by rfl) (pa_cons (pv 7) pa_nil)) (pe_cal c_turned hr (by decide) (by rfl) (pa_cons (pv 8) (pa_cons (pe_op op_sub pe_int (pv 5)) pa_nil))) (nomark _)) (pss_one (ps_ret pe_bl)) pss_nil)))))))))))))
      (pss_one (ps_ret pe_bl))), rd_law h⟩)
end
theorem all_mk {l : PySem.W.OpenLaw} {w : World} {K : PySem.W.Frag} {h : Heap} {mg : Str → Option Value} {fa : Addr} (X : K.In h) (G : h.Ns mainGlobals mg) (hfa : mg "law" = some (.ref fa))
    {f0 : Addr} {od0 an0 : Option Addr} {sl0 : Array (Option Value)} {oc0 kV0 dc0 pm0 cd0 ct0 : Value}
    {f1 : Addr} {od1 an1 : Option Addr} {sl1 : Array (Option Value)} {oc1 kV1 dc1 pm1 cd1 ct1 : Value}
    {f2 : Addr} {od2 an2 : Option Addr} {sl2 : Array (Option Value)} {oc2 kV2 dc2 pm2 cd2 ct2 : Value}
    {f3 : Addr} {od3 an3 : Option Addr} {sl3 : Array (Option Value)} {oc3 kV3 dc3 pm3 cd3 ct3 : Value}
    {f4 : Addr} {od4 an4 : Option Addr} {sl4 : Array (Option Value)} {oc4 kV4 dc4 pm4 cd4 ct4 : Value}
    {f5 : Addr} {od5 an5 : Option Addr} {sl5 : Array (Option Value)} {oc5 kV5 dc5 pm5 cd5 ct5 : Value}
    {f6 : Addr} {od6 an6 : Option Addr} {sl6 : Array (Option Value)} {oc6 kV6 dc6 pm6 cd6 ct6 : Value}
    {f7 : Addr} {od7 an7 : Option Addr} {sl7 : Array (Option Value)} {oc7 kV7 dc7 pm7 cd7 ct7 : Value}
    {f8 : Addr} {od8 an8 : Option Addr} {sl8 : Array (Option Value)} {oc8 kV8 dc8 pm8 cd8 ct8 : Value}
    {f9 : Addr} {od9 an9 : Option Addr} {sl9 : Array (Option Value)} {oc9 kV9 dc9 pm9 cd9 ct9 : Value}
    {f10 : Addr} {od10 an10 : Option Addr} {sl10 : Array (Option Value)} {oc10 kV10 dc10 pm10 cd10 ct10 : Value}
    {f11 : Addr} {od11 an11 : Option Addr} {sl11 : Array (Option Value)} {oc11 kV11 dc11 pm11 cd11 ct11 : Value}
    {t_LETTERS : Tok}
    {t_MOST_PLACES : Tok}
    {t_MOST_SIGNS : Tok}
    (a0 : PySem.W.nsIn K mainGlobals "are_signs" = some (some (.ref f0))) (l0 : K.lookup f0 = some ⟨oc0, od0, .func (PySem.W.fnOf "are_signs" "are_signs" (defArgs s_are_signs) (defBody s_are_signs) (defScope s_are_signs) .none kV0 dc0 pm0 an0 cd0 ct0), sl0⟩) (c0 : PySem.W.codeIn K cd0 "are_signs" = true) (k0 : PySem.W.keepIn K (.ref f0) = true)
    (a1 : PySem.W.nsIn K mainGlobals "is_word" = some (some (.ref f1))) (l1 : K.lookup f1 = some ⟨oc1, od1, .func (PySem.W.fnOf "is_word" "is_word" (defArgs s_is_word) (defBody s_is_word) (defScope s_is_word) .none kV1 dc1 pm1 an1 cd1 ct1), sl1⟩) (c1 : PySem.W.codeIn K cd1 "is_word" = true) (k1 : PySem.W.keepIn K (.ref f1) = true)
    (a2 : PySem.W.nsIn K mainGlobals "is_wheel" = some (some (.ref f2))) (l2 : K.lookup f2 = some ⟨oc2, od2, .func (PySem.W.fnOf "is_wheel" "is_wheel" (defArgs s_is_wheel) (defBody s_is_wheel) (defScope s_is_wheel) .none kV2 dc2 pm2 an2 cd2 ct2), sl2⟩) (c2 : PySem.W.codeIn K cd2 "is_wheel" = true) (k2 : PySem.W.keepIn K (.ref f2) = true)
    (a3 : PySem.W.nsIn K mainGlobals "look_at_wheel" = some (some (.ref f3))) (l3 : K.lookup f3 = some ⟨oc3, od3, .func (PySem.W.fnOf "look_at_wheel" "look_at_wheel" (defArgs s_look_at_wheel) (defBody s_look_at_wheel) (defScope s_look_at_wheel) .none kV3 dc3 pm3 an3 cd3 ct3), sl3⟩) (c3 : PySem.W.codeIn K cd3 "look_at_wheel" = true) (k3 : PySem.W.keepIn K (.ref f3) = true)
    (a4 : PySem.W.nsIn K mainGlobals "turned" = some (some (.ref f4))) (l4 : K.lookup f4 = some ⟨oc4, od4, .func (PySem.W.fnOf "turned" "turned" (defArgs s_turned) (defBody s_turned) (defScope s_turned) .none kV4 dc4 pm4 an4 cd4 ct4), sl4⟩) (c4 : PySem.W.codeIn K cd4 "turned" = true) (k4 : PySem.W.keepIn K (.ref f4) = true)
    (a5 : PySem.W.nsIn K mainGlobals "in_glass" = some (some (.ref f5))) (l5 : K.lookup f5 = some ⟨oc5, od5, .func (PySem.W.fnOf "in_glass" "in_glass" (defArgs s_in_glass) (defBody s_in_glass) (defScope s_in_glass) .none kV5 dc5 pm5 an5 cd5 ct5), sl5⟩) (c5 : PySem.W.codeIn K cd5 "in_glass" = true) (k5 : PySem.W.keepIn K (.ref f5) = true)
    (a6 : PySem.W.nsIn K mainGlobals "_law_draws" = some (some (.ref f6))) (l6 : K.lookup f6 = some ⟨oc6, od6, .func (PySem.W.fnOf "_law_draws" "_law_draws" (defArgs s_law_draws) (defBody s_law_draws) (defScope s_law_draws) .none kV6 dc6 pm6 an6 cd6 ct6), sl6⟩) (c6 : PySem.W.codeIn K cd6 "_law_draws" = true) (k6 : PySem.W.keepIn K (.ref f6) = true)
    (a7 : PySem.W.nsIn K mainGlobals "_law_draw" = some (some (.ref f7))) (l7 : K.lookup f7 = some ⟨oc7, od7, .func (PySem.W.fnOf "_law_draw" "_law_draw" (defArgs s_law_draw) (defBody s_law_draw) (defScope s_law_draw) .none kV7 dc7 pm7 an7 cd7 ct7), sl7⟩) (c7 : PySem.W.codeIn K cd7 "_law_draw" = true) (k7 : PySem.W.keepIn K (.ref f7) = true)
    (a8 : PySem.W.nsIn K mainGlobals "_law_letters" = some (some (.ref f8))) (l8 : K.lookup f8 = some ⟨oc8, od8, .func (PySem.W.fnOf "_law_letters" "_law_letters" (defArgs s_law_letters) (defBody s_law_letters) (defScope s_law_letters) .none kV8 dc8 pm8 an8 cd8 ct8), sl8⟩) (c8 : PySem.W.codeIn K cd8 "_law_letters" = true) (k8 : PySem.W.keepIn K (.ref f8) = true)
    (a9 : PySem.W.nsIn K mainGlobals "_law_wheel" = some (some (.ref f9))) (l9 : K.lookup f9 = some ⟨oc9, od9, .func (PySem.W.fnOf "_law_wheel" "_law_wheel" (defArgs s_law_wheel) (defBody s_law_wheel) (defScope s_law_wheel) .none kV9 dc9 pm9 an9 cd9 ct9), sl9⟩) (c9 : PySem.W.codeIn K cd9 "_law_wheel" = true) (k9 : PySem.W.keepIn K (.ref f9) = true)
    (a10 : PySem.W.nsIn K mainGlobals "_law_figures" = some (some (.ref f10))) (l10 : K.lookup f10 = some ⟨oc10, od10, .func (PySem.W.fnOf "_law_figures" "_law_figures" (defArgs s_law_figures) (defBody s_law_figures) (defScope s_law_figures) .none kV10 dc10 pm10 an10 cd10 ct10), sl10⟩) (c10 : PySem.W.codeIn K cd10 "_law_figures" = true) (k10 : PySem.W.keepIn K (.ref f10) = true)
    (a11 : PySem.W.nsIn K mainGlobals "law" = some (some (.ref f11))) (l11 : K.lookup f11 = some ⟨oc11, od11, .func (PySem.W.fnOf "law" "law" (defArgs s_law) (defBody s_law) (defScope s_law) .none kV11 dc11 pm11 an11 cd11 ct11), sl11⟩) (c11 : PySem.W.codeIn K cd11 "law" = true) (k11 : PySem.W.keepIn K (.ref f11) = true)
    (z_int : PySem.W.nsIn K mainGlobals "int" = some none)
    (z_isinstance : PySem.W.nsIn K mainGlobals "isinstance" = some none)
    (z_len : PySem.W.nsIn K mainGlobals "len" = some none)
    (z_max : PySem.W.nsIn K mainGlobals "max" = some none)
    (z_min : PySem.W.nsIn K mainGlobals "min" = some none)
    (z_range : PySem.W.nsIn K mainGlobals "range" = some none)
    (z_str : PySem.W.nsIn K mainGlobals "str" = some none)
    (g_LETTERS : PySem.W.nsIn K mainGlobals "LETTERS" = some (some (Value.str "abcdefghijklmnopqrstuvwxyz" t_LETTERS)))
    (g_MOST_PLACES : PySem.W.nsIn K mainGlobals "MOST_PLACES" = some (some (Value.int 30 t_MOST_PLACES)))
    (g_MOST_SIGNS : PySem.W.nsIn K mainGlobals "MOST_SIGNS" = some (some (Value.int 80 t_MOST_SIGNS)))
    : ∃ fd : FuncData, (∀ (s : Shared) (v : Value), BindsTo s fd ⟨[v], []⟩ [("script", v)]) ∧ ∀ base : Heap, K.In base → base.Ns mainGlobals mg → FnOk l.prog w K mg base CX0 6 fa fd ["script"] (sp_law K) := by
  have e := hfa.symm.trans (PySem.W.mg_of X G a11)
  cases e
  have B : Bl mg := ⟨PySem.W.mg_none_of X G z_int, PySem.W.mg_none_of X G z_isinstance, PySem.W.mg_none_of X G z_len, PySem.W.mg_none_of X G z_max, PySem.W.mg_none_of X G z_min, PySem.W.mg_none_of X G z_range, PySem.W.mg_none_of X G z_str, ⟨_, PySem.W.mg_of X G g_LETTERS, ⟨_, rfl⟩⟩, ⟨_, PySem.W.mg_of X G g_MOST_PLACES, ⟨_, rfl⟩⟩, ⟨_, PySem.W.mg_of X G g_MOST_SIGNS, ⟨_, rfl⟩⟩⟩
  have F0 := fun_mk (st := s_are_signs) l0 c0 k0
  have b0 := F0.binds (ps := ["text"]) fun _ _ _ _ _ _ us hl => match us, hl with | [_], _ => rfl
  have F1 := fun_mk (st := s_is_word) l1 c1 k1
  have b1 := F1.binds (ps := ["thing"]) fun _ _ _ _ _ _ us hl => match us, hl with | [_], _ => rfl
  have F2 := fun_mk (st := s_is_wheel) l2 c2 k2
  have b2 := F2.binds (ps := ["thing"]) fun _ _ _ _ _ _ us hl => match us, hl with | [_], _ => rfl
  have F3 := fun_mk (st := s_look_at_wheel) l3 c3 k3
  have b3 := F3.binds (ps := ["wheel"]) fun _ _ _ _ _ _ us hl => match us, hl with | [_], _ => rfl
  have F4 := fun_mk (st := s_turned) l4 c4 k4
  have b4 := F4.binds (ps := ["wheel", "k"]) fun _ _ _ _ _ _ us hl => match us, hl with | [_, _], _ => rfl
  have F5 := fun_mk (st := s_in_glass) l5 c5 k5
  have b5 := F5.binds (ps := ["wheel"]) fun _ _ _ _ _ _ us hl => match us, hl with | [_], _ => rfl
  have F6 := fun_mk (st := s_law_draws) l6 c6 k6
  have b6 := F6.binds (ps := ["script", "k"]) fun _ _ _ _ _ _ us hl => match us, hl with | [_, _], _ => rfl
  have F7 := fun_mk (st := s_law_draw) l7 c7 k7
  have b7 := F7.binds (ps := ["draws", "many"]) fun _ _ _ _ _ _ us hl => match us, hl with | [_, _], _ => rfl
  have F8 := fun_mk (st := s_law_letters) l8 c8 k8
  have b8 := F8.binds (ps := ["draws", "many", "kinds"]) fun _ _ _ _ _ _ us hl => match us, hl with | [_, _, _], _ => rfl
  have F9 := fun_mk (st := s_law_wheel) l9 c9 k9
  have b9 := F9.binds (ps := ["draws", "most"]) fun _ _ _ _ _ _ us hl => match us, hl with | [_, _], _ => rfl
  have F10 := fun_mk (st := s_law_figures) l10 c10 k10
  have b10 := F10.binds (ps := ["draws", "most"]) fun _ _ _ _ _ _ us hl => match us, hl with | [_, _], _ => rfl
  have F11 := fun_mk (st := s_law) l11 c11 k11
  refine ⟨PySem.W.fnOf "law" "law" (defArgs s_law) (defBody s_law) (defScope s_law) .none kV11 dc11 pm11 an11 cd11 ct11, fun s v => .of_eq rfl, fun base _ _ => ?_⟩
  have C_are_signs : Cal l.prog w K mg base 1 "are_signs" (sp_are_signs K) := ok_are_signs F0 (PySem.W.mg_of X G a0) b0 B 
  have C_is_word : Cal l.prog w K mg base 2 "is_word" (sp_is_word K) := ok_is_word F1 (PySem.W.mg_of X G a1) b1 B C_are_signs
  have C_is_wheel : Cal l.prog w K mg base 3 "is_wheel" (sp_is_wheel K) := ok_is_wheel F2 (PySem.W.mg_of X G a2) b2 B C_is_word
  have C_look_at_wheel : Cal l.prog w K mg base 4 "look_at_wheel" (sp_look_at_wheel K) := ok_look_at_wheel F3 (PySem.W.mg_of X G a3) b3 B C_is_wheel
  have C_turned : Cal l.prog w K mg base 5 "turned" (sp_turned K) := ok_turned F4 (PySem.W.mg_of X G a4) b4 B C_look_at_wheel
  have C_in_glass : Cal l.prog w K mg base 5 "in_glass" (sp_in_glass K) := ok_in_glass F5 (PySem.W.mg_of X G a5) b5 B C_look_at_wheel
  have C_law_draws : Cal l.prog w K mg base 1 "_law_draws" (sp_law_draws K) := ok_law_draws F6 (PySem.W.mg_of X G a6) b6 B 
  have C_law_draw : Cal l.prog w K mg base 1 "_law_draw" (sp_law_draw K) := ok_law_draw F7 (PySem.W.mg_of X G a7) b7 B 
  have C_law_letters : Cal l.prog w K mg base 2 "_law_letters" (sp_law_letters K) := ok_law_letters F8 (PySem.W.mg_of X G a8) b8 B C_law_draw
  have C_law_wheel : Cal l.prog w K mg base 3 "_law_wheel" (sp_law_wheel K) := ok_law_wheel F9 (PySem.W.mg_of X G a9) b9 B C_law_draw C_law_letters
  have C_law_figures : Cal l.prog w K mg base 2 "_law_figures" (sp_law_figures K) := ok_law_figures F10 (PySem.W.mg_of X G a10) b10 B C_law_draw
  exact ok_law F11 B C_law_draws C_law_wheel C_law_figures C_law_draw C_turned C_in_glass
end Sw
open PySem PySem.W PyProof.Rows
set_option maxHeartbeats 0 in
theorem PySem.Challenge.cw_strikewheel_k02_turned_and_in_the_glass_holds : PySem.Challenge.rw_strikewheel_k02_turned_and_in_the_glass.Holds := by
  w_on; o_law; k_head; (case hw => w_witness2)
  k_fill
  refine L2.walk_of (l := PySem.Challenge.rw_strikewheel_k02_turned_and_in_the_glass) (n := 63) (k := 6) (x := "script") (CX := fun _ => L2.CX0) (sp := fun w => Sw.sp_law _) rfl (by decide) rfl ⟨rfl, by decide, by decide⟩ (fun w h Y => PySem.W.kIn_of Y) ?F (fun _ _ a ns hl _ hS => ⟨a, ns, rfl, hS, hl, fun _ => rfl⟩) (fun _ _ _ _ _ h => h)
  case F =>
    intro w mg fa h KX G hmg
    refine' Sw.all_mk KX G hmg ?a0 ?l0 ?c0 ?k0 ?a1 ?l1 ?c1 ?k1 ?a2 ?l2 ?c2 ?k2 ?a3 ?l3 ?c3 ?k3 ?a4 ?l4 ?c4 ?k4 ?a5 ?l5 ?c5 ?k5 ?a6 ?l6 ?c6 ?k6 ?a7 ?l7 ?c7 ?k7 ?a8 ?l8 ?c8 ?k8 ?a9 ?l9 ?c9 ?k9 ?a10 ?l10 ?c10 ?k10 ?a11 ?l11 ?c11 ?k11 ?z_int ?z_isinstance ?z_len ?z_max ?z_min ?z_range ?z_str ?g_LETTERS ?g_MOST_PLACES ?g_MOST_SIGNS
    (case a0 => k_is); (case l0 => k_is); (case c0 => k_is); (case k0 => k_is); (case a1 => k_is); (case l1 => k_is)
    (case c1 => k_is); (case k1 => k_is); (case a2 => k_is); (case l2 => k_is); (case c2 => k_is); (case k2 => k_is)
    (case a3 => k_is); (case l3 => k_is); (case c3 => k_is); (case k3 => k_is); (case a4 => k_is); (case l4 => k_is)
    (case c4 => k_is); (case k4 => k_is); (case a5 => k_is); (case l5 => k_is); (case c5 => k_is); (case k5 => k_is)
    (case a6 => k_is); (case l6 => k_is); (case c6 => k_is); (case k6 => k_is); (case a7 => k_is); (case l7 => k_is)
    (case c7 => k_is); (case k7 => k_is); (case a8 => k_is); (case l8 => k_is); (case c8 => k_is); (case k8 => k_is)
    (case a9 => k_is); (case l9 => k_is); (case c9 => k_is); (case k9 => k_is); (case a10 => k_is); (case l10 => k_is)
    (case c10 => k_is); (case k10 => k_is); (case a11 => k_is); (case l11 => k_is); (case c11 => k_is); (case k11 => k_is)
    (case z_int => k_is); (case z_isinstance => k_is); (case z_len => k_is); (case z_max => k_is); (case z_min => k_is); (case z_range => k_is)
    (case z_str => k_is); (case g_LETTERS => k_is); (case g_MOST_PLACES => k_is); (case g_MOST_SIGNS => k_is)
