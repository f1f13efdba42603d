import PyProof.Rows.All
import Wide.All
import OpenK.AllK
import Wide.FinOn
import HandS.ForMost
import HandS.ForExc
import HandS.Codes
import HandS.Style
import HandS.Wide
import HandS.IsInst
import HandS.TupAny
import HandS.HotCalls
import HandS.ExcIs
import HandS.ExcCtx
import HandS.Hot
import PySem.Challenge.RW_strikewheel_k01_words_and_wheels
set_option Elab.async false
set_option linter.all false
set_option maxRecDepth 100000
set_option maxHeartbeats 4000000
set_option exponentiation.threshold 2000
/-! The layer of all laws: names for readings, calls by their promises, texts, draws. -/
namespace Sw
open PySem PySem.Spec PyProof.Rows L2 SX

/-! ### names for what operators and built-ins read -/
abbrev rAdd : R2 := rI0 fun i j => .int (i + j)
abbrev rSub : R2 := rI0 fun i j => .int (i - j)
abbrev rMulW : R2 := rI CMulW fun i j => .int (i * j)
abbrev rDivW : R2 := rI CDivW fun i j => .int (i / j)
abbrev rMod : R2 := rI (fun _ j => 0 < j) fun i j => .int (i % j)
abbrev rPow : R2 := rI CPow fun i j => .int (i ^ j.toNat)
abbrev rNeg : V → Hp → VK → Prop := rU fun i => .int (-i)
abbrev rLt : R2 := rI0 fun i j => .bl (decide (i < j))
abbrev rLe : R2 := rI0 fun i j => .bl (decide (i ≤ j))
abbrev rGt : R2 := rI0 fun i j => .bl (decide (j < i))
abbrev rGe : R2 := rI0 fun i j => .bl (decide (j ≤ i))
abbrev rLtS : R2 := fun x y H Q => ∃ i j, x = .str i ∧ y = .str j ∧ Q (.bl (decide (i.cps.toList < j.cps.toList))) H
abbrev rLeS : R2 := fun x y H Q => ∃ i j, x = .str i ∧ y = .str j ∧ Q (.bl (!decide (j.cps.toList < i.cps.toList))) H
abbrev rGtS : R2 := fun x y H Q => ∃ i j, x = .str i ∧ y = .str j ∧ Q (.bl (decide (j.cps.toList < i.cps.toList))) H
abbrev rGeS : R2 := fun x y H Q => ∃ i j, x = .str i ∧ y = .str j ∧ Q (.bl (!decide (i.cps.toList < j.cps.toList))) H
abbrev rAddS : R2 := fun x y H Q => ∃ i j, x = .str i ∧ y = .str j ∧ i.length + j.length ≤ sizeLine ∧ Q (.str (i ++ j)) H
abbrev rInSign : R2 := fun x y H Q => ∃ (c : Nat) (z : Str), x = .str ⟨#[c]⟩ ∧ y = .str z ∧ Q (.bl (decide (c ∈ z.cps.toList))) H
abbrev rNotInSign : R2 := fun x y H Q => ∃ (c : Nat) (z : Str), x = .str ⟨#[c]⟩ ∧ y = .str z ∧ Q (.bl (!decide (c ∈ z.cps.toList))) H
abbrev rIsNn : R2 := fun x y H Q => y = .non ∧ Q (.bl (decide (x = .non))) H
abbrev rNotNn : R2 := fun x y H Q => y = .non ∧ Q (.bl (!decide (x = .non))) H
abbrev RC := List V → Hp → VK → Prop
abbrev rLenStr : RC := fun xs H Q => ∃ z, xs = [.str z] ∧ z.length ≤ sizeLine ∧ Q (.int z.length) H
abbrev rLenSq (K : PySem.W.Frag) : RC := fun xs H Q => ∃ p ys, xs = [.ref p] ∧ (SqL K H p ys ∨ SqT K H p ys) ∧ Q (.int ys.length) H
abbrev rAbs : RC := fun xs H Q => ∃ i, xs = [.int i] ∧ Q (.int (if i < 0 then -i else i)) H
abbrev rMax2 : RC := fun xs H Q => ∃ i j, xs = [.int i, .int j] ∧ Q (.int (if j > i then j else i)) H
abbrev rMin2 : RC := fun xs H Q => ∃ i j, xs = [.int i, .int j] ∧ Q (.int (if j < i then j else i)) H
abbrev rInt1 : RC := fun xs H Q => (∃ i, xs = [.int i] ∧ Q (.int i) H) ∨ ∃ k, xs = [.bl k] ∧ Q (.int (if k then 1 else 0)) H
abbrev rListOf (K : PySem.W.Frag) : RC := fun xs H Q => ∃ p ys, xs = [.ref p] ∧ (SqL K H p ys ∨ SqT K H p ys) ∧ ∀ l, H l = none → Q (.ref l) (upd H l (.lst ys))
abbrev rTupleOf (K : PySem.W.Frag) : RC := fun xs H Q => ∃ p ys, xs = [.ref p] ∧ ((SqL K H p ys ∧ ∀ l, H l = none → Q (.ref l) (upd H l (.tup ys))) ∨ (SqT K H p ys ∧ Q (.ref p) H))
abbrev rStrInt : RC := fun xs H Q => ∃ i, xs = [.int i] ∧ i.natAbs.log2 < 1920 ∧ Q (.str (toString i)) H
abbrev rJoin (K : PySem.W.Frag) : V → List V → Hp → VK → Prop := fun x xs H Q => ∃ a p, ∃ ys : List Str, x = .str a ∧ xs = [.ref p] ∧ (SqL K H p (ys.map V.str) ∨ SqT K H p (ys.map V.str)) ∧ (ys.map (·.length)).sum + ys.length * a.length ≤ 16777216 ∧ Q (.str (Txt.join a ys)) H

/-! ### calls by promises -/
/-- the def under the name x keeps sp, by level k; nothing leaves it -/
structure Cal (P : Program) (w : World) (K : PySem.W.Frag) (mg : Str → Option Value) (base : Heap) (k : Nat) (x : Str) (sp : Sp) : Prop where
  ex : ∃ (f : Addr) (fd : FuncData) (ps : List Str), FnOk P w K mg base CX0 k f fd ps sp ∧ mg x = some (.ref f) ∧ PySem.W.keepIn K (.ref f) = true ∧ Binds K fd ps []
section
variable {X : Cx} {k j : Nat} {x : Str} {sp : Sp} {p pos : Pos} {e : Expr} {es : List Expr} {t : TA}
theorem pe_cal (c : Cal X.prog X.w X.K X.mg X.base k x sp) (hr : Room j X.A) (hk : k ≤ j) (hg : Gl X x) (ha : PA X (e :: es) t) (hdb : (x == ("__debug__" : Str)) = false := by decide)
    (he : starEach (e :: es) X.env = (false, eval e X.env) :: starEach es X.env := by rfl) (hpl : (backTo pos (starEach es X.env)).any (·.1) = false := by rfl) : PE X (.Call (.Name x p) (e :: es) [] pos) (tCall sp [] E0 t) := by
  obtain ⟨f, fd, ps, F, hm, kp, b⟩ := c.ex
  exact pe_call F (hr.mono hk) hg hm kp b .nil pass0 ha hdb he hpl
theorem pe_gc {v : V} (hg : Gl X x) (h : ∃ u, X.mg x = some u ∧ RelV v u) (hd : (x == ("__debug__" : Str)) = false := by decide) : PE X (.Name x pos) (tC v) := by
  obtain ⟨u, hm, r⟩ := h
  exact pe_glob hg hm r hd
end

/-! ### a text told from its end: s[::-1] -/
def tRevS (te : TE) : TE := fun σ H Q => te σ H fun x H1 => ∃ l : List Nat, x = .str (S l) ∧ l.length ≤ sizeLine ∧ Q (.str (S l.reverse)) H1
theorem rev_pick (l : List Nat) : (Builtin.Str.strSliceIndices none none (-1) (S l).length).filterMap ((S l).cps[·]?) = l.reverse := by
  rw [PyProof.Rows.picked_rev, PySem.W.krv_range, List.filterMap_reverse, S_len]
  have h := PySem.W.krv_all (S l).cps
  have e : (S l).cps.size = l.length := by simp
  rw [e] at h
  rw [h]
section
variable {X : Cx}
theorem pe_revS {e : Expr} {te : TE} {k : Nat} {p1 p2 p3 pos : Pos} (he : PE X e te) : PE X (.Subscript e (.Slice none none (some (.UnaryOp .USub (.Constant (.int 1) k p1) p2)) p3) pos) (tRevS te) := by
  refine ⟨fun pins s σ H Q I h => ?_⟩
  refine Subscript_ (thn (he.run pins s σ H _ I h) fun v s1 ⟨x, H1, I1, r1, q1⟩ => ?_)
  obtain ⟨l, ex, hz, q⟩ := q1
  subst ex
  obtain ⟨tk, rfl⟩ := r1
  have hst : PO X (some (.UnaryOp .USub (.Constant (.int 1) k p1) p2)) (tPart (tUn (rU fun i => .int (-i)) (tC (.int 1)))) := po_some (pe_un un_neg pe_int)
  refine wpAny_Slice (thn (po_none.run pins s1 σ H1 (fun o H2 => o = none ∧ H2 = H1) I1 ⟨rfl, rfl⟩) fun vl s2 ⟨lo, H2, I2, pl, el, e2⟩ => ?_)
  subst el e2
  refine thn (po_none.run pins s2 σ H2 (fun o H3 => o = none ∧ H3 = H2) I2 ⟨rfl, rfl⟩) fun vu s3 ⟨u, H3, I3, pu, eu, e3⟩ => ?_
  subst eu e3
  refine thn (hst.run pins s3 σ H3 (fun o H4 => o = some (-1) ∧ H4 = H3) I3 ⟨1, rfl, -1, rfl, rfl, rfl⟩) fun vs s4 ⟨o, H4, I4, ps, eo, e4⟩ => ?_
  subst eo e4
  have I5 : Inv X pins σ H4 { s4 with heap := s4.heap.push { cls := .type "slice", data := .fields #[vl, vu, vs] } } := I4.kept (t' := s4.toks) fun b ob q => Heap.get?_push_of_some _ q
  obtain ⟨pl', rfl, epl⟩ := IsPart.raw pl
  obtain ⟨pu', rfl, epu⟩ := IsPart.raw pu
  obtain ⟨ps', rfl, eps⟩ := IsPart.raw ps
  have hsl := Heap.IsSliceOf.new s4.heap (partValue pl') (partValue pu') (partValue ps')
  obtain ⟨os, hos, hcs, hds⟩ := hsl
  show wpAny (model X.prog X.w) X.A (subscriptTail e (.Slice none none (some (.UnaryOp .USub (.Constant (.int 1) k p1) p2)) p3) (.str (S l) tk) (.ref s4.heap.objs.size)) (EP X pins σ Q) X.xe _
  refine tail_any (ops := [.str (S l) tk, .ref s4.heap.objs.size]) (typeIs_str _ _ _) (F.slot_str_getitem.lookup) ?_ (by with_unfolding_all rfl)
  have h1 : ps'.map (·.1) = some (-1) := eps
  have h2 : pl'.map (·.1) = none := epl
  have h3 : pu'.map (·.1) = none := epu
  refine wpAny_getItem_str_slice (l := pl') (u := pu') (st := ps') ⟨os, hos, hcs, hds⟩ (by rw [h1]; rfl) ?_
  unfold sliceMade slicePicked
  rw [h1, h2, h3, if_neg (by simp)]
  show Made.post (Made.str ⟨((Builtin.Str.strSliceIndices none none (-1) (S l).length).filterMap ((S l).cps[·]?)).toArray⟩) _ _
  rw [rev_pick]
  exact ⟨by rw [S_len, List.length_reverse]; exact hz, .str (S l.reverse), H4, I5.tok _, ⟨_, rfl⟩, q⟩
end
/-! ### a text told again and again: s * n -/
abbrev rMulS : R2 := fun x y H Q => ∃ (l : List Nat) (n : Int), x = .str (S l) ∧ y = .int n ∧ 0 ≤ n ∧ n ≤ 1000 ∧ l.length ≤ 1000 ∧ Q (.str (S (List.replicate n.toNat l).flatten)) H
theorem fold_cat (a : Array Nat) : ∀ (n : Nat) (b : Array Nat), (List.replicate n a).foldl (· ++ ·) b = (b.toList ++ (List.replicate n a.toList).flatten).toArray
  | 0, b => by simp
  | n + 1, b => by
    rw [List.replicate_succ, List.foldl_cons, fold_cat a n, List.replicate_succ, List.flatten_cons]
    simp
theorem rep_len (l : List Nat) (n : Nat) : (List.replicate n l).flatten.length = n * l.length := by simp
section
variable {X : Cx}
theorem op_mulS : OpR X (binaryOp .Mult) rMulS := by
  intro pins s σ H x y v u Q I rx ry h
  obtain ⟨l, n, rfl, rfl, n0, n1, hl, q⟩ := h
  obtain ⟨t, rfl⟩ := rx
  obtain ⟨t', rfl⟩ := ry
  have hm : l.length * n.toNat ≤ 1000 * 1000 := Nat.mul_le_mul hl (by omega)
  refine PySem.P.mul_str (by
      have h1 : ¬ n < -(2 ^ 63 : Int) := by omega
      have h2 : ¬ n ≥ 2 ^ 63 := by omega
      rw [decide_eq_false h1, decide_eq_false h2]; rfl) (fun a _ => ?_) (fun _ _ => ?_) ?_
  · rw [S_len]
    have : (1000 : Int) ≤ (2 ^ 63 - 1) / n := (Int.le_ediv_iff_mul_le (by omega)).mpr (by omega)
    omega
  · rw [S_len]
    refine decide_eq_false ?_
    have : (1000 * 1000 : Nat) ≤ sizeLine := by decide
    omega
  · by_cases h1 : n < 1
    · rw [if_pos h1]
      have e : n.toNat = 0 := by omega
      rw [e] at q
      exact ⟨by decide, .str (S []), H, I.tok _, ⟨_, rfl⟩, q⟩
    · rw [if_neg h1]
      by_cases h2 : (n == 1 || (S l).length == 0) = true
      · rw [if_pos h2]
        have e : (List.replicate n.toNat l).flatten = l := by
          rcases (by simpa using h2 : n = 1 ∨ (S l).length = 0) with e | e
          · subst e
            show (List.replicate 1 l).flatten = l
            simp
          · rw [S_len] at e
            have : l = [] := List.length_eq_zero_iff.mp e
            subst this
            simp
        rw [e] at q
        exact ⟨.str (S l), H, I, ⟨_, rfl⟩, q⟩
      · rw [if_neg h2]
        rw [fold_cat]
        have e : (⟨((#[] : Array Nat).toList ++ (List.replicate n.toNat (S l).cps.toList).flatten).toArray⟩ : Str) = S (List.replicate n.toNat l).flatten := rfl
        rw [e]
        refine ⟨?_, .str _, H, I.tok _, ⟨_, rfl⟩, q⟩
        rw [S_len, rep_len]
        have : (1000 * 1000 : Nat) ≤ sizeLine := by decide
        rw [Nat.mul_comm]
        omega
end
end Sw
namespace Sw
open PySem PySem.Spec PyProof.Rows L2 SX
/-! ### reading, step by step -/
section
variable {K : PySem.W.Frag} {σ : L2.St} {H : Hp} {Q : VK} {QT : Bool → Hp → Prop} {QA : List V → Hp → Prop} {D : Ends} {te ta tb tc : TE} {tr : TA} {t u : TS} {tt tu : TT} {r r' : R2} {i : Nat} {v x y : V} {a b : Int}
theorem g_seqasg (h : te σ H fun x H1 => u D (σ.set i (some x)) H1) : tSeq (tAsg te (gName i)) u D σ H := h
theorem g_seqdrop (h : te σ H fun _ H1 => u D σ H1) : tSeq (tDrop te) u D σ H := h
theorem g_seqsub {to ti : TE} {rs : TSet} (h : te σ H fun x H1 => to σ H1 fun o H2 => ti σ H2 fun k H3 => rs o k x H3 fun H4 => u D σ H4) : tSeq (tAsg te (gSub to ti rs)) u D σ H := h
/-- what follows is shown once, for all states of I, then the ways to it -/
theorem g_join (I : L2.St → Hp → Prop) (hu : ∀ σ' H', I σ' H' → u D σ' H') (h : ∀ U : L2.St → Hp → Prop, (∀ σ' H', I σ' H' → U σ' H') → t { D with nx := U } σ H) : tSeq t u D σ H := h _ hu
theorem g_seqif (h : tt σ H fun b H1 => if b = true then t { D with nx := u D } σ H1 else u D σ H1) {w : TS} (e : w = tNext) : tSeq (tIfS tt t w) u D σ H := by subst e; exact h
theorem g_seq (h : t { D with nx := u D } σ H) : tSeq t u D σ H := h
theorem g_asg (h : te σ H fun x H1 => D.nx (σ.set i (some x)) H1) : tAsg te (gName i) D σ H := h
theorem g_asgsub {to ti : TE} {rs : TSet} (h : te σ H fun x H1 => to σ H1 fun o H2 => ti σ H2 fun k H3 => rs o k x H3 fun H4 => D.nx σ H4) : tAsg te (gSub to ti rs) D σ H := h
theorem g_ret (h : te σ H fun x H1 => D.rt x H1) : tRet te D σ H := h
theorem g_drop (h : te σ H fun _ H1 => D.nx σ H1) : tDrop te D σ H := h
theorem g_name {QS : L2.St → Hp → Prop} (h : QS (σ.set i (some v)) H) : gName i v σ H QS := h
theorem g_next (h : D.nx σ H) : tNext D σ H := h
theorem g_if (h : tt σ H fun b H1 => if b = true then t D σ H1 else u D σ H1) : tIfS tt t u D σ H := h
theorem g_test (h : te σ H fun x H1 => ∃ k, x = .bl k ∧ QT k H1) : tTest te σ H QT := h
theorem g_yes (h : QT true H) : tYes σ H QT := h
theorem g_B (h : te σ H fun x H1 => ∃ k, x = .bl k ∧ QT k H1) : tB te σ H QT := h
theorem g_not (h : tt σ H fun c H1 => QT (!c) H1) : tNot tt σ H QT := h
theorem g_and (h : tt σ H fun c H1 => if c = true then tu σ H1 QT else QT false H1) : tAnd tt tu σ H QT := h
theorem g_or (h : tt σ H fun c H1 => if c = true then QT true H1 else tu σ H1 QT) : tOr tt tu σ H QT := h
theorem g_andV (h : ta σ H fun x H1 => ∃ c, x = .bl c ∧ if c = true then tb σ H1 Q else Q (.bl false) H1) : tAndV ta tb σ H Q := h
theorem g_orV (h : ta σ H fun x H1 => ∃ c, x = .bl c ∧ if c = true then Q (.bl true) H1 else tb σ H1 Q) : tOrV ta tb σ H Q := h
theorem g_notV (h : ta σ H fun x H1 => ∃ c, x = .bl c ∧ Q (.bl (!c)) H1) : tNotV ta σ H Q := h
theorem g_ifE (h : tt σ H fun c H1 => if c = true then ta σ H1 Q else tb σ H1 Q) : tIf tt ta tb σ H Q := h
theorem g_chain (h : ta σ H fun x H1 => tb σ H1 fun y H2 => r x y H2 fun z H3 => ∃ k, z = .bl k ∧ (if k = true then tc σ H3 fun w' H4 => r' y w' H4 Q else Q (.bl false) H3)) : tChain r r' ta tb tc σ H Q := h
theorem g_op (h : ta σ H fun x H1 => tb σ H1 fun y H2 => r x y H2 Q) : tOp r ta tb σ H Q := h
theorem g_un {ru : V → Hp → VK → Prop} (h : ta σ H fun x H1 => ru x H1 Q) : tUn ru ta σ H Q := h
theorem g_cons (h : ta σ H fun x H1 => tr σ H1 fun xs H2 => QA (x :: xs) H2) : tCons ta tr σ H QA := h
theorem g_nil (h : QA [] H) : tNil σ H QA := h
theorem g_cb {rc : RC} (h : tr σ H fun vs H1 => rc vs H1 Q) : tCB rc tr σ H Q := h
theorem g_call {sp : Sp} {E : XK} (h : tr σ H fun vs H1 => sp vs H1 Q E) : tCall sp [] E tr σ H Q := by
  unfold tCall
  have e : (fun vs H1 => sp (vs ++ []) H1 Q E) = (fun vs H1 => sp vs H1 Q E) := by
    funext vs H1
    rw [List.append_nil]
  rw [e]
  exact h
theorem g_tup (h : tr σ H fun xs H1 => xs.length ≤ sizeLine ∧ ∀ p, H1 p = none → Q (.ref p) (upd H1 p (.tup xs))) : tTup tr σ H Q := h
theorem g_lst (h : tr σ H fun xs H1 => xs.length ≤ sizeLine ∧ ∀ p, H1 p = none → Q (.ref p) (upd H1 p (.lst xs))) : tLst tr σ H Q := h
theorem g_var (hv : σ[i]? = some (some v)) (h : Q v H) : tVar i σ H Q := ⟨v, hv, h⟩
theorem g_c (h : Q v H) : tC v σ H Q := h
theorem g_sl {rs : V → Option Int → Option Int → Hp → VK → Prop} {tl th : TO} (h : te σ H fun x H1 => tl σ H1 fun l H2 => th σ H2 fun u H3 => rs x l u H3 Q) : tSl rs te tl th σ H Q := h
theorem g_part {QO : Option Int → Hp → Prop} (h : te σ H fun x H1 => ∃ i, x = .int i ∧ QO (some i) H1) : tPart te σ H QO := h
theorem g_m1 {rm : V → List V → Hp → VK → Prop} (h : ta σ H fun x H1 => (∃ a, x = .str a) ∧ tb σ H1 fun y H2 => rm x [y] H2 Q) : tM1 rm ta tb σ H Q := h
theorem g_nopart {QO : Option Int → Hp → Prop} (h : QO none H) : tNoPart σ H QO := h
/-! by values -/
theorem g_I0 {g : Int → Int → V} (h : Q (g a b) H) : rI0 g (.int a) (.int b) H Q := ⟨a, b, rfl, rfl, h⟩
theorem g_I {C : Int → Int → Prop} {g : Int → Int → V} (hc : C a b) (h : Q (g a b) H) : rI C g (.int a) (.int b) H Q := ⟨a, b, rfl, rfl, hc, h⟩
theorem g_U {g : Int → V} (h : Q (g a) H) : rU g (.int a) H Q := ⟨a, rfl, h⟩
theorem g_eq (hs : scal x y = true) (h : Q (.bl (decide (x = y))) H) : rEq x y H Q := ⟨hs, h⟩
theorem g_ne (hs : scal x y = true) (h : Q (.bl (!decide (x = y))) H) : rNe x y H Q := ⟨hs, h⟩
theorem g_ixL {p : Addr} {xs : List V} (h : H p = some (.lst xs)) (ha : atI xs a = some v) (q : Q v H) : rIxL K (.ref p) (.int a) H Q := ⟨p, xs, a, v, rfl, rfl, .inl (.inl h), ha, q⟩
theorem g_ixT {p : Addr} {xs : List V} (h : H p = some (.tup xs)) (ha : atI xs a = some v) (q : Q v H) : rIxT K (.ref p) (.int a) H Q := ⟨p, xs, a, v, rfl, rfl, .inl (.inl h), ha, q⟩
theorem g_setL {p : Addr} {xs ys : List V} {j : Nat} {QS : Hp → Prop} (h : H p = some (.lst xs)) (ha : ixN xs.length a = some j) (hy : xs.set j v = ys) (q : ∀ H', H' p = some (.lst ys) → (∀ b, b ≠ p → H' b = H b) → QS H') : rSetL (.ref p) (.int a) v H QS :=
  ⟨p, xs, a, j, rfl, rfl, h, ha, by rw [hy]; exact q _ upd_same fun b hb => upd_ne hb⟩
theorem cm {i j : Int} (h1 : -(2 ^ 500) < i) (h2 : i < 2 ^ 500) (h3 : -(2 ^ 500) < j) (h4 : j < 2 ^ 500) : CMulW i j := wide_mul (a := 500) (b := 500) (by omega) (by omega) (by decide) (by decide) (by decide)
theorem cd {i j : Int} (h1 : 0 < j) (h4 : j < 2 ^ 500) : CDivW i j := wide_div (b := 500) h1 (by omega) (by decide) (by decide)
theorem g_bl {c : Bool} {F : Bool → Prop} (h : F c) : ∃ k, V.bl c = .bl k ∧ F k := ⟨c, rfl, h⟩
theorem g_int {F : Int → Prop} (h : F a) : ∃ k, V.int a = .int k ∧ F k := ⟨a, rfl, h⟩
theorem ite_d {c A B : Prop} [Decidable c] (h1 : c → A) (h2 : ¬ c → B) : if decide c = true then A else B := by
  by_cases h : c
  · rw [if_pos (decide_eq_true h)]; exact h1 h
  · rw [if_neg (by rw [decide_eq_false h]; exact Bool.false_ne_true)]; exact h2 h
theorem ite_n {c A B : Prop} [Decidable c] (h1 : ¬ c → A) (h2 : c → B) : if (!decide c) = true then A else B := by
  by_cases h : c
  · rw [if_neg (by rw [decide_eq_true h]; exact Bool.false_ne_true)]; exact h2 h
  · rw [if_pos (by rw [decide_eq_false h]; rfl)]; exact h1 h
theorem ite_b {c : Bool} {A B : Prop} (h1 : c = true → A) (h2 : c = false → B) : if c = true then A else B := by
  cases c with
  | true => exact h1 rfl
  | false => exact h2 rfl
end

theorem iteNT {A B : Prop} (h : B) : if (!true) = true then A else B := h
theorem iteNF {A B : Prop} (h : A) : if (!false) = true then A else B := h
/-! ### loops -/
section
variable {K : PySem.W.Frag} {σ : L2.St} {H : Hp} {Q : VK} {D : Ends} {te ta : TE} {tr : TA} {tb : TS} {tt : TT} {g : TG} {j : Nat} {vs : List Nat}
/-- for i in range(e): C: what e comes to; Pv: the invariant -/
theorem for1 (C : Int → Hp → Prop) (hn : ∀ QA : List V → Hp → Prop, (∀ n H1, C n H1 → QA [.int n] H1) → tr σ H QA) (Pv : Int → Nat → L2.St → Hp → Prop) (p0 : ∀ n H1, C n H1 → n < 2 ^ 62 ∧ -(2 ^ 62) ≤ n ∧ Pv n 0 σ H1)
    (ps : ∀ (n : Int) (i : Nat) σ' H', (i : Int) < n → Pv n i σ' H' → tb { D with nx := Pv n (i + 1), ct := Pv n (i + 1), bk := D.nx } (σ'.set j (some (.int (i : Int)))) H') (pd : ∀ n σ' H', Pv n n.toNat σ' H' → D.nx σ' H') : tFor (iRng1 tr) (gName j) tb D σ H := by
  refine hn _ fun n H1 c => ?_
  obtain ⟨h1, h2, h0⟩ := p0 n H1 c
  refine ⟨n, rfl, h2, h1, for_range (lo := 0) (n := n.toNat) (Pv n) h0 (fun i σ' H' hi p => ?_) (pd n)⟩
  show tb _ (σ'.set j (some (.int ((0 : Int) + (i : Int))))) H'
  rw [Int.zero_add]
  exact ps n i σ' H' (by omega) p
/-- for i in range(lo, e) -/
theorem for2 (C : Int → Int → Hp → Prop) (hn : ∀ QA : List V → Hp → Prop, (∀ m n H1, C m n H1 → QA [.int m, .int n] H1) → tr σ H QA) (Pv : Int → Int → Nat → L2.St → Hp → Prop) (p0 : ∀ m n H1, C m n H1 → m < 2 ^ 62 ∧ -(2 ^ 62) ≤ m ∧ n < 2 ^ 62 ∧ -(2 ^ 62) ≤ n ∧ Pv m n 0 σ H1)
    (ps : ∀ (m n : Int) (i : Nat) σ' H', m + (i : Int) < n → Pv m n i σ' H' → tb { D with nx := Pv m n (i + 1), ct := Pv m n (i + 1), bk := D.nx } (σ'.set j (some (.int (m + (i : Int))))) H') (pd : ∀ m n σ' H', Pv m n (n - m).toNat σ' H' → D.nx σ' H') : tFor (iRng2 tr) (gName j) tb D σ H := by
  refine hn _ fun m n H1 c => ?_
  obtain ⟨h1, h2, h3, h4, h0⟩ := p0 m n H1 c
  exact ⟨m, n, rfl, ⟨h2, h1, h4, h3⟩, for_range (lo := m) (n := (n - m).toNat) (Pv m n) h0 (fun i σ' H' hi p => ps m n i σ' H' (by omega) p) (pd m n)⟩
/-- [.. for i in range(e) if ..] -/
theorem lc1 (C : Int → Hp → Prop) (hn : ∀ QA : List V → Hp → Prop, (∀ n H1, C n H1 → QA [.int n] H1) → tr σ H QA) (hC : ∀ n H1, C n H1 → n < 2 ^ 62 ∧ -(2 ^ 62) ≤ n) (Pv : Addr → Int → Nat → Hp → Prop) (p0 : ∀ Dl n H1, C n H1 → H1 Dl = none → Pv Dl n 0 (upd H1 Dl (.lst [])))
    (hw : ∀ x : V, wipe ((wipe σ vs).set j (some x)) vs = wipe σ vs)
    (ps : ∀ Dl (n : Int) (i : Nat) H', (i : Int) < n → Pv Dl n i H' → tt ((wipe σ vs).set j (some (.int (i : Int)))) H' fun b H3 => if b = true then te ((wipe σ vs).set j (some (.int (i : Int)))) H3 fun y H4 => ∃ acc, H4 Dl = some (.lst acc) ∧ acc.length < sizeLine ∧ Pv Dl n (i + 1) (upd H4 Dl (.lst (acc ++ [y]))) else Pv Dl n (i + 1) H3)
    (pd : ∀ Dl n H', Pv Dl n n.toNat H' → Q (.ref Dl) H') : tLc (iRng1 tr) (gName j) tt te vs σ H Q := by
  refine hn _ fun n H1 c => ?_
  obtain ⟨h1, h2⟩ := hC n H1 c
  refine ⟨n, rfl, h2, h1, fun Dl hD => lc_range (lo := 0) (n := n.toNat) (Pv Dl n) (p0 Dl n H1 c hD) (fun i H' hi p => ?_) (fun H' q => pd Dl n H' q)⟩
  have e : (0 : Int) + (i : Int) = (i : Int) := Int.zero_add _
  show wipe ((wipe σ vs).set j (some (.int ((0 : Int) + (i : Int))))) vs = wipe σ vs ∧ tt ((wipe σ vs).set j (some (.int ((0 : Int) + (i : Int))))) H' _
  rw [e]
  exact ⟨hw _, ps Dl n i H' (by omega) p⟩
/-- for c in text -/
theorem forS {l : List Nat} (hn : ∀ Q : VK, Q (.str (S l)) H → te σ H Q) (Pv : Nat → L2.St → Hp → Prop) (p0 : Pv 0 σ H)
    (ps : ∀ (i : Nat) (c : Nat) σ' H', l[i]? = some c → Pv i σ' H' → tb { D with nx := Pv (i + 1), ct := Pv (i + 1), bk := D.nx } (σ'.set j (some (.str (S [c])))) H') (pd : ∀ σ' H', Pv l.length σ' H' → D.nx σ' H') : tFor (iStr te) (gName j) tb D σ H := by
  refine hn _ ⟨S l, rfl, fun i m σ H => m = l.length - i ∧ i ≤ l.length ∧ Pv i σ H, ⟨l.length, by omega, by omega, p0⟩, ?_⟩
  rintro i m σ' H' ⟨rfl, hi, p⟩
  have es : (S l).cps.size = l.length := by simp
  by_cases hlt : i < l.length
  · refine .inr ⟨by show i < (S l).cps.size; omega, Pv (i + 1), fun σ2 H2 p' => ⟨l.length - (i + 1), by omega, rfl, by omega, p'⟩, fun v H2 y => ?_⟩
    obtain ⟨e, c, hc, ev⟩ := y
    subst e ev
    exact ps i c σ' _ (by simpa using hc) p
  · have e : i = l.length := by omega
    subst e
    exact .inl ⟨by show (S l).cps.size ≤ l.length; omega, pd σ' H' p⟩
/-- for x in a list that stays -/
theorem forL {a : Addr} {xs : List V} (hn : ∀ Q : VK, Q (.ref a) H → te σ H Q) (Pv : Nat → L2.St → Hp → Prop) (p0 : Pv 0 σ H) (hl : ∀ i σ' H', i ≤ xs.length → Pv i σ' H' → SqL K H' a xs)
    (ps : ∀ (i : Nat) (x : V) σ' H', xs[i]? = some x → Pv i σ' H' → g x σ' H' fun σ2 H2 => tb { D with nx := Pv (i + 1), ct := Pv (i + 1), bk := D.nx } σ2 H2) (pd : ∀ σ' H', Pv xs.length σ' H' → D.nx σ' H') : tFor (iList K te) g tb D σ H := by
  have h0 := hl 0 σ H (Nat.zero_le _) p0
  exact hn _ ⟨a, rfl, ⟨xs, h0⟩, for_list Pv p0 hl ps pd⟩
/-! ### comprehensions whose tests and items leave the heap as it is -/
/-- the items of the turns that are taken -/
def given (n : Nat) (f : Nat → Bool) (v : Nat → V) : List V := ((List.range n).filter f).map v
theorem given_yes {n : Nat} {f : Nat → Bool} {v : Nat → V} (h : f n = true) : given (n + 1) f v = given n f v ++ [v n] := by
  unfold given
  rw [List.range_succ, List.filter_append, List.map_append]
  simp [h]
theorem given_no {n : Nat} {f : Nat → Bool} {v : Nat → V} (h : f n = false) : given (n + 1) f v = given n f v := by
  unfold given
  rw [List.range_succ, List.filter_append, List.map_append]
  simp [h]
theorem given_len (n : Nat) (f : Nat → Bool) (v : Nat → V) : (given n f v).length ≤ n := by
  unfold given
  rw [List.length_map]
  have h := List.length_filter_le f (List.range n)
  rw [List.length_range] at h
  exact h
/-- between two turns: the new list at Dl -/
def Lw (H : Hp) (f : Nat → Bool) (v : Nat → V) (Dl : Addr) (i : Nat) (H' : Hp) : Prop := H Dl = none ∧ Same H H' ∧ H' Dl = some (.lst (given i f v))
theorem lw_start {f : Nat → Bool} {v : Nat → V} {Dl : Addr} (h : H Dl = none) : Lw H f v Dl 0 (upd H Dl (.lst [])) := ⟨h, fun b o e => by rw [upd_ne (ne_of_none e h)]; exact e, upd_same⟩
theorem lw_turn {H' : Hp} {f : Nat → Bool} {v : Nat → V} {Dl : Addr} {i : Nat} {τ : L2.St} (p : Lw H f v Dl i H') (hi : i < 1000000) (ht : ∀ QT : Bool → Hp → Prop, QT (f i) H' → tt τ H' QT) (he : f i = true → ∀ Q : VK, Q (v i) H' → te τ H' Q) :
    tt τ H' fun b H3 => if b = true then te τ H3 fun y H4 => ∃ acc, H4 Dl = some (.lst acc) ∧ acc.length < sizeLine ∧ Lw H f v Dl (i + 1) (upd H4 Dl (.lst (acc ++ [y]))) else Lw H f v Dl (i + 1) H3 := by
  obtain ⟨p1, p2, p3⟩ := p
  refine ht _ ?_
  cases hf : f i with
  | true =>
    refine iteT (he hf _ ⟨_, p3, ?_, p1, fun b o e => ?_, ?_⟩)
    · exact Nat.lt_of_le_of_lt (given_len i f v) (Nat.lt_trans hi (by decide))
    · rw [upd_ne (ne_of_none e p1)]; exact p2 b o e
    · rw [given_yes hf]; exact upd_same
  | false =>
    refine iteF ⟨p1, p2, ?_⟩
    rw [given_no hf]; exact p3
theorem lcP1 {n : Int} (f : Nat → Bool) (v : Nat → V) (hn : ∀ QA : List V → Hp → Prop, QA [.int n] H → tr σ H QA) (h1 : n ≤ 100000) (h2 : -100000 ≤ n) (hw : ∀ x : V, wipe ((wipe σ vs).set j (some x)) vs = wipe σ vs)
    (ht : ∀ (i : Nat) H' (QT : Bool → Hp → Prop), (i : Int) < n → Same H H' → QT (f i) H' → tt ((wipe σ vs).set j (some (.int (i : Int)))) H' QT)
    (he : ∀ (i : Nat) H' (Q : VK), (i : Int) < n → Same H H' → f i = true → Q (v i) H' → te ((wipe σ vs).set j (some (.int (i : Int)))) H' Q)
    (pd : ∀ Dl H', H Dl = none → Same H H' → H' Dl = some (.lst (given n.toNat f v)) → Q (.ref Dl) H') : tLc (iRng1 tr) (gName j) tt te vs σ H Q := by
  refine lc1 (fun m H1 => m = n ∧ H1 = H) (fun QA h => hn QA (h _ _ ⟨rfl, rfl⟩)) (fun m H1 e => by omega) (fun Dl m i H' => m = n ∧ Lw H f v Dl i H') (fun Dl m H1 e nD => ?_) hw (fun Dl m i H' hi p => ?_) (fun Dl m H' p => ?_)
  · obtain ⟨rfl, rfl⟩ := e
    exact ⟨rfl, lw_start nD⟩
  · obtain ⟨rfl, p⟩ := p
    have z := lw_turn (tt := tt) (te := te) (τ := (wipe σ vs).set j (some (.int (i : Int)))) p (by omega) (fun QT q => ht i H' QT hi p.2.1 q) (fun hf Q q => he i H' Q hi p.2.1 hf q)
    simp only [eq_self, true_and]
    exact z
  · obtain ⟨rfl, p⟩ := p
    exact pd Dl H' p.1 p.2.1 p.2.2
theorem lc2 (C : Int → Int → Hp → Prop) (hn : ∀ QA : List V → Hp → Prop, (∀ m n H1, C m n H1 → QA [.int m, .int n] H1) → tr σ H QA) (hC : ∀ m n H1, C m n H1 → m < 2 ^ 62 ∧ -(2 ^ 62) ≤ m ∧ n < 2 ^ 62 ∧ -(2 ^ 62) ≤ n) (Pv : Addr → Int → Int → Nat → Hp → Prop)
    (p0 : ∀ Dl m n H1, C m n H1 → H1 Dl = none → Pv Dl m n 0 (upd H1 Dl (.lst []))) (hw : ∀ x : V, wipe ((wipe σ vs).set j (some x)) vs = wipe σ vs)
    (ps : ∀ Dl (m n : Int) (i : Nat) H', m + (i : Int) < n → Pv Dl m n i H' → tt ((wipe σ vs).set j (some (.int (m + (i : Int))))) H' fun b H3 => if b = true then te ((wipe σ vs).set j (some (.int (m + (i : Int))))) H3 fun y H4 => ∃ acc, H4 Dl = some (.lst acc) ∧ acc.length < sizeLine ∧ Pv Dl m n (i + 1) (upd H4 Dl (.lst (acc ++ [y]))) else Pv Dl m n (i + 1) H3)
    (pd : ∀ Dl m n H', Pv Dl m n (n - m).toNat H' → Q (.ref Dl) H') : tLc (iRng2 tr) (gName j) tt te vs σ H Q := by
  refine hn _ fun m n H1 c => ?_
  obtain ⟨h1, h2, h3, h4⟩ := hC m n H1 c
  exact ⟨m, n, rfl, ⟨h2, h1, h4, h3⟩, fun Dl hD => lc_range (lo := m) (n := (n - m).toNat) (Pv Dl m n) (p0 Dl m n H1 c hD) (fun i H' hi p => ⟨hw _, ps Dl m n i H' (by omega) p⟩) (fun H' q => pd Dl m n H' q)⟩
theorem lcP2 {m n : Int} (f : Nat → Bool) (v : Nat → V) (hn : ∀ QA : List V → Hp → Prop, QA [.int m, .int n] H → tr σ H QA) (h1 : n ≤ 100000) (h2 : -100000 ≤ n) (h3 : m ≤ 100000) (h4 : -100000 ≤ m) (hw : ∀ x : V, wipe ((wipe σ vs).set j (some x)) vs = wipe σ vs)
    (ht : ∀ (i : Nat) H' (QT : Bool → Hp → Prop), m + (i : Int) < n → Same H H' → QT (f i) H' → tt ((wipe σ vs).set j (some (.int (m + (i : Int))))) H' QT)
    (he : ∀ (i : Nat) H' (Q : VK), m + (i : Int) < n → Same H H' → f i = true → Q (v i) H' → te ((wipe σ vs).set j (some (.int (m + (i : Int))))) H' Q)
    (pd : ∀ Dl H', H Dl = none → Same H H' → H' Dl = some (.lst (given (n - m).toNat f v)) → Q (.ref Dl) H') : tLc (iRng2 tr) (gName j) tt te vs σ H Q := by
  refine lc2 (fun a b H1 => a = m ∧ b = n ∧ H1 = H) (fun QA h => hn QA (h _ _ _ ⟨rfl, rfl, rfl⟩)) (fun a b H1 e => by omega) (fun Dl a b i H' => a = m ∧ b = n ∧ Lw H f v Dl i H') (fun Dl a b H1 e nD => ?_) hw (fun Dl a b i H' hi p => ?_) (fun Dl a b H' p => ?_)
  · obtain ⟨rfl, rfl, rfl⟩ := e
    exact ⟨rfl, rfl, lw_start nD⟩
  · obtain ⟨rfl, rfl, p⟩ := p
    have z := lw_turn (tt := tt) (te := te) (τ := (wipe σ vs).set j (some (.int (a + (i : Int))))) p (by omega) (fun QT q => ht i H' QT hi p.2.1 q) (fun hf Q q => he i H' Q hi p.2.1 hf q)
    simp only [eq_self, true_and]
    exact z
  · obtain ⟨rfl, rfl, p⟩ := p
    exact pd Dl H' p.1 p.2.1 p.2.2
/-- over a list -/
theorem lcPL {a : Addr} {xs : List V} (f : Nat → Bool) (v : Nat → V) (hn : ∀ Q : VK, Q (.ref a) H → ta σ H Q) (hx : SqL K H a xs) (hz : xs.length ≤ 100000) (hw : ∀ x : V, wipe ((wipe σ vs).set j (some x)) vs = wipe σ vs)
    (ht : ∀ (i : Nat) x H' (QT : Bool → Hp → Prop), xs[i]? = some x → Same H H' → QT (f i) H' → tt ((wipe σ vs).set j (some x)) H' QT)
    (he : ∀ (i : Nat) x H' (Q : VK), xs[i]? = some x → Same H H' → f i = true → Q (v i) H' → te ((wipe σ vs).set j (some x)) H' Q)
    (pd : ∀ Dl H', H Dl = none → Same H H' → H' Dl = some (.lst (given xs.length f v)) → Q (.ref Dl) H') : tLc (iList K ta) (gName j) tt te vs σ H Q := by
  refine hn _ ⟨a, rfl, ⟨xs, hx⟩, fun Dl hD => lc_list (xs := xs) (Lw H f v Dl) (lw_start hD) (fun i H' _ p => p.2.1.seq hx) (fun i x H' hi p => ⟨hw x, ?_⟩) (fun H' p => pd Dl H' p.1 p.2.1 p.2.2)⟩
  have := (List.getElem?_eq_some_iff.mp hi).1
  exact lw_turn (tt := tt) (te := te) p (by omega) (fun QT q => ht i x H' QT hi p.2.1 q) (fun hf Q q => he i x H' Q hi p.2.1 hf q)
/-- over a text -/
theorem lcPS {l : List Nat} (f : Nat → Bool) (v : Nat → V) (hn : ∀ Q : VK, Q (.str (S l)) H → ta σ H Q) (hz : l.length ≤ 100000) (hw : ∀ x : V, wipe ((wipe σ vs).set j (some x)) vs = wipe σ vs)
    (ht : ∀ (i : Nat) c H' (QT : Bool → Hp → Prop), l[i]? = some c → Same H H' → QT (f i) H' → tt ((wipe σ vs).set j (some (.str (S [c])))) H' QT)
    (he : ∀ (i : Nat) c H' (Q : VK), l[i]? = some c → Same H H' → f i = true → Q (v i) H' → te ((wipe σ vs).set j (some (.str (S [c])))) H' Q)
    (pd : ∀ Dl H', H Dl = none → Same H H' → H' Dl = some (.lst (given l.length f v)) → Q (.ref Dl) H') : tLc (iStr ta) (gName j) tt te vs σ H Q := by
  have es : (S l).cps.size = l.length := by simp
  refine hn _ ⟨S l, rfl, fun Dl hD => ⟨fun i m H' => m = l.length - i ∧ i ≤ l.length ∧ Lw H f v Dl i H', ⟨l.length, by omega, by omega, lw_start hD⟩, ?_⟩⟩
  rintro i m H' ⟨rfl, hi, p⟩
  by_cases hlt : i < l.length
  · refine .inr ⟨by show i < (S l).cps.size; omega, fun H2 => Lw H f v Dl (i + 1) H2, fun H2 p' => ⟨l.length - (i + 1), by omega, rfl, by omega, p'⟩, fun x H2 y => ?_⟩
    obtain ⟨e, c, hc, ev⟩ := y
    subst e ev
    have hc' : l[i]? = some c := by simpa using hc
    exact ⟨hw _, lw_turn (tt := tt) (te := te) p (by omega) (fun QT q => ht i c _ QT hc' p.2.1 q) (fun hf Q q => he i c _ Q hc' p.2.1 hf q)⟩
  · have e : i = l.length := by omega
    subst e
    exact .inl ⟨by show (S l).cps.size ≤ l.length; omega, pd Dl H' p.1 p.2.1 p.2.2⟩
end
section
variable {K : PySem.W.Frag} {σ : L2.St} {H H' : Hp} {Q : VK} {D : Ends} {te ta : TE} {tr : TA} {T : String}
theorem g_bm {rm : V → List V → Hp → VK → Prop} (h : ta σ H fun x H1 => tyV K T x H1 ∧ tr σ H1 fun ys H2 => rm x ys H2 Q) : tBM K T rm ta tr σ H Q := h
theorem ty_lst {l : Addr} {xs : List V} (h : H l = some (.lst xs)) : tyV K "list" (.ref l) H := .inl ⟨rfl, _, .inl (.inl h)⟩
theorem g_sput {td ty tv : TE} {u : TS} (h : tv σ H fun v H1 => td σ H1 fun x H2 => ty σ H2 fun y H3 => ∃ a H4, x = .ref a ∧ DPut H3 a y v H4 ∧ u D σ H4) : tSeq (sDPut td ty tv) u D σ H := h
theorem g_put {td ty tv : TE} (h : tv σ H fun v H1 => td σ H1 fun x H2 => ty σ H2 fun y H3 => ∃ a H4, x = .ref a ∧ DPut H3 a y v H4 ∧ D.nx σ H4) : sDPut td ty tv D σ H := h
theorem g_dget2 {td ty tx : TE} (h : td σ H fun x H1 => ∃ a, x = .ref a ∧ IsD H1 a ∧ ty σ H1 fun y H2 => tx σ H2 fun z H3 => ∃ o, DGet H3 a y o ∧ Q (o.getD z) H3) : tDGet2 td ty tx σ H Q := h
theorem g_dget {td ty : TE} (h : td σ H fun x H1 => ty σ H1 fun y H2 => ∃ a v, x = .ref a ∧ DGet H2 a y (some v) ∧ Q v H2) : tDGet td ty σ H Q := h
theorem g_dK (h : ∀ p, H p = none → Q (.ref p) (upd H p (.dK []))) : tDNewK σ H Q := h
end
end Sw
local macro_rules | `(tactic| walk_at "go1") => `(tactic| first
  | with_reducible refine Sw.g_seqasg ?_ | with_reducible refine Sw.g_op ?_ | with_reducible refine Sw.g_var rfl ?_ | with_reducible refine Sw.g_c ?_ | with_reducible refine Sw.g_I0 ?_
  | with_reducible refine Sw.g_cons ?_ | with_reducible refine Sw.g_nil ?_ | with_reducible refine Sw.g_call ?_ | with_reducible refine Sw.g_cb ?_ | with_reducible refine Sw.g_test ?_ | with_reducible refine Sw.g_bl ?_
  | with_reducible refine Sw.g_seqdrop ?_ | with_reducible refine Sw.g_seqsub ?_ | with_reducible refine Sw.g_asg ?_ | with_reducible refine Sw.g_asgsub ?_ | with_reducible refine Sw.g_ret ?_ | with_reducible refine Sw.g_drop ?_ | with_reducible refine Sw.g_if ?_ | with_reducible refine Sw.g_next ?_ | with_reducible refine Sw.g_name ?_
  | with_reducible refine Sw.g_B ?_ | with_reducible refine Sw.g_not ?_ | with_reducible refine Sw.g_and ?_ | with_reducible refine Sw.g_or ?_ | with_reducible refine Sw.g_andV ?_ | with_reducible refine Sw.g_orV ?_ | with_reducible refine Sw.g_notV ?_
  | with_reducible refine Sw.g_ifE ?_ | with_reducible refine Sw.g_chain ?_ | with_reducible refine Sw.g_un ?_ | with_reducible refine Sw.g_tup ?_ | with_reducible refine Sw.g_lst ?_ | with_reducible refine Sw.g_sl ?_ | with_reducible refine Sw.g_part ?_ | with_reducible refine Sw.g_nopart ?_
  | with_reducible refine Sw.g_U ?_ | with_reducible refine Sw.g_eq rfl ?_ | with_reducible refine Sw.g_ne rfl ?_ | with_reducible refine Sw.g_int ?_ | with_reducible refine Sw.g_yes ?_ | with_reducible refine L2.iteT ?_ | with_reducible refine L2.iteF ?_ | with_reducible refine Sw.iteNT ?_ | with_reducible refine Sw.iteNF ?_ | with_reducible refine Sw.g_m1 ?_ | with_reducible refine Sw.g_bm ?_ | with_reducible refine ⟨Sw.ty_lst (by assumption), ?_⟩ | with_reducible refine Sw.g_sput ?_ | with_reducible refine Sw.g_put ?_ | with_reducible refine Sw.g_dget2 ?_ | with_reducible refine Sw.g_dget ?_ | with_reducible refine Sw.g_dK ?_
  | with_reducible refine Sw.g_ixL (by assumption) rfl ?_ | with_reducible refine Sw.g_ixT (by assumption) rfl ?_)
local macro_rules | `(tactic| walk_at "go") => `(tactic| repeat walk_at "go1")
local macro_rules | `(tactic| walk_at "bd") => `(tactic| repeat (first | with_reducible exact Sw.all_nil | refine Sw.all_cons ⟨_, rfl, by omega, by omega⟩ ?_))
local macro_rules | `(tactic| walk_at "new") => `(tactic| (refine ⟨Nat.le_of_ble_eq_true rfl, fun p np => ?_⟩; generalize hX : L2.upd _ p _ = H'; have sm : L2.Same _ H' := hX ▸ Sw.same_upd np; have hp : H' p = some _ := hX ▸ L2.upd_same; clear hX))
namespace Sw
open PySem PySem.Spec PyProof.Rows L2 SX
/-! ### draws -/
def Dr (H : Hp) (d : Addr) : Prop := ∃ c s p : Int, H d = some (.lst [.int c, .int s, .int p]) ∧ 0 ≤ s ∧ s ≤ 2147500000 ∧ 0 < p ∧ p ≤ 2147483647
/-- all but d stays -/
def Fr (d : Addr) (H H' : Hp) : Prop := ∀ b o, b ≠ d → H b = some o → H' b = some o
theorem Fr.refl (d : Addr) (H : Hp) : Fr d H H := fun _ _ _ h => h
theorem Fr.trans {d : Addr} {H H1 H2 : Hp} (a : Fr d H H1) (b : Fr d H1 H2) : Fr d H H2 := fun x o n h => b x o n (a x o n h)
theorem Fr.of {d : Addr} {H H' : Hp} (a : Same H H') : Fr d H H' := fun x o _ h => a x o h
theorem same_upd {H : Hp} {p : Addr} {o : HO} (h : H p = none) : Same H (upd H p o) := fun b x e => by
  rw [upd_ne (ne_of_none e h)]
  exact e
theorem Same.tup {K : PySem.W.Frag} {H H' : Hp} {a : Addr} {xs : List V} (e : Same H H') (h : SqT K H a xs) : SqT K H' a xs := by
  rcases h with (h | ⟨o, h⟩) | h
  · exact .inl (.inl (e _ _ h))
  · exact .inl (.inr ⟨o, e _ _ h⟩)
  · exact .inr h
/-- the law's state: draws stand at d; G: what stays -/
structure LS (G : Hp) (d : Addr) (H : Hp) : Prop where
  dr : Dr H d
  ex : Same G H
  no : G d = none
section
variable {G H H' : Hp} {d p : Addr} {o : HO}
theorem LS.to (hs : LS G d H) (dr : Dr H' d) (fr : Fr d H H') : LS G d H' := ⟨dr, fun b x e => fr b x (ne_of_none e hs.no) (hs.ex b x e), hs.no⟩
theorem Dr.same (h : Dr H d) (e : Same H H') : Dr H' d := by
  obtain ⟨c, s, p, h1, h2⟩ := h
  exact ⟨c, s, p, e _ _ h1, h2⟩
theorem Dr.ne (h : Dr H d) (np : H p = none) : p ≠ d := fun e => by
  obtain ⟨c, s, q, h1, _⟩ := h
  rw [← e, np] at h1
  cases h1
/-- all but d stays -/
def but (H : Hp) (d : Addr) : Hp := fun b => if b = d then none else H b
theorem LS.of (dr : Dr H d) : LS (but H d) d H := ⟨dr, fun b o e => by
  unfold but at e
  by_cases hb : b = d
  · rw [if_pos hb] at e; cases e
  · rw [if_neg hb] at e; exact e, if_pos rfl⟩
theorem LS.fr (hs : LS (but H d) d H') : Fr d H H' := fun b o n e => hs.ex b o (by unfold but; rw [if_neg n]; exact e)
theorem LS.nog (hs : LS G d H) (np : H p = none) : G p = none := hs.ex.free np
/-- a new object that stays -/
theorem LS.new (hs : LS G d H) (np : H p = none) : LS (upd G p o) d (upd H p o) :=
  ⟨hs.dr.same (same_upd np), fun b x e => by
    by_cases hb : b = p
    · subst hb
      rw [upd_same] at e ⊢
      exact e
    · rw [upd_ne hb] at e ⊢
      exact hs.ex b x e, by rw [upd_ne (hs.dr.ne np).symm]; exact hs.no⟩
/-- a new object that doesn't matter -/
theorem LS.old (hs : LS G d H) (np : H p = none) : LS G d (upd H p o) := ⟨hs.dr.same (same_upd np), fun b x e => same_upd np b x (hs.ex b x e), hs.no⟩
/-- another object than d, of which G knows nothing, is changed -/
theorem LS.put (hs : LS G d H) (np : G p = none) (hp : p ≠ d) : LS G d (upd H p o) := by
  obtain ⟨c, s, q, h1, h2⟩ := hs.dr
  exact ⟨⟨c, s, q, by rw [upd_ne hp.symm]; exact h1, h2⟩, fun b x e => by rw [upd_ne (ne_of_none e np)]; exact hs.ex b x e, hs.no⟩
theorem LS.less {G' : Hp} (hs : LS G' d H) (e : Same G G') : LS G d H := ⟨hs.dr, fun b x q => hs.ex b x (e b x q), e.free hs.no⟩
theorem LS.same (hs : LS G d H) (e : Same H H') : LS G d H' := ⟨hs.dr.same e, fun b x q => e b x (hs.ex b x q), hs.no⟩
theorem LS.drop (hs : LS (upd G p o) d H) (np : G p = none) : LS G d H := hs.less (same_upd np)
end
theorem all_nil {P : V → Prop} : ∀ x ∈ ([] : List V), P x := fun _ h => nomatch h
theorem all_cons {P : V → Prop} {y : V} {l : List V} (h : P y) (hl : ∀ x ∈ l, P x) : ∀ x ∈ y :: l, P x := fun x hx => by
  rcases List.mem_cons.mp hx with e | e
  · rw [e]; exact h
  · exact hl x e
theorem atI_of {α : Type} {xs : List α} {r : Int} (h0 : 0 ≤ r) (h1 : r < (xs.length : Int)) : ∃ v, atI xs r = some v ∧ v ∈ xs ∧ xs[r.toNat]? = some v := by
  have hl : r.toNat < xs.length := by omega
  have e : ((r.toNat : Nat) : Int) = r := by omega
  have z := atI_nat (xs := xs) (j := r.toNat) (List.getElem?_eq_getElem hl)
  rw [e] at z
  exact ⟨xs[r.toNat], z, List.getElem_mem hl, List.getElem?_eq_getElem hl⟩
/-- a drawn item of a list that was just made -/
theorem LS.at {K : PySem.W.Frag} {G H : Hp} {d p : Addr} {xs : List V} {r : Int} {Q : VK} (hs : LS (upd G p (.lst xs)) d H) (np : G p = none) (P : V → Prop) (hP : ∀ x ∈ xs, P x) (h0 : 0 ≤ r) (h1 : r < (xs.length : Int)) (q : ∀ v, P v → LS G d H → Q v H) : rIxL K (.ref p) (.int r) H Q := by
  obtain ⟨v, e, hv, _⟩ := atI_of h0 h1
  exact ⟨p, xs, r, v, rfl, rfl, .inl (.inl (hs.ex p _ upd_same)), e, q v (hP v hv) (hs.drop np)⟩
def sp_law_draw (K : PySem.W.Frag) : Sp := fun vs H Q _ => ∃ (d : Addr) (m : Int), vs = [.ref d, .int m] ∧ Dr H d ∧ 0 < m ∧ m < 2 ^ 64 ∧ ∀ r H', 0 ≤ r → r < m → Dr H' d → (∀ b, b ≠ d → H' b = H b) → Q (.int r) H'
def t_law_draw (K : PySem.W.Frag) : TS :=
  (tSeq (tIfS (tTest (tOp rGt (tOp (rIxL K) (tVar 0) (tC (.int 0))) (tC (.int 0)))) (tSeq (tAsg (tOp rMod (tOp (rIxL K) (tVar 0) (tC (.int 0))) (tVar 1)) (gName 2))
  (tSeq (tAsg (tOp rDivW (tOp (rIxL K) (tVar 0) (tC (.int 0))) (tVar 1)) (gSub (tVar 0) (tC (.int 0)) rSetL))
  (tRet (tVar 2)))) tNext)
  (tSeq (tAsg (tOp rAdd (tOp rMod (tOp rMulW (tOp (rIxL K) (tVar 0) (tC (.int 1))) (tC (.int 69621))) (tOp (rIxL K) (tVar 0) (tC (.int 2)))) (tC (.int 1))) (gSub (tVar 0) (tC (.int 1)) rSetL))
  (tRet (tOp rMod (tOp rDivW (tOp rMod (tOp rMulW (tOp (rIxL K) (tVar 0) (tC (.int 1))) (tOp rAdd (tOp rDivW (tOp (rIxL K) (tVar 0) (tC (.int 1))) (tC (.int 128))) (tC (.int 3)))) (tC (.int 2147483423))) (tC (.int 8))) (tVar 1)))))

theorem LS.draw {K : PySem.W.Frag} {G H : Hp} {d : Addr} {m : Int} {Q : VK} {E : XK} (hs : LS G d H) (m0 : 0 < m) (m1 : m < 2 ^ 64) (k : ∀ r H', 0 ≤ r → r < m → LS G d H' → Q (.int r) H') : sp_law_draw K [.ref d, .int m] H Q E :=
  ⟨d, m, rfl, hs.dr, m0, m1, fun r H' h0 h1 dr kp => k r H' h0 h1 (hs.to dr fun b o n e => (kp b n).trans e)⟩
/-- .. and another object stays -/
theorem LS.drawP {K : PySem.W.Frag} {G H : Hp} {d p : Addr} {o : HO} {m : Int} {Q : VK} {E : XK} (hs : LS G d H) (m0 : 0 < m) (m1 : m < 2 ^ 64) (hp : p ≠ d) (ho : H p = some o) (k : ∀ r H', 0 ≤ r → r < m → LS G d H' → H' p = some o → Q (.int r) H') : sp_law_draw K [.ref d, .int m] H Q E :=
  ⟨d, m, rfl, hs.dr, m0, m1, fun r H' h0 h1 dr kp => k r H' h0 h1 (hs.to dr fun b o n e => (kp b n).trans e) ((kp p hp).trans ho)⟩
theorem ln_law_draw {K : PySem.W.Frag} {vs : List V} {H : Hp} {Q : VK} {E : XK} (h : sp_law_draw K vs H Q E) : vs.length = 2 := by
  obtain ⟨_, _, rfl, _⟩ := h
  rfl
theorem rd_law_draw {K : PySem.W.Frag} {vs : List V} {H : Hp} {Q : VK} {E : XK} (h : sp_law_draw K vs H Q E) : t_law_draw K { nx := fun _ H' => Q .non H', rt := Q } (start ["draws", "many", "found"] vs) H := by
  obtain ⟨d, m, rfl, ⟨c, s, p, hd, s0, s1, p0, p1⟩, m0, m1, k⟩ := h
  show t_law_draw K _ [some (.ref d), some (.int m), none] H
  unfold t_law_draw
  refine g_seq ?_
  walk_at "go"
  refine ite_d (fun hc => ?_) (fun hc => ?_)
  · walk_at "go"
    refine g_I m0 ?_
    walk_at "go"
    refine g_I (cd m0 (by omega)) ?_
    walk_at "go"
    refine g_setL hd rfl rfl fun H1 h1 kp => ?_
    walk_at "go"
    exact k _ _ (Int.emod_nonneg _ (by omega)) (Int.emod_lt_of_pos _ m0) ⟨c / m, s, p, h1, s0, s1, p0, p1⟩ kp
  · walk_at "go"
    refine g_I (cm (by omega) (by omega) (by omega) (by omega)) ?_
    walk_at "go"
    refine g_I p0 ?_
    have e0 : 0 ≤ s * 69621 % p := Int.emod_nonneg _ (by omega)
    have e1 : s * 69621 % p < p := Int.emod_lt_of_pos _ p0
    generalize s * 69621 % p = z at e0 e1
    walk_at "go"
    refine g_setL hd rfl rfl fun H1 h1 kp => ?_
    walk_at "go"
    refine g_I (cd (by decide) (by decide)) ?_
    walk_at "go"
    refine g_I (cm (by omega) (by omega) (by omega) (by omega)) ?_
    walk_at "go"
    refine g_I (by decide) ?_
    walk_at "go"
    refine g_I (cd (by decide) (by decide)) ?_
    walk_at "go"
    refine g_I m0 ?_
    exact k _ _ (Int.emod_nonneg _ (by omega)) (Int.emod_lt_of_pos _ m0) ⟨c, z + 1, p, h1, by omega, by omega, p0, p1⟩ kp
/-! ### the draws of a cell -/
def sp_law_draws (K : PySem.W.Frag) : Sp := fun vs H Q _ => ∃ (a : Addr) (ns : List Int) (k : Int), vs = [.ref a, .int k] ∧ SqL K H a (ns.map V.int) ∧ ns.length ≤ 63 ∧ 0 ≤ k ∧ k ≤ 1000 ∧ ∀ d H', H d = none → Same H H' → Dr H' d → Q (.ref d) H'
theorem ln_law_draws {K : PySem.W.Frag} {vs : List V} {H : Hp} {Q : VK} {E : XK} (h : sp_law_draws K vs H Q E) : vs.length = 2 := by
  obtain ⟨_, _, _, rfl, _⟩ := h
  rfl
def t_law_draws (K : PySem.W.Frag) : TS :=
  (tSeq (tAsg (tTup (tCons (tC (.int 2147483647)) (tCons (tC (.int 2147483629)) (tCons (tC (.int 2147483587)) (tCons (tC (.int 2147483579)) (tCons (tC (.int 2147483563)) (tCons (tC (.int 2147483549)) (tCons (tC (.int 2147483543)) (tCons (tC (.int 2147483497)) tNil))))))))) (gName 2))
  (tSeq (tAsg (tOp rAdd (tOp rMulW (tC (.int 15485863)) (tVar 1)) (tC (.int 7))) (gName 3))
  (tSeq (tIfS (tTest (tOp rLt (tVar 1) (tCB (rLenSq K) (tCons (tVar 0) tNil)))) (tAsg (tOp rMod (tOp (rIxL K) (tVar 0) (tVar 1)) (tOp rMulW (tOp rPow (tC (.int 10)) (tC (.int 60))) (tOp rPow (tC (.int 10)) (tC (.int 60))))) (gName 3)) (tIfS (tTest (tOp rGt (tCB (rLenSq K) (tCons (tVar 0) tNil)) (tC (.int 0)))) (tAsg (tOp rAdd (tOp rMod (tOp (rIxL K) (tVar 0) (tOp rMod (tVar 1) (tCB (rLenSq K) (tCons (tVar 0) tNil)))) (tOp rPow (tC (.int 10)) (tC (.int 15)))) (tOp rMulW (tC (.int 15485863)) (tVar 1))) (gName 3)) tNext))
  (tSeq (tAsg (tOp rMod (tOp rMulW (tOp rAdd (tOp rAdd (tOp rMod (tVar 3) (tC (.int 2147483423))) (tOp rMulW (tC (.int 3)) (tVar 1))) (tC (.int 1))) (tOp rAdd (tC (.int 48271)) (tOp rMulW (tOp rMulW (tC (.int 2)) (tVar 1)) (tVar 1)))) (tC (.int 2147483423))) (gName 4))
  (tSeq (tAsg (tOp rAdd (tOp rAdd (tOp rMod (tOp rMulW (tOp rMulW (tVar 4) (tVar 4)) (tVar 4)) (tC (.int 2147483399))) (tVar 1)) (tC (.int 1))) (gName 4))
  (tRet (tLst (tCons (tOp rMulW (tVar 3) (tCB rInt1 (tCons (tOp rGe (tVar 3) (tOp rPow (tC (.int 10)) (tC (.int 18)))) tNil))) (tCons (tVar 4) (tCons (tOp (rIxT K) (tVar 2) (tOp rMod (tVar 1) (tC (.int 8)))) tNil))))))))))

theorem emod_bd {z m : Int} (h : 0 < m) : 0 ≤ z % m ∧ z % m < m := ⟨Int.emod_nonneg _ (by omega), Int.emod_lt_of_pos _ h⟩
theorem at_map {ns : List Int} {z : Int} (h0 : 0 ≤ z) (h1 : z < (ns.length : Int)) : ∃ n, atI (ns.map V.int) z = some (.int n) := by
  obtain ⟨v, e, hv, _⟩ := atI_of (xs := ns.map V.int) h0 (by rw [List.length_map]; exact h1)
  obtain ⟨n, _, rfl⟩ := List.mem_map.mp hv
  exact ⟨n, e⟩
theorem mul_bd {a b A B : Int} (a0 : 0 ≤ a) (a1 : a ≤ A) (b0 : 0 ≤ b) (b1 : b ≤ B) : 0 ≤ a * b ∧ a * b ≤ A * B :=
  ⟨Int.mul_nonneg a0 b0, Int.mul_le_mul a1 b1 b0 (Int.le_trans a0 a1)⟩
set_option maxHeartbeats 8000000 in
theorem rd_law_draws {K : PySem.W.Frag} {vs : List V} {H : Hp} {Q : VK} {E : XK} (h : sp_law_draws K vs H Q E) : t_law_draws K { nx := fun _ H' => Q .non H', rt := Q } (start ["script", "k", "primes", "cell", "seed"] vs) H := by
  obtain ⟨a, ns, k, rfl, hS, hn, k0, k1, q⟩ := h
  show t_law_draws K _ [some (.ref a), some (.int k), none, none, none] H
  unfold t_law_draws
  walk_at "go"
  refine ⟨by decide, fun p np => ?_⟩
  have s1 := same_upd (o := .tup [.int 2147483647, .int 2147483629, .int 2147483587, .int 2147483579, .int 2147483563, .int 2147483549, .int 2147483543, .int 2147483497]) np
  have hp : upd H p (.tup [.int 2147483647, .int 2147483629, .int 2147483587, .int 2147483579, .int 2147483563, .int 2147483549, .int 2147483543, .int 2147483497]) p = _ := upd_same
  generalize upd H p (.tup [.int 2147483647, .int 2147483629, .int 2147483587, .int 2147483579, .int 2147483563, .int 2147483549, .int 2147483543, .int 2147483497]) = H1 at s1 hp
  have hS1 := s1.seq hS
  have e60 : (10 : Int) ^ (60 : Int).toNat = 10 ^ 60 := rfl
  have e15 : (10 : Int) ^ (15 : Int).toNat = 10 ^ 15 := rfl
  have e18 : (10 : Int) ^ (18 : Int).toNat = 10 ^ 18 := rfl
  walk_at "go"
  refine g_I (cm (by omega) (by omega) (by omega) (by omega)) ?_
  walk_at "go"
  refine g_join (fun σ' H' => ∃ c : Int, σ' = [some (.ref a), some (.int k), some (.ref p), some (.int c), none] ∧ 0 ≤ c ∧ c < 10 ^ 121 ∧ H' = H1) ?_ fun U hu => ?_
  · rintro σ' H' ⟨c, rfl, c0, c1, rfl⟩
    walk_at "go"
    refine g_I (by decide) ?_
    obtain ⟨x0, x1⟩ := emod_bd (z := c) (m := 2147483423) (by decide)
    generalize c % 2147483423 = x at x0 x1
    walk_at "go"
    refine g_I (cm (by omega) (by omega) (by omega) (by omega)) ?_
    walk_at "go"
    refine g_I (cm (by omega) (by omega) (by omega) (by omega)) ?_
    walk_at "go"
    refine g_I (cm (by omega) (by omega) (by omega) (by omega)) ?_
    walk_at "go"
    obtain ⟨y0, y1⟩ := mul_bd (a := 2 * k) (b := k) (A := 2000) (B := 1000) (by omega) (by omega) (by omega) (by omega)
    generalize 2 * k * k = y at y0 y1
    refine g_I (cm (by omega) (by omega) (by omega) (by omega)) ?_
    walk_at "go"
    refine g_I (by decide) ?_
    generalize (x + 3 * k + 1) * (48271 + y) = z
    obtain ⟨z0, z1⟩ := emod_bd (z := z) (m := 2147483423) (by decide)
    generalize z % 2147483423 = s at z0 z1
    walk_at "go"
    refine g_I (cm (by omega) (by omega) (by omega) (by omega)) ?_
    obtain ⟨u0, u1⟩ := mul_bd (a := s) (b := s) (A := 2147483423) (B := 2147483423) (by omega) (by omega) (by omega) (by omega)
    generalize s * s = u at u0 u1
    walk_at "go"
    refine g_I (cm (by omega) (by omega) (by omega) (by omega)) ?_
    walk_at "go"
    refine g_I (by decide) ?_
    obtain ⟨v0, v1⟩ := emod_bd (z := u * s) (m := 2147483399) (by decide)
    generalize u * s % 2147483399 = v at v0 v1
    walk_at "go"
    refine g_I ⟨by decide, by decide, by decide⟩ ?_
    walk_at "go"
    refine .inr ⟨_, rfl, ?_⟩
    have ci : ∀ b : Bool, 0 ≤ (if b = true then (1 : Int) else 0) ∧ (if b = true then (1 : Int) else 0) ≤ 1 := fun b => by cases b <;> decide
    obtain ⟨w0, w1⟩ := ci (decide (10 ^ (18 : Int).toNat ≤ c))
    generalize (if decide (10 ^ (18 : Int).toNat ≤ c) = true then (1 : Int) else 0) = w at w0 w1
    refine g_I (cm (by omega) (by omega) (by omega) (by omega)) ?_
    walk_at "go"
    refine g_I (by decide) ?_
    obtain ⟨i0, i1⟩ := emod_bd (z := k) (m := 8) (by decide)
    obtain ⟨pv, ea, hv, _⟩ := atI_of (xs := [V.int 2147483647, .int 2147483629, .int 2147483587, .int 2147483579, .int 2147483563, .int 2147483549, .int 2147483543, .int 2147483497]) i0 i1
    have hP : ∃ pr : Int, pv = .int pr ∧ 0 < pr ∧ pr ≤ 2147483647 := all_cons (P := fun v => ∃ pr : Int, v = .int pr ∧ 0 < pr ∧ pr ≤ 2147483647) ⟨_, rfl, by decide, by decide⟩ (all_cons ⟨_, rfl, by decide, by decide⟩ (all_cons ⟨_, rfl, by decide, by decide⟩ (all_cons ⟨_, rfl, by decide, by decide⟩
      (all_cons ⟨_, rfl, by decide, by decide⟩ (all_cons ⟨_, rfl, by decide, by decide⟩ (all_cons ⟨_, rfl, by decide, by decide⟩ (all_cons ⟨_, rfl, by decide, by decide⟩ all_nil))))))) pv hv
    obtain ⟨pr, rfl, r0, r1⟩ := hP
    refine g_ixT hp ea ?_
    walk_at "go"
    refine ⟨by show 3 ≤ sizeLine; decide, fun d nd => ?_⟩
    refine q d _ (s1.free nd) (s1.trans (same_upd nd)) ⟨_, _, _, upd_same, by omega, by omega, r0, r1⟩
  · walk_at "go"
    refine ⟨a, _, rfl, .inl hS1, ?_⟩
    walk_at "go"
    rw [List.length_map]
    refine ite_d (fun hc => ?_) (fun hc => ?_)
    · walk_at "go"
      obtain ⟨n, en⟩ := at_map (ns := ns) k0 hc
      refine ⟨a, _, k, _, rfl, rfl, hS1, en, ?_⟩
      walk_at "go"
      refine g_I ⟨by decide, by decide, by decide⟩ ?_
      walk_at "go"
      refine g_I ⟨by decide, by decide, by decide⟩ ?_
      refine g_I (cm (by rw [e60]; decide) (by rw [e60]; decide) (by rw [e60]; decide) (by rw [e60]; decide)) ?_
      refine g_I (by rw [e60]; decide) ?_
      obtain ⟨b0, b1⟩ := emod_bd (z := n) (m := 10 ^ (60 : Int).toNat * 10 ^ (60 : Int).toNat) (by rw [e60]; decide)
      refine hu _ _ ⟨_, rfl, b0, Int.lt_trans b1 (by rw [e60]; decide), rfl⟩
    · walk_at "go"
      refine ⟨a, _, rfl, .inl hS1, ?_⟩
      walk_at "go"
      rw [List.length_map]
      refine ite_d (fun hc2 => ?_) (fun hc2 => ?_)
      · walk_at "go"
        refine ⟨a, _, rfl, .inl hS1, ?_⟩
        rw [List.length_map]
        refine g_I hc2 ?_
        obtain ⟨j0, j1⟩ := emod_bd (z := k) hc2
        obtain ⟨n, en⟩ := at_map (ns := ns) j0 j1
        refine ⟨a, _, _, _, rfl, rfl, hS1, en, ?_⟩
        walk_at "go"
        refine g_I ⟨by decide, by decide, by decide⟩ ?_
        refine g_I (by rw [e15]; decide) ?_
        obtain ⟨b0, b1⟩ := emod_bd (z := n) (m := 10 ^ (15 : Int).toNat) (by rw [e15]; decide)
        rw [e15] at b0 b1 ⊢
        walk_at "go"
        refine g_I (cm (by omega) (by omega) (by omega) (by omega)) ?_
        walk_at "go"
        exact hu _ _ ⟨_, rfl, by omega, by omega, rfl⟩
      · walk_at "go"
        exact hu _ _ ⟨_, rfl, by omega, by omega, rfl⟩
/-! ### letters, wheels, figures -/
def Low (l : List Nat) : Prop := ∀ c ∈ l, 97 ≤ c ∧ c ≤ 122
def abc : List Nat := [97, 98, 99, 100, 101, 102, 103, 104, 105, 106, 107, 108, 109, 110, 111, 112, 113, 114, 115, 116, 117, 118, 119, 120, 121, 122]
theorem abc_S : (PySem.Str.ofString "abcdefghijklmnopqrstuvwxyz") = S abc := by decide +kernel
theorem low_nil : Low [] := fun _ h => nomatch h
theorem low_app {l : List Nat} {c : Nat} (h : Low l) (hc : 97 ≤ c ∧ c ≤ 122) : Low (l ++ [c]) := fun x hx => by
  rcases List.mem_append.mp hx with e | e
  · exact h x e
  · rw [List.mem_singleton.mp e]; exact hc
theorem LS.nof {H H1 : Hp} {d p : Addr} (hs : LS (but H d) d H) (np : H1 p = none) (hs1 : LS (but H d) d H1) : H p = none := by
  have h1 := hs1.nog np
  unfold but at h1
  rw [if_neg (hs1.dr.ne np)] at h1
  exact h1
theorem abc_low : Low abc := by unfold Low abc; decide
theorem join_nil (l : List Nat) : Txt.join (S []) (l.map fun c => S [c]) = S l := by
  have e : (l.map fun c => S [c]) = (l.map fun c => [c]).map S := by rw [List.map_map]; rfl
  rw [e, join_S]
  refine congrArg S ?_
  clear e
  induction l with
  | nil => rfl
  | cons c l ih =>
    cases l with
    | nil => rfl
    | cons b l => 
      show [c] ++ [] ++ TL.joinL [] ((b :: l).map fun c => [c]) = c :: b :: l
      rw [ih]
      rfl
theorem empty_S : (PySem.Str.ofString "") = S [] := rfl
theorem sum_one (l : List Nat) : ((l.map fun c => S [c]).map (·.length)).sum = l.length := by
  induction l with
  | nil => rfl
  | cons c l ih =>
    rw [List.map_cons, List.map_cons, List.sum_cons, ih, S_len]
    show 1 + l.length = l.length + 1
    omega
theorem g_ixS {K : PySem.W.Frag} {l : List Nat} {a : Int} {c : Nat} {H : Hp} {Q : VK} (hz : l.length ≤ 100000) (ha : atI l a = some c) (q : Q (.str (S [c])) H) : rIxS (.str (S l)) (.int a) H Q :=
  ⟨S l, a, c, rfl, rfl, by rw [S_len]; exact Nat.le_trans hz (by decide), ha, q⟩
def sp_law_letters (K : PySem.W.Frag) : Sp := fun vs H Q _ => ∃ (d : Addr) (n kinds : Int), vs = [.ref d, .int n, .int kinds] ∧ Dr H d ∧ 0 ≤ n ∧ n ≤ 1000 ∧ 1 ≤ kinds ∧ kinds ≤ 26 ∧
  ∀ (l : List Nat) H', (l.length : Int) = n → Low l → Dr H' d → Fr d H H' → Q (.str (S l)) H'
theorem ln_law_letters {K : PySem.W.Frag} {vs : List V} {H : Hp} {Q : VK} {E : XK} (h : sp_law_letters K vs H Q E) : vs.length = 3 := by
  obtain ⟨_, _, _, rfl, _⟩ := h
  rfl
theorem LS.letters {K : PySem.W.Frag} {G H : Hp} {d : Addr} {n kinds : Int} {Q : VK} {E : XK} (hs : LS G d H) (n0 : 0 ≤ n) (n1 : n ≤ 1000) (k0 : 1 ≤ kinds) (k1 : kinds ≤ 26)
    (k : ∀ (l : List Nat) H', (l.length : Int) = n → Low l → LS G d H' → Q (.str (S l)) H') : sp_law_letters K [.ref d, .int n, .int kinds] H Q E :=
  ⟨d, n, kinds, rfl, hs.dr, n0, n1, k0, k1, fun l H' h0 h1 dr fr => k l H' h0 h1 (hs.to dr fr)⟩
def t_law_letters (K : PySem.W.Frag) : TS :=
  (tSeq (tAsg (tC (.str "abcdefghijklmnopqrstuvwxyz")) (gName 3))
  (tSeq (tAsg (tCall (sp_law_draw K) [] E0 (tCons (tVar 0) (tCons (tOp rSub (tC (.int 27)) (tVar 2)) tNil))) (gName 4))
  (tRet (tM1 (rJoin K) (tC (.str "")) (tLc (iRng1 (tCons (tVar 1) tNil)) (gName 5) tYes (tOp rIxS (tVar 3) (tOp rAdd (tVar 4) (tCall (sp_law_draw K) [] E0 (tCons (tVar 0) (tCons (tVar 2) tNil))))) [5])))))

theorem rd_law_letters {K : PySem.W.Frag} {vs : List V} {H : Hp} {Q : VK} {E : XK} (h : sp_law_letters K vs H Q E) : t_law_letters K { nx := fun _ H' => Q .non H', rt := Q } (start ["draws", "many", "kinds", "letters", "first", "k"] vs) H := by
  obtain ⟨d, n, kinds, rfl, dr, n0, n1, k0, k1, q⟩ := h
  show t_law_letters K _ [some (.ref d), some (.int n), some (.int kinds), none, none, none] H
  have hs : LS (but H d) d H := LS.of dr
  unfold t_law_letters
  walk_at "go"
  have hs0 := hs
  refine hs.draw (by omega) (by omega) fun first H1 f0 f1 hs => ?_
  walk_at "go"
  refine ⟨⟨_, rfl⟩, ?_⟩
  refine lc1 (fun m Hm => m = n ∧ Hm = H1) (fun QA h => ?_) (fun m Hm ⟨e, _⟩ => by omega) (fun Dl m i H' => m = n ∧ H Dl = none ∧ Dl ≠ d ∧ ∃ l : List Nat, l.length = i ∧ Low l ∧ H' Dl = some (.lst (l.map fun c => V.str (S [c]))) ∧ LS (but H d) d H') (fun Dl m Hm ⟨e, eH⟩ nD => ?_) (fun x => rfl) (fun Dl m i H' hi p => ?_) (fun Dl m H' p => ?_)
  · walk_at "go"
    exact h _ _ ⟨rfl, rfl⟩
  · subst e eH
    exact ⟨rfl, hs0.nof nD hs, hs.dr.ne nD, [], rfl, low_nil, upd_same, hs.old nD⟩
  · obtain ⟨rfl, nD, nd, l, el, lo, hD, hs'⟩ := p
    walk_at "go"
    refine hs'.drawP (p := Dl) (o := .lst (l.map fun c => V.str (S [c]))) (by omega) (by omega) nd hD fun r H2 r0 r1 hs2 hD2 => ?_
    walk_at "go"
    rw [show (V.str "abcdefghijklmnopqrstuvwxyz") = V.str (S abc) from congrArg V.str abc_S]
    obtain ⟨c, ec, hc, _⟩ := atI_of (xs := abc) (r := first + r) (by omega) (by show _ < ((26 : Nat) : Int); omega)
    refine g_ixS (K := K) (by decide) ec ?_
    refine ⟨_, hD2, ?_, rfl, nD, nd, l ++ [c], ?_, ?_, ?_, hs2.put ?_ nd⟩
    · rw [List.length_map, el]
      exact Nat.lt_of_lt_of_le (show i < 1001 by omega) (by decide)
    · rw [List.length_append, el]
      rfl
    · exact low_app lo (abc_low c hc)
    · rw [List.map_append]
      exact upd_same
    · unfold but
      rw [if_neg nd]
      exact nD
  · obtain ⟨rfl, nD, nd, l, el, lo, hD, hs'⟩ := p
    refine ⟨S [], Dl, l.map fun c => S [c], rfl, rfl, .inl (.inl (.inl (by rw [List.map_map]; exact hD))), ?_, ?_⟩
    · rw [sum_one, List.length_map, S_len]
      show l.length + l.length * 0 ≤ _
      omega
    · rw [join_nil]
      exact q l H' (by omega) lo hs'.dr hs'.fr
/-- ints of a list that was just made, within bounds -/
def Bd (lo hi : Int) (v : V) : Prop := ∃ z : Int, v = .int z ∧ lo ≤ z ∧ z ≤ hi
end Sw
local macro_rules | `(tactic| walk_at "go1") => `(tactic| first
  | with_reducible refine Sw.g_seqasg ?_ | with_reducible refine Sw.g_op ?_ | with_reducible refine Sw.g_var rfl ?_ | with_reducible refine Sw.g_c ?_ | with_reducible refine Sw.g_I0 ?_
  | with_reducible refine Sw.g_cons ?_ | with_reducible refine Sw.g_nil ?_ | with_reducible refine Sw.g_call ?_ | with_reducible refine Sw.g_cb ?_ | with_reducible refine Sw.g_test ?_ | with_reducible refine Sw.g_bl ?_
  | with_reducible refine Sw.g_seqdrop ?_ | with_reducible refine Sw.g_seqsub ?_ | with_reducible refine Sw.g_asg ?_ | with_reducible refine Sw.g_asgsub ?_ | with_reducible refine Sw.g_ret ?_ | with_reducible refine Sw.g_drop ?_ | with_reducible refine Sw.g_if ?_ | with_reducible refine Sw.g_next ?_ | with_reducible refine Sw.g_name ?_
  | with_reducible refine Sw.g_B ?_ | with_reducible refine Sw.g_not ?_ | with_reducible refine Sw.g_and ?_ | with_reducible refine Sw.g_or ?_ | with_reducible refine Sw.g_andV ?_ | with_reducible refine Sw.g_orV ?_ | with_reducible refine Sw.g_notV ?_
  | with_reducible refine Sw.g_ifE ?_ | with_reducible refine Sw.g_chain ?_ | with_reducible refine Sw.g_un ?_ | with_reducible refine Sw.g_tup ?_ | with_reducible refine Sw.g_lst ?_ | with_reducible refine Sw.g_sl ?_ | with_reducible refine Sw.g_part ?_ | with_reducible refine Sw.g_nopart ?_
  | with_reducible refine Sw.g_U ?_ | with_reducible refine Sw.g_eq rfl ?_ | with_reducible refine Sw.g_ne rfl ?_ | with_reducible refine Sw.g_int ?_ | with_reducible refine Sw.g_yes ?_ | with_reducible refine L2.iteT ?_ | with_reducible refine L2.iteF ?_ | with_reducible refine Sw.iteNT ?_ | with_reducible refine Sw.iteNF ?_ | with_reducible refine Sw.g_m1 ?_ | with_reducible refine Sw.g_bm ?_ | with_reducible refine ⟨Sw.ty_lst (by assumption), ?_⟩ | with_reducible refine Sw.g_sput ?_ | with_reducible refine Sw.g_put ?_ | with_reducible refine Sw.g_dget2 ?_ | with_reducible refine Sw.g_dget ?_ | with_reducible refine Sw.g_dK ?_
  | with_reducible refine Sw.g_ixL (by assumption) rfl ?_ | with_reducible refine Sw.g_ixT (by assumption) rfl ?_)
local macro_rules | `(tactic| walk_at "go") => `(tactic| repeat walk_at "go1")
local macro_rules | `(tactic| walk_at "bd") => `(tactic| repeat (first | with_reducible exact Sw.all_nil | refine Sw.all_cons ⟨_, rfl, by omega, by omega⟩ ?_))
local macro_rules | `(tactic| walk_at "new") => `(tactic| (refine ⟨Nat.le_of_ble_eq_true rfl, fun p np => ?_⟩; generalize hX : L2.upd _ p _ = H'; have sm : L2.Same _ H' := hX ▸ Sw.same_upd np; have hp : H' p = some _ := hX ▸ L2.upd_same; clear hX))
namespace Sw
open PySem PySem.Spec PyProof.Rows L2 SX
/-! ### the law's own promise; what laws share -/
def sp_law (K : PySem.W.Frag) : Sp := fun vs H Q _ => ∃ (a : Addr) (ns : List Int), vs = [.ref a] ∧ SqL K H a (ns.map V.int) ∧ ns.length ≤ 63 ∧ ∀ H', Q (.bl true) H'
theorem ln_law {K : PySem.W.Frag} {vs : List V} {H : Hp} {Q : VK} {E : XK} (h : sp_law K vs H Q E) : vs.length = 1 := by
  obtain ⟨_, _, rfl, _⟩ := h
  rfl
theorem LS.start {G H H' : Hp} {d : Addr} (e : Same G H) (nd : H d = none) (s : Same H H') (dr : Dr H' d) : LS G d H' := ⟨dr, e.trans s, e.free nd⟩
/-- an object that stands, kept from now on -/
theorem LS.add {G H : Hp} {d p : Addr} {o : HO} (hs : LS G d H) (ho : H p = some o) (hp : p ≠ d) : LS (upd G p o) d H :=
  ⟨hs.dr, fun b x e => by
    by_cases hb : b = p
    · subst hb
      rw [upd_same] at e
      rw [ho]; exact e
    · rw [upd_ne hb] at e
      exact hs.ex b x e, by rw [upd_ne hp.symm]; exact hs.no⟩
theorem g_lenL {K : PySem.W.Frag} {a : Addr} {xs : List V} {H : Hp} {Q : VK} (h : SqL K H a xs) (q : Q (.int (xs.length : Int)) H) : rLenSq K [.ref a] H Q := ⟨a, xs, rfl, .inl h, q⟩
theorem g_max {i j : Int} {H : Hp} {Q : VK} (q : Q (.int (if j > i then j else i)) H) : rMax2 [.int i, .int j] H Q := ⟨i, j, rfl, q⟩
theorem g_min {i j : Int} {H : Hp} {Q : VK} (q : Q (.int (if j < i then j else i)) H) : rMin2 [.int i, .int j] H Q := ⟨i, j, rfl, q⟩
theorem S_inj' {a b : List Nat} : (V.str (S a) = V.str (S b)) ↔ a = b := ⟨fun h => S_inj (V.str.inj h), fun h => by rw [h]⟩
theorem g_append {K : PySem.W.Frag} {l : Addr} {xs : List V} {y : V} {H : Hp} {Q : VK} (h : H l = some (.lst xs)) (hz : xs.length ≤ 100000) (q : Q .non (upd H l (.lst (xs ++ [y])))) : tyV K "list" (.ref l) H ∧ rAppend (.ref l) [y] H Q :=
  ⟨.inl ⟨rfl, _, .inl (.inl h)⟩, l, xs, y, rfl, rfl, h, Nat.lt_of_le_of_lt hz (by decide), q⟩
/-- for k in range(max(1, min(m, len(script)))): each turn by itself. R: what the body needs not to care of -/
theorem cells {K : PySem.W.Frag} {a : Addr} {ns : List Int} {m : Int} {H : Hp} {σ : L2.St} (hS : SqL K H a (ns.map V.int)) (m0 : 0 ≤ m) (m1 : m ≤ 1000) (hσ : σ[0]? = some (some (.ref a)))
    (QA : List V → Hp → Prop) (h : ∀ n : Int, 0 ≤ n ∧ (n ≤ m ∨ n = 1) → QA [.int n] H) :
    tCons (tCB rMax2 (tCons (tC (.int 1)) (tCons (tCB rMin2 (tCons (tC (.int m)) (tCons (tCB (rLenSq K) (tCons (tVar 0) tNil)) tNil))) tNil))) tNil σ H QA := by
  refine ⟨.ref a, hσ, a, ns.map V.int, rfl, .inl hS, _, _, rfl, _, _, rfl, h _ ?_⟩
  split <;> split <;> omega
end Sw
local macro_rules | `(tactic| walk_at "go1") => `(tactic| first
  | with_reducible refine Sw.g_seqasg ?_ | with_reducible refine Sw.g_op ?_ | with_reducible refine Sw.g_var rfl ?_ | with_reducible refine Sw.g_c ?_ | with_reducible refine Sw.g_I0 ?_
  | with_reducible refine Sw.g_cons ?_ | with_reducible refine Sw.g_nil ?_ | with_reducible refine Sw.g_call ?_ | with_reducible refine Sw.g_cb ?_ | with_reducible refine Sw.g_test ?_ | with_reducible refine Sw.g_bl ?_
  | with_reducible refine Sw.g_seqdrop ?_ | with_reducible refine Sw.g_seqsub ?_ | with_reducible refine Sw.g_asg ?_ | with_reducible refine Sw.g_asgsub ?_ | with_reducible refine Sw.g_ret ?_ | with_reducible refine Sw.g_drop ?_ | with_reducible refine Sw.g_if ?_ | with_reducible refine Sw.g_next ?_ | with_reducible refine Sw.g_name ?_
  | with_reducible refine Sw.g_B ?_ | with_reducible refine Sw.g_not ?_ | with_reducible refine Sw.g_and ?_ | with_reducible refine Sw.g_or ?_ | with_reducible refine Sw.g_andV ?_ | with_reducible refine Sw.g_orV ?_ | with_reducible refine Sw.g_notV ?_
  | with_reducible refine Sw.g_ifE ?_ | with_reducible refine Sw.g_chain ?_ | with_reducible refine Sw.g_un ?_ | with_reducible refine Sw.g_tup ?_ | with_reducible refine Sw.g_lst ?_ | with_reducible refine Sw.g_sl ?_ | with_reducible refine Sw.g_part ?_ | with_reducible refine Sw.g_nopart ?_
  | with_reducible refine Sw.g_U ?_ | with_reducible refine Sw.g_eq rfl ?_ | with_reducible refine Sw.g_ne rfl ?_ | with_reducible refine Sw.g_int ?_ | with_reducible refine Sw.g_yes ?_ | with_reducible refine L2.iteT ?_ | with_reducible refine L2.iteF ?_ | with_reducible refine Sw.iteNT ?_ | with_reducible refine Sw.iteNF ?_ | with_reducible refine Sw.g_m1 ?_ | with_reducible refine Sw.g_bm ?_ | with_reducible refine ⟨Sw.ty_lst (by assumption), ?_⟩ | with_reducible refine Sw.g_sput ?_ | with_reducible refine Sw.g_put ?_ | with_reducible refine Sw.g_dget2 ?_ | with_reducible refine Sw.g_dget ?_ | with_reducible refine Sw.g_dK ?_
  | with_reducible refine Sw.g_ixL (by assumption) rfl ?_ | with_reducible refine Sw.g_ixT (by assumption) rfl ?_)
local macro_rules | `(tactic| walk_at "go") => `(tactic| repeat walk_at "go1")
local macro_rules | `(tactic| walk_at "bd") => `(tactic| repeat (first | with_reducible exact Sw.all_nil | refine Sw.all_cons ⟨_, rfl, by omega, by omega⟩ ?_))
local macro_rules | `(tactic| walk_at "new") => `(tactic| (refine ⟨Nat.le_of_ble_eq_true rfl, fun p np => ?_⟩; generalize hX : L2.upd _ p _ = H'; have sm : L2.Same _ H' := hX ▸ Sw.same_upd np; have hp : H' p = some _ := hX ▸ L2.upd_same; clear hX))
namespace Sw
open PySem PySem.Spec PyProof.Rows L2 SX
/-! ### a comprehension, a def called with the error itself, where an error is handled -/
section
variable {X : Cx} {pins : List (Addr × Obj)} {σ : L2.St} {H : Hp} {s : Shared}
theorem repin (I : Inv X pins σ H s) (pl : List (Addr × Obj)) (hp : ∀ q ∈ pl, s.heap.get? q.1 = some q.2 ∧ H q.1 = none ∧ q.1 ≠ X.env.locals ∧ q.1 ∉ X.fs ∧ ∀ v, q.2.data ≠ .cell v) : Inv { X with pn := pl } [] σ H s := by
  have o := I.ok
  exact ⟨⟨o.mod, o.kind, o.glob, o.blt, o.above, o.inj, o.has, o.cab, o.hd, o.frames, o.stk, o.exf, o.bs, o.bsz, o.noex, o.exfs, o.funs, o.frf⟩,
    I.os, I.bare, I.base, I.loc, I.cell, I.free, I.freeC, fun q hq => hp q (by simpa using hq), I.hok, I.len⟩
/-- a block's context, the handled error q pinned in it -/
abbrev blkP (X : Cx) (q : Addr × Obj) (s : Shared) (H : Hp) (scope : Scope) (ce : Env) (fp : List Addr) : Cx := { X.blk s H scope ce fp with pn := [q] }
theorem pe_lcH {elt tg iter : Expr} {ifs : List Expr} {scope : Scope} {own : List (Str × Nat)} {pos : Pos} {wi : TI} {g : TG} {tt : TT} {te : TE} (hot : L2H.HotC X) (nd : X.N.Nodup) (hi : L2H.PIH X tg iter wi) (ok : BlkOk X.N X.env.scope scope own)
    (hg : ∀ (q : Addr × Obj) (s : Shared) (H : Hp) (C : Addr) (cl : List (Str × Addr)) (fp : List Addr), PG (blkP X q s H scope (compEnvC scope cl C X.env) fp) tg g)
    (ht : ∀ (q : Addr × Obj) (s : Shared) (H : Hp) (C : Addr) (cl : List (Str × Addr)) (fp : List Addr), PTs (blkP X q s H scope (compEnvC scope cl C X.env) fp) ifs tt)
    (he : ∀ (q : Addr × Obj) (s : Shared) (H : Hp) (C : Addr) (cl : List (Str × Addr)) (fp : List Addr), PE (blkP X q s H scope (compEnvC scope cl C X.env) fp) elt te)
    (hfold : ∀ x, foldedSetIterable iter X.env x = pure x := by intro _; rfl) : PE X (.ListComp elt [⟨tg, iter, ifs, 0⟩] scope pos) (tLc wi g tt te (own.map (·.2))) := by
  refine ⟨fun pins s σ H Q I h => ?_⟩
  rw [eval_ListComp]
  obtain ⟨q, hq1, hqm⟩ := id hot
  have fr : ∀ y ∈ scope.names, y.2 = .free → ∃ c, X.env.cells.lookup y.1 = some c := fun y hy e => (ok.free y hy e).elim (fun k => I.ok.has _ (.inl k)) fun k => I.ok.has _ (.inr k)
  refine wpAny_comprehension_free (use := none) rfl hfold (closure_ok fr) ok.kind (fun y hy e => by rw [ok.uniq y hy, e]) (thn (hi.run pins s σ H _ I h) fun vv sa ha => thn ha fun iv sb hb => ?_)
  obtain ⟨it, fp, tn, J, Hb, rfl, Ib, T, stb, fb, qq⟩ := hb
  refine wpAny_newObj_type (newEnv_comp ?_) (by show 0 ≤ sizeLine; decide)
  generalize hD : sb.heap.objs.size = L
  have hLn : Hb L = none := Ib.hok.fresh (Nat.le_of_eq hD)
  obtain ⟨W, ⟨m0, w0⟩, turn⟩ := qq L hLn
  generalize hsc : ({ sb with heap := sb.heap.push { cls := .type "list", data := .seq ([] : List Value).toArray } } : Shared) = sc
  have hheap : sc.heap = sb.heap.push { cls := .type "list", data := .seq ([] : List Value).toArray } := by rw [← hsc]
  have Ic : Inv X pins σ (upd Hb L (.lst [])) sc := by
    rw [← hsc]
    refine Ib.laid (t' := sb.toks) (fun b o e => Heap.get?_push_of_some _ e) (Nat.le_of_eq hD) ⟨Nat.zero_le _, [], 0, .nil, ?_⟩
    rw [← hD]; exact Heap.get?_push_size _ rfl
  have lt : ∀ b ∈ fp, b < sb.heap.objs.size := fun b hb => by obtain ⟨o, e, _⟩ := T.obj _ _ stb b hb; exact Heap.lt_size e
  have fc : ∀ b ∈ fp, FpOk X pins (upd Hb L (.lst [])) b ∧ b < sc.heap.objs.size := fun b hb => ⟨⟨by rw [upd_ne (by rw [← hD]; exact Nat.ne_of_lt (lt b hb))]; exact (fb b hb).1, (fb b hb).2⟩, by rw [hheap, Heap.size_push]; exact Nat.lt_succ_of_lt (lt b hb)⟩
  have stc : tn 0 sc.heap := T.keep _ _ _ stb fun b _ o e => by rw [hheap]; exact Heap.get?_push_of_some _ e
  have Id := block_start Ic ok nd fc
  have pg := hg q sc (upd Hb L (.lst [])) sc.heap.objs.size (cellsFrom (sc.heap.objs.size + 1) scope.names (cloFrom X.env.cells scope.names [])) fp
  have pt := ht q sc (upd Hb L (.lst [])) sc.heap.objs.size (cellsFrom (sc.heap.objs.size + 1) scope.names (cloFrom X.env.cells scope.names [])) fp
  have pe := he q sc (upd Hb L (.lst [])) sc.heap.objs.size (cellsFrom (sc.heap.objs.size + 1) scope.names (cloFrom X.env.cells scope.names [])) fp
  have P0 := Ic.pin q (List.mem_append_left _ hqm)
  show codeAny _ _ (.compStart (.ListComp elt [⟨tg, iter, ifs, 0⟩] scope pos) 0 (.ref it) (.ref L) (compEnvC scope (cellsFrom (sc.heap.objs.size + 1) scope.names (cloFrom X.env.cells scope.names [])) sc.heap.objs.size X.env)) (compPost (model X.prog X.w) X.A X.xe none (EP X pins σ Q) (.ref L) sc.heap.objs.size) { sc with heap := pushCells (sc.heap.push { cls := .type "dict", data := .dict #[] }) scope.names }
  generalize hce : compEnvC scope (cellsFrom (sc.heap.objs.size + 1) scope.names (cloFrom X.env.cells scope.names [])) sc.heap.objs.size X.env = ce at Id pg pt pe ⊢
  have ceL : ce.locals = sc.heap.objs.size := by subst hce; rfl
  generalize hHc : upd Hb L (.lst []) = Hc at Ic Id pg pt pe w0 fc P0
  generalize hsd : ({ sc with heap := pushCells (sc.heap.push { cls := .type "dict", data := .dict #[] }) scope.names } : Shared) = sd at Id ⊢
  have kd : ∀ b o, sc.heap.get? b = some o → sd.heap.get? b = some o := fun b o e => by rw [← hsd]; exact pushCells_keeps _ _ _ _ (Heap.get?_push_of_some _ e)
  have std : tn 0 sd.heap := T.keep _ _ _ stc fun b _ o e => kd b o e
  have Ie : Inv (blkP X q sc Hc scope ce fp) [] (wipe σ (own.map (·.2))) Hc sd := repin Id [q] fun z hz => by
    have ez : z = q := by simpa using hz
    subst ez
    exact ⟨kd _ _ P0.1, P0.2.1, by show z.1 ≠ ce.locals; rw [ceL]; exact Nat.ne_of_lt (Heap.lt_size P0.1), fun hm => (List.mem_cons.mp (Ic.stkSub z.1 hm)).elim P0.2.2.1 P0.2.2.2.1, P0.2.2.2.2⟩
  have hotB : L2H.HotC (blkP X q sc Hc scope ce fp) := ⟨q, hq1, List.mem_singleton.mpr rfl⟩
  have steady : ∀ {τ : L2.St} {H' : Hp} {s' : Shared}, Inv (blkP X q sc Hc scope ce fp) [] τ H' s' → (∀ b ∈ fp, H' b = none) → ∀ b ∈ fp, FpOk (blkP X q sc Hc scope ce fp) [] H' b := fun {τ H' s'} J hn b hb =>
    ⟨hn b hb, (J.ok.exf b hb).1, J.ok.exfs b hb, .inl hb, fun x c e => (J.ok.exf b hb).2 x c e, fun z hz => by
      have ez : z = q := by simpa using hz
      subst ez
      exact (fc b hb).1.2.2.2.2.2 z (List.mem_append_left _ hqm)⟩
  have loop : codeAny (model X.prog X.w) X.A (.compLoop (.ListComp elt [⟨tg, iter, ifs, 0⟩] scope pos) 0 (.ref it) (.ref L) ce) (compPost (model X.prog X.w) X.A X.xe none (EP X pins σ Q) (.ref L) sc.heap.objs.size) sd := by
    refine compLoop_any (fun n s' => ∃ i H', Inv (blkP X q sc Hc scope ce fp) [] (wipe σ (own.map (·.2))) H' s' ∧ tn i s'.heap ∧ (∀ b ∈ fp, H' b = none) ∧ W i n H') ?_ m0 ⟨0, Hc, Ie, std, fun b hb => (fc b hb).1.1, w0⟩
    rintro n s5 ⟨i, H5, I5, st5, n5, w5⟩
    rcases turn i n H5 w5 with ⟨stop, done⟩ | ⟨go, Nx, hNx, step⟩
    · refine thnF (T.done (blkP X q sc Hc scope ce fp) rfl rfl rfl hotB i [] s5 _ H5 (fun _ _ => False) I5 (steady I5 n5) st5 stop) fun r s6 ⟨hr, I6⟩ => ?_
      subst hr
      have I7 : Inv X pins σ H5 s6 := Ic.call' (ch := fp) I6.os I6.base I6.hok I6.bare fun b hb => ⟨(fc b hb).1.2.2.2.1, (fc b hb).1.2.1, (fc b hb).1.2.2.2.2.1, (fc b hb).1.2.2.2.2.2⟩
      have nC : H5 sc.heap.objs.size = none := by have z : H5 ce.locals = none := I6.free; rw [ceL] at z; exact z
      obtain ⟨m, hn, _⟩ := I6.loc
      have hn : s6.heap.Ns ce.locals m := hn
      rw [ceL] at hn
      obtain ⟨f0, f1, f2, f3, f4, f5⟩ := Ic.fpOk (Nat.le_refl _) nC
      exact ⟨m, hn, fun h'' same => ⟨.ref L, H5, I7.turned (t' := s6.toks) (fun b o hb e => (same.2 b hb).trans e) f0 f1 f3 f4 f5, rfl, done⟩⟩
    · refine thnF (T.item (blkP X q sc Hc scope ce fp) rfl rfl rfl hotB i [] s5 _ H5 (fun _ _ => False) I5 (steady I5 n5) st5 go) fun r s6 ⟨u, hr, h6⟩ => ?_
      subst hr
      refine thnF h6 fun _ s7 ⟨x, H7, I7, r7, y7, st7, n7⟩ => ?_
      have J7 := I7.pinned (steady I7 n7) (T.obj _ _ st7)
      refine thnF (pg.run _ s7 _ H7 x u _ J7 r7 (step x H7 y7)) fun _ s8 ⟨τ, H8, I8, hw8, q8⟩ => ?_
      refine thnF (pt.run _ s8 τ H8 _ I8 q8) fun b s9 ⟨H9, I9, q9⟩ => ?_
      have fin : ∀ {s' : Shared} {H' : Hp}, Inv (blkP X q sc Hc scope ce fp) ([] ++ pinsAt fp s7.heap) τ H' s' → Nx H' → ∃ m, m < n ∧ ∃ i H', Inv (blkP X q sc Hc scope ce fp) [] (wipe σ (own.map (·.2))) H' s' ∧ tn i s'.heap ∧ (∀ b ∈ fp, H' b = none) ∧ W i m H' := fun {s' H'} J nx => by
        obtain ⟨m', hm, w'⟩ := hNx H' nx
        have pk : ∀ b ∈ fp, ∀ o, s7.heap.get? b = some o → s'.heap.get? b = some o ∧ H' b = none := fun b hb o e => let z := J.pin (b, o) (List.mem_append_right _ (List.mem_append_right _ (mem_pinsAt hb e))); ⟨z.1, z.2.1⟩
        refine ⟨m', hm, i + 1, H', (J.unpinned (pins := [])).weak (by rw [← hw8, wipe_length]) (fun j v e => ?_), T.keep _ _ _ st7 fun b hb o e => (pk b hb o e).1, fun b hb => ?_, w'⟩
        · rw [← hw8] at e; exact (wipe_some e).1
        · obtain ⟨o, e, _⟩ := T.obj _ _ st7 b hb; exact (pk b hb o e).2
      cases b with
      | false => simp only [Bool.false_eq_true, if_false] at q9 ⊢; exact fin I9 q9
      | true =>
        simp only [if_true] at q9 ⊢
        refine thnF (pe.run _ s9 τ H9 _ I9 q9) fun z s10 ⟨yv, H10, I10, r10, acc, hA, hz10, nx⟩ => ?_
        exact app_ok (X := blkP X q sc Hc scope ce fp) I10 hA hz10 r10 fun s11 I11 => fin I11 nx
  exact codeAny_compStart_list loop (T.self X.A 0 _ _ _ std loop)
end
/-- what a def promises of the handled error: its class, its dict, the heap, what is wanted -/
abbrev SpE := Value → Option Addr → Hp → VK → Prop
/-- the def under the name x, called with the handled error alone, keeps sp; nothing leaves it -/
structure CalE (P : Program) (w : World) (K : PySem.W.Frag) (mg : Str → Option Value) (base : Heap) (k : Nat) (x : Str) (sp : SpE) : Prop where
  ex : ∃ (f : Addr) (fd : FuncData) (par : Str), mg x = some (.ref f) ∧ PySem.W.keepIn K (.ref f) = true ∧ Binds K fd [par] [] ∧
    ∀ (A : Around) (outer : List Env) (s : Shared) (H : Hp) (args : Args) (q : Addr × Obj) (cls : Value) (d : Option Addr) (Q : VK), L2H.RoomH k A → L2H.Hot1 A q → L2H.PinOk outer H s q → Zc cls d q.2 → Env0 P w K mg base A outer s H →
      BindsTo s fd args [(par, .ref q.1)] → sp cls d H Q → codeAny (model P w) A (.call (.ref f) args) (CR CX0 outer P w H s Q E0) s
section
variable {P : Program} {w : World} {K : PySem.W.Frag} {mg : Str → Option Value} {base : Heap}
theorem calE {k : Nat} {x par : Str} {st : Stmt} {f : Addr} {fd : FuncData} {N : List Str} {sp : SpE} (F : L2.Fun K x x st f fd) (g : mg x = some (.ref f)) (b : Binds K fd [par] []) (S : FnScope N [par] (defScope st))
    (hbody : ∀ (cdv : Value) (A : Around) (outer : List Env) (s : Shared) (H : Hp) (Q : VK) (q : Addr × Obj) (cls : Value) (d : Option Addr), L2H.Hot1 A q → Zc cls d q.2 → L2H.RoomH k (A.deeper (envOfC x (defScope st) s.heap.objs.size f cdv)) → sp cls d H Q →
      ∃ t, PSs (L2H.cxH CX0 P w K mg base N x (defScope st) f cdv A outer s H E0 q) (defBody st) t ∧ t { nx := fun _ H' => Q .non H', rt := Q } (start N [.ref q.1]) H) : CalE P w K mg base (k + 1) x sp := by
  refine ⟨f, fd, par, g, F.kp, b, fun A outer s H args q cls d Q hr hot hpin hz e0 hb hsp => ?_⟩
  obtain ⟨oc, od, kV, doc, pm, an, cdv, ct, osl, rfl, lk, hcd⟩ := F.ex
  have KX : K.In s.heap := e0.mod.kin.keeps fun b o e => (e0.bs b o e).1
  have kinds : ∀ y ∈ [(par, Value.ref q.1)], (defScope st).names.lookup y.1 = some .local ∨ ((defScope st).names.lookup y.1 = some .cell ∧ ((cellsFrom (s.heap.objs.size + 1) (defScope st).names []).lookup y.1).isSome = true) := fun y hy => by
    have ey : y = (par, Value.ref q.1) := by simpa using hy
    subst ey
    exact (S.par par (List.mem_singleton.mpr rfl)).elim .inl fun z => .inr ⟨z, PySem.W.cellsFrom_some _ _ _ (.inl z)⟩
  refine codeAny_call_function hr.depth (KX _ _ lk) rfl S.co S.gen rfl (PySem.W.codeRec_of KX hcd) (hb _ _ _ _ ?_)
  refine wpAny_newFunctionEnv_cells S.kind kinds fun env he s1 xx => ?_
  subst he
  refine ⟨(e0.mod.nolimit.keeps fun b o e => (e0.bs b o e).1).keeps xx.toInCall.keep, codeAny_func ?_⟩
  obtain ⟨t, ht, hq⟩ := hbody cdv A outer s H Q q cls d hot hz (hr.deeper _) hsp
  have I : Inv (L2H.cxH CX0 P w K mg base N x (defScope st) f cdv A outer s H E0 q) [] (start N [.ref q.1]) H s1 := L2H.inv_startH (us := [.ref q.1]) S hpin e0 rfl (.cons rfl .nil) xx
  refine wpAny_mono (ht.run [] s1 _ H _ I hq) (fun fl s' hs => ?_) fun e s' hs => hs
  cases fl with
  | ret u => obtain ⟨v, τ, H', J, rv, z⟩ := hs; exact ⟨v, H', J.os, J.bare, J.base, J.hok, rv, z⟩
  | next => obtain ⟨τ, H', J, z⟩ := hs; exact ⟨.non, H', J.os, J.bare, J.base, J.hok, rfl, z⟩
  | brk => obtain ⟨_, _, _, z⟩ := hs; exact z.elim
  | cont => obtain ⟨_, _, _, z⟩ := hs; exact z.elim
end
/-- f(e) in the suite of «except .. as e» -/
def tCallE (sp : SpE) (a : Addr) (cls : Value) (d : Option Addr) (te : TE) : TE := fun σ H Q => te σ H fun v H1 => v = .ref a ∧ sp cls d H1 Q
section
variable {X : Cx} {k j : Nat} {x : Str} {sp : SpE} {a : Addr} {oe : Obj} {cls : Value} {d : Option Addr} {pn : List (Addr × Obj)} {p pos : Pos} {e : Expr} {te : TE}
theorem pe_calE (c : CalE X.prog X.w X.K X.mg X.base k x sp) (hr : Room j X.A) (hk : k ≤ j) (hz : L2N.Zn cls d oe) (hf : ∃ vs, oe.data = .fields vs) (hg : Gl X x) (he : PE (X.suite a ((a, oe) :: pn)) e te) (hdb : (x == ("__debug__" : Str)) = false := by decide)
    (hst : starEach [e] X.env = (false, eval e X.env) :: starEach [] X.env := by rfl) : PE (X.suite a ((a, oe) :: pn)) (.Call (.Name x p) [e] [] pos) (tCallE sp a cls d te) := by
  obtain ⟨f, fd, par, hm, kp, b, run⟩ := c.ex
  obtain ⟨vs, hvs⟩ := hf
  have hot : L2H.Hot1 (X.suite a ((a, oe) :: pn)).A (a, oe) := ⟨rfl, vs, hvs, hz.2.2 vs hvs⟩
  have ha : PA (X.suite a ((a, oe) :: pn)) [e] (tCons te tNil) := pa_cons he pa_nil hst
  refine ⟨fun pins s σ H Q I h => ?_⟩
  refine wpAny_Call_Name_kw (ld_glob I hg hm ?_ hdb)
  have h2 : tCons te tNil σ H fun vs H1 => vs = [V.ref a] ∧ sp cls d H1 Q := by
    have h' : te σ H fun v H1 => v = .ref a ∧ sp cls d H1 Q := h
    show te σ H fun v H1 => [v] = [V.ref a] ∧ sp cls d H1 Q
    have e : (fun (v : V) (H1 : Hp) => [v] = [V.ref a] ∧ sp cls d H1 Q) = fun v H1 => v = .ref a ∧ sp cls d H1 Q := by
      funext v H1
      exact propext ⟨fun z => ⟨(List.cons.inj z.1).1, z.2⟩, fun z => ⟨by rw [z.1], z.2⟩⟩
    rw [e]
    exact h'
  refine PySem.W.callWith_K (h₀ := X.base) I.ok.mod.kin kp (thn (ha.run pos pins s σ H _ I h2) fun us s1 ⟨vs1, H1, I1, r, ev, q⟩ => ⟨I1.kIn, ?_⟩) hst rfl
  subst ev
  have P1 := I1.pin (a, oe) (List.mem_append_left _ List.mem_cons_self)
  have eu : us = [Value.ref a] := by
    cases r with
    | cons r1 r2 => cases r2; rw [show _ = Value.ref a from r1]
  subst eu
  have bb := b s1 [Value.ref a] I1.kIn rfl
  have rm : L2H.RoomH k (X.suite a ((a, oe) :: pn)).A := ⟨(hr.mono hk).dp, (hr.mono hk).un⟩
  refine wpAny_call (codeAny_mono (run _ _ s1 H1 _ (a, oe) cls d Q rm hot ⟨P1.1, P1.2.1, fun hmm => (List.mem_cons.mp (I1.stkSub a hmm)).elim P1.2.2.1 P1.2.2.2.1, P1.2.2.2.2⟩ hz.zc I1.env0 bb q) fun rr s' hq => ?_)
  cases rr with
  | error z => exact False.elim hq
  | ok fl =>
    cases fl with
    | ret u => exact I1.after hq
    | next => exact False.elim hq
    | brk => exact False.elim hq
    | cont => exact False.elim hq
/-- isinstance(e, c), e an error that is pinned -/
theorem call_isP {Y : Cx} {D : Addr} (C : ExcC Y.K D) (hz : Zc (.ref D) none oe) (hf : ∃ vs, oe.data = .fields vs) (hm : (a, oe) ∈ Y.pn) : CallR Y (.builtin "isinstance") (rIsE Y.K D a) := by
  intro pins s σ H xs us Q I r h
  obtain ⟨c, cv, b, rfl, hcv, e, q⟩ := h
  obtain ⟨u1, u2, rfl, r1, r2⟩ := vals2 r
  obtain rfl : u1 = Value.ref a := r1
  obtain rfl := hcv _ r2
  obtain ⟨vs, hv⟩ := hf
  have hget := (I.pin (a, oe) (List.mem_append_left _ hm)).1
  have J : PySem.W.InstAt s.heap a oe D none := by
    obtain ⟨oc, od, oda, osl⟩ := oe
    obtain ⟨h1, h2⟩ := hz
    dsimp only at h1 h2 hv
    subst h1 h2 hv
    exact ⟨hget, rfl, rfl, trivial⟩
  exact PySem.W.kia_one (PySem.W.handS_kitx_exc C.hg C.hk C.hs C.hd C.ha C.hn C.ht C.hm) I.kIn J e (fun z => nomatch z) fun tk => ⟨.bl b, H, I.kept (t' := tk) fun _ _ z => z, rfl, q⟩
end
end Sw
local macro_rules | `(tactic| walk_at "go1") => `(tactic| first
  | with_reducible refine Sw.g_seqasg ?_ | with_reducible refine Sw.g_op ?_ | with_reducible refine Sw.g_var rfl ?_ | with_reducible refine Sw.g_c ?_ | with_reducible refine Sw.g_I0 ?_
  | with_reducible refine Sw.g_cons ?_ | with_reducible refine Sw.g_nil ?_ | with_reducible refine Sw.g_call ?_ | with_reducible refine Sw.g_cb ?_ | with_reducible refine Sw.g_test ?_ | with_reducible refine Sw.g_bl ?_
  | with_reducible refine Sw.g_seqdrop ?_ | with_reducible refine Sw.g_seqsub ?_ | with_reducible refine Sw.g_asg ?_ | with_reducible refine Sw.g_asgsub ?_ | with_reducible refine Sw.g_ret ?_ | with_reducible refine Sw.g_drop ?_ | with_reducible refine Sw.g_if ?_ | with_reducible refine Sw.g_next ?_ | with_reducible refine Sw.g_name ?_
  | with_reducible refine Sw.g_B ?_ | with_reducible refine Sw.g_not ?_ | with_reducible refine Sw.g_and ?_ | with_reducible refine Sw.g_or ?_ | with_reducible refine Sw.g_andV ?_ | with_reducible refine Sw.g_orV ?_ | with_reducible refine Sw.g_notV ?_
  | with_reducible refine Sw.g_ifE ?_ | with_reducible refine Sw.g_chain ?_ | with_reducible refine Sw.g_un ?_ | with_reducible refine Sw.g_tup ?_ | with_reducible refine Sw.g_lst ?_ | with_reducible refine Sw.g_sl ?_ | with_reducible refine Sw.g_part ?_ | with_reducible refine Sw.g_nopart ?_
  | with_reducible refine Sw.g_U ?_ | with_reducible refine Sw.g_eq rfl ?_ | with_reducible refine Sw.g_ne rfl ?_ | with_reducible refine Sw.g_int ?_ | with_reducible refine Sw.g_yes ?_ | with_reducible refine L2.iteT ?_ | with_reducible refine L2.iteF ?_ | with_reducible refine Sw.iteNT ?_ | with_reducible refine Sw.iteNF ?_ | with_reducible refine Sw.g_m1 ?_ | with_reducible refine Sw.g_bm ?_ | with_reducible refine ⟨Sw.ty_lst (by assumption), ?_⟩ | with_reducible refine Sw.g_sput ?_ | with_reducible refine Sw.g_put ?_ | with_reducible refine Sw.g_dget2 ?_ | with_reducible refine Sw.g_dget ?_ | with_reducible refine Sw.g_dK ?_
  | with_reducible refine Sw.g_ixL (by assumption) rfl ?_ | with_reducible refine Sw.g_ixT (by assumption) rfl ?_)
local macro_rules | `(tactic| walk_at "go") => `(tactic| repeat walk_at "go1")
local macro_rules | `(tactic| walk_at "bd") => `(tactic| repeat (first | with_reducible exact Sw.all_nil | refine Sw.all_cons ⟨_, rfl, by omega, by omega⟩ ?_))
local macro_rules | `(tactic| walk_at "new") => `(tactic| (refine ⟨Nat.le_of_ble_eq_true rfl, fun p np => ?_⟩; generalize hX : L2.upd _ p _ = H'; have sm : L2.Same _ H' := hX ▸ Sw.same_upd np; have hp : H' p = some _ := hX ▸ L2.upd_same; clear hX))
namespace Sw
open PySem PySem.Spec PyProof.Rows L2 SX
/-! ### refusals -/
/-- where the classes of refusals stand -/
structure Cl where
  (Lacks NoBank NoBook NoDeed NoName NoOrder NoPlace NoRow NoSlack NoText NoTurns NoWheel NoWord TooMany WheelError : Addr)
/-- the def under the name x keeps sp; errors may leave it -/
structure CalX (P : Program) (w : World) (K : PySem.W.Frag) (mg : Str → Option Value) (base : Heap) (k : Nat) (x : Str) (sp : Sp) : Prop where
  ex : ∃ (f : Addr) (fd : FuncData) (ps : List Str), FnOk P w K mg base (L2N.CX P w) k f fd ps sp ∧ mg x = some (.ref f) ∧ PySem.W.keepIn K (.ref f) = true ∧ Binds K fd ps []
theorem okN {P : Program} {w : World} {K : PySem.W.Frag} {mg : Str → Option Value} {base : Heap} {x qual : Str} {st : Stmt} {f : Addr} {fd : FuncData} {N ps : List Str} {k : Nat} {sp : Sp} (F : L2.Fun K x qual st f fd) (S : FnScope N ps (defScope st))
    (len : ∀ vs H Q E, sp vs H Q E → vs.length = ps.length) (hbody : ∀ (cdv : Value) (A : Around) (outer : List Env) (s : Shared) (H : Hp) (vs : List V) (Q : VK) (E : XK), Room k (A.deeper (envOfC qual (defScope st) s.heap.objs.size f cdv)) → sp vs H Q E →
      ∃ t, PSs (cxOf (L2N.CX P w) P w K mg base N qual (defScope st) f cdv A outer s H E) (defBody st) t ∧ t { nx := fun _ H' => Q .non H', rt := Q } (start N vs) H) : FnOk P w K mg base (L2N.CX P w) (k + 1) f fd ps sp := by
  obtain ⟨oc, od, kV, doc, pm, an, cdv, ct, osl, rfl, lk, hcd⟩ := F.ex
  exact fn_of lk hcd S len fun A outer s H vs Q E hr h => hbody cdv A outer s H vs Q E hr h
theorem takesN0 {X : Cx} : L2N.Takes X (fun _ _ _ _ => False) := fun _ _ x => by
  obtain ⟨_, _, _, _, _, _, _, _, _, _, _, _, _, _, _, _, z⟩ := x
  exact z.elim
section
variable {X : Cx} {k j : Nat} {x : Str} {sp : Sp} {E : XK} {W : WX} {p pos : Pos} {e : Expr} {es : List Expr} {t : TA}
theorem pe_calX (c : CalX X.prog X.w X.K X.mg X.base k x sp) (hr : Room j X.A) (hk : k ≤ j) (hg : Gl X x) (hp : Passes (L2N.CX X.prog X.w) X E) (ha : PA X (e :: es) t) (hdb : (x == ("__debug__" : Str)) = false := by decide)
    (he : starEach (e :: es) X.env = (false, eval e X.env) :: starEach es X.env := by rfl) (hpl : (backTo pos (starEach es X.env)).any (·.1) = false := by rfl) : PE X (.Call (.Name x p) (e :: es) [] pos) (tCall sp [] E t) := by
  obtain ⟨f, fd, ps, F, hm, kp, b⟩ := c.ex
  exact pe_call F (hr.mono hk) hg hm kp b .nil hp ha hdb he hpl
theorem pe_calS (c : CalX X.prog X.w X.K X.mg X.base k x sp) (hr : Room j X.A) (hk : k ≤ j) (hg : Gl X x) (tk : L2N.Takes X W) (ha : PA X (e :: es) t) (hdb : (x == ("__debug__" : Str)) = false := by decide)
    (he : starEach (e :: es) X.env = (false, eval e X.env) :: starEach es X.env := by rfl) (hpl : (backTo pos (starEach es X.env)).any (·.1) = false := by rfl) : PE X (.Call (.Name x p) (e :: es) [] pos) (tCallS sp (WE W) t) := by
  obtain ⟨f, fd, ps, F, hm, kp, b⟩ := c.ex
  exact pe_callS F (hr.mono hk) hg hm kp b (fun σ => L2N.passAt tk σ) ha hdb he hpl
end
/-- what a callee raises leaves this def too -/
theorem passX {P : Program} {w : World} {K : PySem.W.Frag} {mg : Str → Option Value} {base : Heap} {N : List Str} {qual : Str} {scope : Scope} {f : Addr} {cd : Value} {A : Around} {outer : List Env} {s : Shared} {H : Hp} {E : XK} :
    Passes (L2N.CX P w) (cxOf (L2N.CX P w) P w K mg base N qual scope f cd A outer s H E) E := L2N.passes_call (X := cxOf (L2N.CX P w) P w K mg base N qual scope f cd A outer s H E) (L2N.takes_of rfl rfl rfl rfl) (fun _ _ _ _ h => h)
/-- nothing is raised there -/
theorem passE0 {X : Cx} : Passes (L2N.CX X.prog X.w) X E0 := fun _ _ _ _ _ _ _ h => by
  obtain ⟨_, _, _, _, _, _, _, _, _, _, _, _, z⟩ := h
  exact z.elim
def tRaise (E : XK) (C : Addr) : TS := fun _ _ H => E (.ref C) none H
/-- try: .. except (the class at W) as (slot i): .. -/
def tTry (K : PySem.W.Frag) (Wh : Addr) (i : Nat) (tb : WX → TS) (ts : Addr → Value → Option Addr → TS) : TS := fun D σ H => tb (wAs K (.ref Wh) i ts (fun _ _ _ _ => False) D) D σ H
/-! ### what kind a refusal is of: _law_kind -/
def knames : List Str := ["Lacks", "NoBank", "NoBook", "NoDeed", "NoName", "NoOrder", "NoPlace", "NoRow", "NoSlack", "NoText", "NoTurns", "NoWheel", "NoWord", "TooMany", "+"]
def kstr (j : Nat) : Str := Txt.join (PySem.Str.ofString "") [knames.getD j "", "+"]
theorem kstr0 : kstr 0 = PySem.Str.ofString "Lacks+" := by decide +kernel
theorem kstr1 : kstr 1 = PySem.Str.ofString "NoBank+" := by decide +kernel
theorem kstr2 : kstr 2 = PySem.Str.ofString "NoBook+" := by decide +kernel
theorem kstr3 : kstr 3 = PySem.Str.ofString "NoDeed+" := by decide +kernel
theorem kstr4 : kstr 4 = PySem.Str.ofString "NoName+" := by decide +kernel
theorem kstr5 : kstr 5 = PySem.Str.ofString "NoOrder+" := by decide +kernel
theorem kstr6 : kstr 6 = PySem.Str.ofString "NoPlace+" := by decide +kernel
theorem kstr7 : kstr 7 = PySem.Str.ofString "NoRow+" := by decide +kernel
theorem kstr8 : kstr 8 = PySem.Str.ofString "NoSlack+" := by decide +kernel
theorem kstr9 : kstr 9 = PySem.Str.ofString "NoText+" := by decide +kernel
theorem kstr10 : kstr 10 = PySem.Str.ofString "NoTurns+" := by decide +kernel
theorem kstr11 : kstr 11 = PySem.Str.ofString "NoWheel+" := by decide +kernel
theorem kstr12 : kstr 12 = PySem.Str.ofString "NoWord+" := by decide +kernel
theorem kstr13 : kstr 13 = PySem.Str.ofString "TooMany+" := by decide +kernel
/-- the class at D is the j-th of these; errors of it are told so -/
structure Caught (K : PySem.W.Frag) (c : Cl) (D : Addr) (j : Nat) : Prop where
  ex : ExcC K D
  exm : PySem.W.exmOne K (.ref D) (.ref c.WheelError) = some true
  q0 : PySem.W.kitOne K (.ref D) (.ref c.Lacks) = some (decide (0 = j))
  q1 : PySem.W.kitOne K (.ref D) (.ref c.NoBank) = some (decide (1 = j))
  q2 : PySem.W.kitOne K (.ref D) (.ref c.NoBook) = some (decide (2 = j))
  q3 : PySem.W.kitOne K (.ref D) (.ref c.NoDeed) = some (decide (3 = j))
  q4 : PySem.W.kitOne K (.ref D) (.ref c.NoName) = some (decide (4 = j))
  q5 : PySem.W.kitOne K (.ref D) (.ref c.NoOrder) = some (decide (5 = j))
  q6 : PySem.W.kitOne K (.ref D) (.ref c.NoPlace) = some (decide (6 = j))
  q7 : PySem.W.kitOne K (.ref D) (.ref c.NoRow) = some (decide (7 = j))
  q8 : PySem.W.kitOne K (.ref D) (.ref c.NoSlack) = some (decide (8 = j))
  q9 : PySem.W.kitOne K (.ref D) (.ref c.NoText) = some (decide (9 = j))
  q10 : PySem.W.kitOne K (.ref D) (.ref c.NoTurns) = some (decide (10 = j))
  q11 : PySem.W.kitOne K (.ref D) (.ref c.NoWheel) = some (decide (11 = j))
  q12 : PySem.W.kitOne K (.ref D) (.ref c.NoWord) = some (decide (12 = j))
  q13 : PySem.W.kitOne K (.ref D) (.ref c.TooMany) = some (decide (13 = j))
  q14 : PySem.W.kitOne K (.ref D) (.type "ValueError") = some true
def sp_law_kind (K : PySem.W.Frag) (c : Cl) : SpE := fun cls d H Q => d = none ∧ ∃ D j, cls = .ref D ∧ Caught K c D j ∧ j < 14 ∧ ∀ H', Same H H' → Q (.str (kstr j)) H'
theorem g_isE {K : PySem.W.Frag} {D a C : Addr} {b : Bool} {H : Hp} {Q : VK} (h : PySem.W.kitOne K (.ref D) (.ref C) = some b) (q : Q (.bl b) H) : rIsE K D a [.ref a, .ref C] H Q := ⟨.ref C, .ref C, b, rfl, fun _ r => r, h, q⟩
theorem g_isEt {K : PySem.W.Frag} {D a : Addr} {n : String} {b : Bool} {H : Hp} {Q : VK} (h : PySem.W.kitOne K (.ref D) (.type n) = some b) (q : Q (.bl b) H) : rIsE K D a [.ref a, .ty n] H Q := ⟨.ty n, .type n, b, rfl, fun _ r => r, h, q⟩
theorem g_catL {l b : Addr} {xs zs : List V} {H : Hp} {Q : VK} (hl : H l = some (.lst xs)) (hb : H b = some (.lst zs)) (hz : xs.length + zs.length ≤ 1000) (q : ∀ p H', H p = none → Same H H' → H' p = some (.lst (xs ++ zs)) → Q (.ref p) H') : rCat (.ref l) (.ref b) H Q :=
  ⟨l, b, xs, zs, rfl, rfl, hl, hb, Nat.le_trans hz (by decide), fun p hp => q p _ hp (fun b o e => by rw [upd_ne (ne_of_none e hp)]; exact e) upd_same⟩
theorem g_new {xs : List V} {F : Addr → Hp → Prop} {H : Hp} (hz : xs.length ≤ 1000) (q : ∀ p H', H p = none → Same H H' → H' p = some (.lst xs) → F p H') : xs.length ≤ sizeLine ∧ ∀ p, H p = none → F p (upd H p (.lst xs)) :=
  ⟨Nat.le_trans hz (by decide), fun p hp => q p _ hp (fun b o e => by rw [upd_ne (ne_of_none e hp)]; exact e) upd_same⟩
end Sw
local macro_rules | `(tactic| walk_at "isE") => `(tactic| first
  | with_reducible refine Sw.g_isE (Sw.Caught.q0 (by assumption)) ?_ | with_reducible refine Sw.g_isE (Sw.Caught.q1 (by assumption)) ?_ | with_reducible refine Sw.g_isE (Sw.Caught.q2 (by assumption)) ?_ | with_reducible refine Sw.g_isE (Sw.Caught.q3 (by assumption)) ?_
  | with_reducible refine Sw.g_isE (Sw.Caught.q4 (by assumption)) ?_ | with_reducible refine Sw.g_isE (Sw.Caught.q5 (by assumption)) ?_ | with_reducible refine Sw.g_isE (Sw.Caught.q6 (by assumption)) ?_ | with_reducible refine Sw.g_isE (Sw.Caught.q7 (by assumption)) ?_
  | with_reducible refine Sw.g_isE (Sw.Caught.q8 (by assumption)) ?_ | with_reducible refine Sw.g_isE (Sw.Caught.q9 (by assumption)) ?_ | with_reducible refine Sw.g_isE (Sw.Caught.q10 (by assumption)) ?_ | with_reducible refine Sw.g_isE (Sw.Caught.q11 (by assumption)) ?_
  | with_reducible refine Sw.g_isE (Sw.Caught.q12 (by assumption)) ?_ | with_reducible refine Sw.g_isE (Sw.Caught.q13 (by assumption)) ?_ | with_reducible refine Sw.g_isEt (Sw.Caught.q14 (by assumption)) ?_)
namespace Sw
open PySem PySem.Spec PyProof.Rows L2 SX
def t_law_kind (K : PySem.W.Frag) (c : Cl) (D a : Addr) : TS :=
  (tSeq (tAsg (tLst (tCons (tCB (rIsE K D a) (tCons (tVar 0) (tCons (tC (.ref c.Lacks)) tNil))) (tCons (tCB (rIsE K D a) (tCons (tVar 0) (tCons (tC (.ref c.NoBank)) tNil))) (tCons (tCB (rIsE K D a) (tCons (tVar 0) (tCons (tC (.ref c.NoBook)) tNil))) (tCons (tCB (rIsE K D a) (tCons (tVar 0) (tCons (tC (.ref c.NoDeed)) tNil))) tNil))))) (gName 1))
  (tSeq (tAsg (tOp rCat (tVar 1) (tLst (tCons (tCB (rIsE K D a) (tCons (tVar 0) (tCons (tC (.ref c.NoName)) tNil))) (tCons (tCB (rIsE K D a) (tCons (tVar 0) (tCons (tC (.ref c.NoOrder)) tNil))) (tCons (tCB (rIsE K D a) (tCons (tVar 0) (tCons (tC (.ref c.NoPlace)) tNil))) (tCons (tCB (rIsE K D a) (tCons (tVar 0) (tCons (tC (.ref c.NoRow)) tNil))) tNil)))))) (gName 1))
  (tSeq (tAsg (tOp rCat (tVar 1) (tLst (tCons (tCB (rIsE K D a) (tCons (tVar 0) (tCons (tC (.ref c.NoSlack)) tNil))) (tCons (tCB (rIsE K D a) (tCons (tVar 0) (tCons (tC (.ref c.NoText)) tNil))) (tCons (tCB (rIsE K D a) (tCons (tVar 0) (tCons (tC (.ref c.NoTurns)) tNil))) (tCons (tCB (rIsE K D a) (tCons (tVar 0) (tCons (tC (.ref c.NoWheel)) tNil))) tNil)))))) (gName 1))
  (tSeq (tAsg (tOp rCat (tVar 1) (tLst (tCons (tCB (rIsE K D a) (tCons (tVar 0) (tCons (tC (.ref c.NoWord)) tNil))) (tCons (tCB (rIsE K D a) (tCons (tVar 0) (tCons (tC (.ref c.TooMany)) tNil))) (tCons (tCB (rIsE K D a) (tCons (tVar 0) (tCons (tC (.ty "ValueError")) tNil))) tNil))))) (gName 1))
  (tSeq (tAsg (tLst (tCons (tC (.str "Lacks")) (tCons (tC (.str "NoBank")) (tCons (tC (.str "NoBook")) (tCons (tC (.str "NoDeed")) (tCons (tC (.str "NoName")) (tCons (tC (.str "NoOrder")) (tCons (tC (.str "NoPlace")) (tCons (tC (.str "NoRow")) (tCons (tC (.str "NoSlack")) (tCons (tC (.str "NoText")) tNil))))))))))) (gName 2))
  (tSeq (tAsg (tOp rCat (tVar 2) (tLst (tCons (tC (.str "NoTurns")) (tCons (tC (.str "NoWheel")) (tCons (tC (.str "NoWord")) (tCons (tC (.str "TooMany")) (tCons (tC (.str "+")) tNil))))))) (gName 2))
  (tRet (tM1 (rJoin K) (tC (.str "")) (tLc (iRng1 (tCons (tC (.int 15)) tNil)) (gName 3) (tB (tOp (rIxL K) (tVar 1) (tVar 3))) (tOp (rIxL K) (tVar 2) (tVar 3)) [3])))))))))

def kbs (j : Nat) : List V := [.bl (decide (0 = j)), .bl (decide (1 = j)), .bl (decide (2 = j)), .bl (decide (3 = j)), .bl (decide (4 = j)), .bl (decide (5 = j)), .bl (decide (6 = j)), .bl (decide (7 = j)), .bl (decide (8 = j)), .bl (decide (9 = j)), .bl (decide (10 = j)), .bl (decide (11 = j)), .bl (decide (12 = j)), .bl (decide (13 = j)), .bl true]
def kf (j : Nat) (i : Nat) : Bool := decide (i = j) || decide (i = 14)
theorem kbs_at (j i : Nat) (hi : i < 15) (hj : j < 14) : (kbs j)[i]? = some (.bl (kf j i)) := by
  have : i = 0 ∨ i = 1 ∨ i = 2 ∨ i = 3 ∨ i = 4 ∨ i = 5 ∨ i = 6 ∨ i = 7 ∨ i = 8 ∨ i = 9 ∨ i = 10 ∨ i = 11 ∨ i = 12 ∨ i = 13 ∨ i = 14 := by omega
  rcases this with rfl | rfl | rfl | rfl | rfl | rfl | rfl | rfl | rfl | rfl | rfl | rfl | rfl | rfl | rfl <;> simp [kbs, kf]
theorem names_at (i : Nat) (hi : i < 15) : (knames.map V.str)[i]? = some (.str (knames.getD i "")) := by
  rw [List.getElem?_map, List.getD, List.getElem?_eq_getElem (by exact hi)]
  rfl
theorem kgiven (j : Nat) (hj : j < 14) : given 15 (kf j) (fun i => .str (knames.getD i "")) = [V.str (knames.getD j ""), V.str "+"] := by
  have : j = 0 ∨ j = 1 ∨ j = 2 ∨ j = 3 ∨ j = 4 ∨ j = 5 ∨ j = 6 ∨ j = 7 ∨ j = 8 ∨ j = 9 ∨ j = 10 ∨ j = 11 ∨ j = 12 ∨ j = 13 := by omega
  rcases this with rfl | rfl | rfl | rfl | rfl | rfl | rfl | rfl | rfl | rfl | rfl | rfl | rfl | rfl <;> rfl
theorem klen (j : Nat) (hj : j < 14) : (knames.getD j "").length ≤ 100 := by
  have : j = 0 ∨ j = 1 ∨ j = 2 ∨ j = 3 ∨ j = 4 ∨ j = 5 ∨ j = 6 ∨ j = 7 ∨ j = 8 ∨ j = 9 ∨ j = 10 ∨ j = 11 ∨ j = 12 ∨ j = 13 := by omega
  rcases this with rfl | rfl | rfl | rfl | rfl | rfl | rfl | rfl | rfl | rfl | rfl | rfl | rfl | rfl <;> decide
theorem rd_law_kind {K : PySem.W.Frag} {c : Cl} {D a : Addr} {j : Nat} {H : Hp} {Q : VK} (cau : Caught K c D j) (hj : j < 14) (q : ∀ H', Same H H' → Q (.str (kstr j)) H') : t_law_kind K c D a { nx := fun _ H' => Q .non H', rt := Q } (start ["e", "some", "names", "k"] [.ref a]) H := by
  show t_law_kind K c D a _ [some (.ref a), none, none, none] H
  unfold t_law_kind
  repeat (first | walk_at "go1" | walk_at "isE")
  refine ⟨by show 4 ≤ sizeLine; decide, fun p1 n1 => ?_⟩
  have s1 := same_upd (o := .lst [.bl (decide (0 = j)), .bl (decide (1 = j)), .bl (decide (2 = j)), .bl (decide (3 = j))]) n1
  have e1 : upd H p1 (.lst [.bl (decide (0 = j)), .bl (decide (1 = j)), .bl (decide (2 = j)), .bl (decide (3 = j))]) p1 = _ := upd_same
  generalize upd H p1 (.lst [.bl (decide (0 = j)), .bl (decide (1 = j)), .bl (decide (2 = j)), .bl (decide (3 = j))]) = H1 at s1 e1 ⊢
  repeat (first | walk_at "go1" | walk_at "isE")
  refine ⟨by show 4 ≤ sizeLine; decide, fun p2 n2 => ?_⟩
  refine g_catL (same_upd n2 _ _ e1) upd_same (by show 8 ≤ 1000; decide) fun p3 H2 n3 s2 e2 => ?_
  replace s1 := s1.trans ((same_upd n2).trans s2)
  repeat (first | walk_at "go1" | walk_at "isE")
  refine ⟨by show 4 ≤ sizeLine; decide, fun p4 n4 => ?_⟩
  refine g_catL (same_upd n4 _ _ e2) upd_same (by show 12 ≤ 1000; decide) fun p5 H3 n5 s3 e3 => ?_
  replace s1 := s1.trans ((same_upd n4).trans s3)
  repeat (first | walk_at "go1" | walk_at "isE")
  refine ⟨by show 3 ≤ sizeLine; decide, fun p6 n6 => ?_⟩
  refine g_catL (same_upd n6 _ _ e3) upd_same (by show 15 ≤ 1000; decide) fun p7 H4 n7 s4 e4 => ?_
  replace s1 := s1.trans ((same_upd n6).trans s4)
  have e4' : H4 p7 = some (.lst (kbs j)) := e4
  walk_at "go"
  refine ⟨by show 10 ≤ sizeLine; decide, fun p8 n8 => ?_⟩
  walk_at "go"
  refine ⟨by show 5 ≤ sizeLine; decide, fun p9 n9 => ?_⟩
  refine g_catL (same_upd n9 _ _ upd_same) upd_same (by show 15 ≤ 1000; decide) fun p10 H5 n10 s5 e5 => ?_
  have e6 := s5 _ _ (same_upd n9 _ _ (same_upd n8 _ _ e4'))
  replace s1 := s1.trans ((same_upd n8).trans ((same_upd n9).trans s5))
  have e5' : H5 p10 = some (.lst (knames.map V.str)) := e5
  walk_at "go"
  refine ⟨⟨_, rfl⟩, ?_⟩
  refine lcP1 (n := 15) (kf j) (fun i => .str (knames.getD i "")) (fun QA h => ?_) (by decide) (by decide) (fun x => rfl) (fun i H' QT hi sm h => ?_) (fun i H' Q2 hi sm hf h => ?_) (fun Dl H' nD sm eD => ?_)
  · walk_at "go"
    exact h
  · walk_at "go"
    refine g_ixL (sm _ _ e6) (atI_nat (kbs_at j i (by omega) hj)) ?_
    walk_at "go"
    exact h
  · walk_at "go"
    refine g_ixL (sm _ _ e5') (atI_nat (names_at i (by omega))) ?_
    exact h
  · have eD' : H' Dl = some (.lst [V.str (knames.getD j ""), V.str "+"]) := by rw [eD]; exact congrArg (fun z => some (HO.lst z)) (kgiven j hj)
    refine ⟨_, Dl, [knames.getD j "", "+"], rfl, rfl, .inl (.inl (.inl eD')), ?_, q H' (s1.trans sm)⟩
    have h1 := klen j hj
    show (knames.getD j "").length + (1 + 0) + 2 * 0 ≤ 16777216
    omega
/-! ### data compared -/
mutual
theorem dp_same {K : PySem.W.Frag} {H H' : Hp} (e : Same H H') : ∀ {v : V} {d : PyData}, Dp K H v d → Dp K H' v d
  | _, _, .non => .non
  | _, _, .bl b => .bl b
  | _, _, .int i => .int i
  | _, _, .str x => .str x
  | _, _, .lst h a => .lst (e.seq h) (dpA_same e a)
  | _, _, .tup h a => .tup (Sw.Same.tup e h) (dpA_same e a)
theorem dpA_same {K : PySem.W.Frag} {H H' : Hp} (e : Same H H') : ∀ {v : List V} {d : List PyData}, DpAll K H v d → DpAll K H' v d
  | _, _, .nil => .nil
  | _, _, .cons a b => .cons (dp_same e a) (dpA_same e b)
end
/-- data of little depth, of texts within bounds -/
def Ok (n : Nat) (d : PyData) : Prop := d.canLay0 = true ∧ d.depth ≤ n
theorem ok_int {n : Nat} (i : Int) : Ok n (.int i) := ⟨rfl, Nat.zero_le _⟩
theorem ok_bl {n : Nat} (b : Bool) : Ok n (.bool b) := ⟨rfl, Nat.zero_le _⟩
theorem ok_non {n : Nat} : Ok n .none := ⟨rfl, Nat.zero_le _⟩
theorem ok_str {n : Nat} {x : Str} (h : PyData.strOk x = true) : Ok n (.str x) := ⟨h, Nat.zero_le _⟩
theorem okA {n : Nat} : ∀ {xs : List PyData}, (∀ x ∈ xs, Ok n x) → PyData.canLayAll0 xs = true ∧ PyData.depthAll xs ≤ n
  | [], _ => ⟨rfl, Nat.zero_le _⟩
  | x :: xs, h => by
    have h1 := h x List.mem_cons_self
    have h2 := okA (xs := xs) fun y hy => h y (List.mem_cons_of_mem _ hy)
    refine ⟨?_, ?_⟩
    · show (x.canLay0 && PyData.canLayAll0 xs) = true
      rw [h1.1, h2.1]; rfl
    · show max x.depth (PyData.depthAll xs) ≤ n
      exact Nat.max_le.mpr ⟨h1.2, h2.2⟩
theorem ok_lst {n : Nat} {xs : List PyData} (h : ∀ x ∈ xs, Ok n x) : Ok (n + 1) (.list xs) := ⟨(okA h).1, Nat.succ_le_succ (okA h).2⟩
theorem ok_tup {n : Nat} {xs : List PyData} (h : ∀ x ∈ xs, Ok n x) : Ok (n + 1) (.tuple xs) := ⟨(okA h).1, Nat.succ_le_succ (okA h).2⟩
theorem ok_nil {n : Nat} : ∀ x ∈ ([] : List PyData), Ok n x := fun _ h => nomatch h
theorem ok_cons {n : Nat} {x : PyData} {xs : List PyData} (h : Ok n x) (hs : ∀ y ∈ xs, Ok n y) : ∀ y ∈ x :: xs, Ok n y := fun y hy => by
  rcases List.mem_cons.mp hy with e | e
  · rw [e]; exact h
  · exact hs y e
theorem Ok.shaped {n : Nat} {d : PyData} (h : Ok n d) (hn : n ≤ 64) : SeqAt.shaped d = true := by
  unfold SeqAt.shaped
  rw [h.1]
  simpa using Nat.le_trans h.2 hn
/-- two things that are the same data -/
theorem g_neD {K : PySem.W.Frag} {H : Hp} {x y : V} {d : PyData} {n : Nat} {Q : VK} (hx : Dp K H x d) (hy : Dp K H y d) (ok : Ok n d) (hn : n ≤ 64) (q : Q (.bl false) H) : rNeD K x y H Q :=
  ⟨d, d, hx, hy, ok.shaped hn, ok.shaped hn, by rw [SeqAt.eqv_refl d ok.1]; exact q⟩
theorem g_eqD {K : PySem.W.Frag} {H : Hp} {x y : V} {d : PyData} {n : Nat} {Q : VK} (hx : Dp K H x d) (hy : Dp K H y d) (ok : Ok n d) (hn : n ≤ 64) (q : Q (.bl true) H) : rEqD K x y H Q :=
  ⟨d, d, hx, hy, ok.shaped hn, ok.shaped hn, by rw [SeqAt.eqv_refl d ok.1]; exact q⟩
def dI (ns : List Int) : List PyData := ns.map .int
theorem dpI {K : PySem.W.Frag} {H : Hp} : ∀ ns : List Int, DpAll K H (ns.map V.int) (dI ns)
  | [] => .nil
  | n :: ns => .cons (.int n) (dpI ns)
theorem ok_dI {n : Nat} (ns : List Int) : ∀ x ∈ dI ns, Ok n x := fun x hx => by
  obtain ⟨i, _, rfl⟩ := List.mem_map.mp hx
  exact ok_int i
end Sw
local macro_rules | `(tactic| walk_at "go1") => `(tactic| first
  | with_reducible refine Sw.g_seqasg ?_ | with_reducible refine Sw.g_op ?_ | with_reducible refine Sw.g_var rfl ?_ | with_reducible refine Sw.g_c ?_ | with_reducible refine Sw.g_I0 ?_
  | with_reducible refine Sw.g_cons ?_ | with_reducible refine Sw.g_nil ?_ | with_reducible refine Sw.g_call ?_ | with_reducible refine Sw.g_cb ?_ | with_reducible refine Sw.g_test ?_ | with_reducible refine Sw.g_bl ?_
  | with_reducible refine Sw.g_seqdrop ?_ | with_reducible refine Sw.g_seqsub ?_ | with_reducible refine Sw.g_asg ?_ | with_reducible refine Sw.g_asgsub ?_ | with_reducible refine Sw.g_ret ?_ | with_reducible refine Sw.g_drop ?_ | with_reducible refine Sw.g_if ?_ | with_reducible refine Sw.g_next ?_ | with_reducible refine Sw.g_name ?_
  | with_reducible refine Sw.g_B ?_ | with_reducible refine Sw.g_not ?_ | with_reducible refine Sw.g_and ?_ | with_reducible refine Sw.g_or ?_ | with_reducible refine Sw.g_andV ?_ | with_reducible refine Sw.g_orV ?_ | with_reducible refine Sw.g_notV ?_
  | with_reducible refine Sw.g_ifE ?_ | with_reducible refine Sw.g_chain ?_ | with_reducible refine Sw.g_un ?_ | with_reducible refine Sw.g_tup ?_ | with_reducible refine Sw.g_lst ?_ | with_reducible refine Sw.g_sl ?_ | with_reducible refine Sw.g_part ?_ | with_reducible refine Sw.g_nopart ?_
  | with_reducible refine Sw.g_U ?_ | with_reducible refine Sw.g_eq rfl ?_ | with_reducible refine Sw.g_ne rfl ?_ | with_reducible refine Sw.g_int ?_ | with_reducible refine Sw.g_yes ?_ | with_reducible refine L2.iteT ?_ | with_reducible refine L2.iteF ?_ | with_reducible refine Sw.iteNT ?_ | with_reducible refine Sw.iteNF ?_ | with_reducible refine Sw.g_m1 ?_ | with_reducible refine Sw.g_bm ?_ | with_reducible refine ⟨Sw.ty_lst (by assumption), ?_⟩ | with_reducible refine Sw.g_sput ?_ | with_reducible refine Sw.g_put ?_ | with_reducible refine Sw.g_dget2 ?_ | with_reducible refine Sw.g_dget ?_ | with_reducible refine Sw.g_dK ?_
  | with_reducible refine Sw.g_ixL (by assumption) rfl ?_ | with_reducible refine Sw.g_ixT (by assumption) rfl ?_)
local macro_rules | `(tactic| walk_at "go") => `(tactic| repeat walk_at "go1")
local macro_rules | `(tactic| walk_at "bd") => `(tactic| repeat (first | with_reducible exact Sw.all_nil | refine Sw.all_cons ⟨_, rfl, by omega, by omega⟩ ?_))
local macro_rules | `(tactic| walk_at "new") => `(tactic| (refine ⟨Nat.le_of_ble_eq_true rfl, fun p np => ?_⟩; generalize hX : L2.upd _ p _ = H'; have sm : L2.Same _ H' := hX ▸ Sw.same_upd np; have hp : H' p = some _ := hX ▸ L2.upd_same; clear hX))
namespace Sw
open PySem PySem.Spec PyProof.Rows L2 SX
/-! ### more loops; lists of one's own -/
section
variable {K : PySem.W.Frag} {σ : L2.St} {H H' : Hp} {Q : VK} {D : Ends} {te ta : TE} {tr : TA} {tb : TS} {tt : TT} {g : TG} {j j1 j2 : Nat} {vs : List Nat} {T : String}
theorem g_app {l : Addr} {xs : List V} {y : V} (h : H l = some (.lst xs)) (hz : xs.length ≤ 100000) (q : Q .non (upd H l (.lst (xs ++ [y])))) : rAppend (.ref l) [y] H Q := ⟨l, xs, y, rfl, rfl, h, Nat.lt_of_le_of_lt hz (by decide), q⟩
/-- the list at s is new since H; all else stays -/
structure Own (H : Hp) (s : Addr) (xs : List V) (H' : Hp) : Prop where
  no : H s = none
  sm : Same H H'
  at_ : H' s = some (.lst xs)
theorem Own.mk_ {s : Addr} {xs : List V} (h : H s = none) : Own H s xs (upd H s (.lst xs)) := ⟨h, same_upd h, upd_same⟩
theorem Own.put {s : Addr} {xs ys : List V} (o : Own H s xs H') : Own H s ys (upd H' s (.lst ys)) := ⟨o.no, fun b x e => by rw [upd_ne (ne_of_none e o.no)]; exact o.sm b x e, upd_same⟩
theorem Own.same {s : Addr} {xs : List V} {H2 : Hp} (o : Own H s xs H') (e : Same H' H2) : Own H s xs H2 := ⟨o.no, o.sm.trans e, e _ _ o.at_⟩
theorem Own.app {s : Addr} {xs : List V} {y : V} (o : Own H s xs H') (hz : xs.length ≤ 100000) (q : ∀ H2, Own H s (xs ++ [y]) H2 → Q .non H2) : rAppend (.ref s) [y] H' Q := g_app o.at_ hz (q _ o.put)
/-- for (i, x) in enumerate(list that stays) -/
theorem forE {a : Addr} {xs : List V} (hn : ∀ QA : List V → Hp → Prop, QA [.ref a] H → tr σ H QA) (Pv : Nat → L2.St → Hp → Prop) (p0 : Pv 0 σ H) (hl : ∀ i σ' H', i ≤ xs.length → Pv i σ' H' → SqL K H' a xs) (hst : ∀ i σ' H' p o, H' p = none → Pv i σ' H' → Pv i σ' (upd H' p o))
    (ps : ∀ (i : Nat) (x : V) σ' H', xs[i]? = some x → Pv i σ' H' → tb { D with nx := Pv (i + 1), ct := Pv (i + 1), bk := D.nx } ((σ'.set j1 (some (.int (i : Int)))).set j2 (some x)) H') (pd : ∀ σ' H', Pv xs.length σ' H' → D.nx σ' H') :
    tFor (iEnum K tr) (gTup K 2 (gCons (gName j1) (gCons (gName j2) gNil))) tb D σ H := by
  refine hn _ ⟨a, xs, rfl, hl 0 σ H (Nat.zero_le _) p0, fun i m σ H => m = xs.length - i ∧ i ≤ xs.length ∧ Pv i σ H, ⟨xs.length, by omega, by omega, p0⟩, ?_⟩
  rintro i m σ' H' ⟨rfl, hi, p⟩
  by_cases hlt : i < xs.length
  · have hx := List.getElem?_eq_getElem hlt
    refine .inr ⟨⟨xs, _, hl i σ' H' hi p, hx⟩, Pv (i + 1), fun σ2 H2 p' => ⟨xs.length - (i + 1), by omega, rfl, by omega, p'⟩, fun v H2 y => ?_⟩
    obtain ⟨T, x, rfl, nT, rfl, hx2⟩ := y
    have ex := hx2 xs (hl i σ' H' hi p)
    exact ⟨T, _, rfl, .inl (.inl upd_same), rfl, _, _, rfl, _, _, rfl, rfl, ps i x σ' _ ex (hst _ _ _ _ _ nT p)⟩
  · have e : i = xs.length := by omega
    subst e
    exact .inl ⟨⟨xs, hl _ σ' H' hi p, Nat.le_refl _⟩, pd σ' H' p⟩
/-- [.. for (i, x) in enumerate(list) if ..], tests and items leave the heap as it is -/
theorem lcPE {a : Addr} {xs : List V} (f : Nat → Bool) (v : Nat → V) (hn : ∀ QA : List V → Hp → Prop, QA [.ref a] H → tr σ H QA) (hx : SqL K H a xs) (hz : xs.length ≤ 100000) (hw : ∀ x y : V, wipe (((wipe σ vs).set j1 (some x)).set j2 (some y)) vs = wipe σ vs)
    (ht : ∀ (i : Nat) x H' (QT : Bool → Hp → Prop), xs[i]? = some x → Same H H' → QT (f i) H' → tt (((wipe σ vs).set j1 (some (.int (i : Int)))).set j2 (some x)) H' QT)
    (he : ∀ (i : Nat) x H' (Q : VK), xs[i]? = some x → Same H H' → f i = true → Q (v i) H' → te (((wipe σ vs).set j1 (some (.int (i : Int)))).set j2 (some x)) H' Q)
    (pd : ∀ Dl H', H Dl = none → Same H H' → H' Dl = some (.lst (given xs.length f v)) → Q (.ref Dl) H') : tLc (iEnum K tr) (gTup K 2 (gCons (gName j1) (gCons (gName j2) gNil))) tt te vs σ H Q := by
  refine hn _ ⟨a, xs, rfl, hx, fun Dl hD => ⟨fun i m H' => m = xs.length - i ∧ i ≤ xs.length ∧ Lw H f v Dl i H', ⟨xs.length, by omega, by omega, lw_start hD⟩, ?_⟩⟩
  rintro i m H' ⟨rfl, hi, p⟩
  by_cases hlt : i < xs.length
  · have hxi := List.getElem?_eq_getElem hlt
    refine .inr ⟨⟨xs, _, p.2.1.seq hx, hxi⟩, fun H2 => Lw H f v Dl (i + 1) H2, fun H2 p' => ⟨xs.length - (i + 1), by omega, rfl, by omega, p'⟩, fun z H2 y => ?_⟩
    obtain ⟨T, x, rfl, nT, rfl, hx2⟩ := y
    have ex := hx2 xs (p.2.1.seq hx)
    have p2 : Lw H f v Dl i (upd H' T (.tup [.int (i : Nat), x])) := ⟨p.1, p.2.1.trans (same_upd nT), same_upd nT _ _ p.2.2⟩
    exact ⟨T, _, rfl, .inl (.inl upd_same), rfl, _, _, rfl, _, _, rfl, rfl, hw _ _, lw_turn (tt := tt) (te := te) p2 (by omega) (fun QT q => ht i x _ QT ex p2.2.1 q) (fun hf Q q => he i x _ Q ex p2.2.1 hf q)⟩
  · have e : i = xs.length := by omega
    subst e
    exact .inl ⟨⟨xs, p.2.1.seq hx, Nat.le_refl _⟩, pd Dl H' p.1 p.2.1 p.2.2⟩
/-- over a list, any target: τ i the state behind the i-th item's assignment -/
theorem lcPG {a : Addr} {xs : List V} (τ : Nat → L2.St) (f : Nat → Bool) (v : Nat → V) (hn : ∀ Q : VK, Q (.ref a) H → ta σ H Q) (hx : SqL K H a xs) (hz : xs.length ≤ 100000)
    (hg : ∀ (i : Nat) x H' (QS : L2.St → Hp → Prop), xs[i]? = some x → Same H H' → QS (τ i) H' → g x (wipe σ vs) H' QS) (hw : ∀ i, i < xs.length → wipe (τ i) vs = wipe σ vs)
    (ht : ∀ (i : Nat) x H' (QT : Bool → Hp → Prop), xs[i]? = some x → Same H H' → QT (f i) H' → tt (τ i) H' QT)
    (he : ∀ (i : Nat) x H' (Q : VK), xs[i]? = some x → Same H H' → f i = true → Q (v i) H' → te (τ i) H' Q)
    (pd : ∀ Dl H', H Dl = none → Same H H' → H' Dl = some (.lst (given xs.length f v)) → Q (.ref Dl) H') : tLc (iList K ta) g tt te vs σ H Q := by
  refine hn _ ⟨a, rfl, ⟨xs, hx⟩, fun Dl hD => lc_list (xs := xs) (Lw H f v Dl) (lw_start hD) (fun i H' _ p => p.2.1.seq hx) (fun i x H' hi p => hg i x H' _ hi p.2.1 ⟨hw i (List.getElem?_eq_some_iff.mp hi).1, ?_⟩) (fun H' p => pd Dl H' p.1 p.2.1 p.2.2)⟩
  have := (List.getElem?_eq_some_iff.mp hi).1
  exact lw_turn (tt := tt) (te := te) p (by omega) (fun QT q => ht i x H' QT hi p.2.1 q) (fun hf Q q => he i x H' Q hi p.2.1 hf q)
theorem g_listOf {p : Addr} {ys : List V} (h : SqL K H p ys) (q : ∀ l H', H l = none → Same H H' → H' l = some (.lst ys) → Q (.ref l) H') : rListOf K [.ref p] H Q := ⟨p, ys, rfl, .inl h, fun l hl => q l _ hl (same_upd hl) upd_same⟩
/-- the signs of a list of texts of one sign each, joined -/
theorem g_joinN {p : Addr} {l : List Nat} (h : SqL K H p (l.map fun c => V.str (S [c]))) (hz : l.length ≤ 100000) (q : Q (.str (S l)) H) : rJoin K (.str (PySem.Str.ofString "")) [.ref p] H Q := by
  refine ⟨S [], p, l.map fun c => S [c], rfl, rfl, .inl (by rw [List.map_map]; exact h), ?_, ?_⟩
  · rw [sum_one, List.length_map, S_len]
    show l.length + l.length * 0 ≤ _
    omega
  · rw [join_nil]
    exact q
end
theorem dp_tup {K : PySem.W.Frag} {H : Hp} {v : V} {ds : List PyData} (h : Dp K H v (.tuple ds)) : ∃ a xs, v = .ref a ∧ SqT K H a xs ∧ DpAll K H xs ds := by
  cases h with
  | tup h a => exact ⟨_, _, rfl, h, a⟩
theorem dp_lst {K : PySem.W.Frag} {H : Hp} {v : V} {ds : List PyData} (h : Dp K H v (.list ds)) : ∃ a xs, v = .ref a ∧ SqL K H a xs ∧ DpAll K H xs ds := by
  cases h with
  | lst h a => exact ⟨_, _, rfl, h, a⟩
theorem dpA_get {K : PySem.W.Frag} {H : Hp} : ∀ {xs : List V} {ds : List PyData} {i : Nat} {d : PyData}, DpAll K H xs ds → ds[i]? = some d → ∃ x, xs[i]? = some x ∧ Dp K H x d
  | _, _, 0, d, .cons a _, e => ⟨_, rfl, by cases e; exact a⟩
  | _, _, i + 1, d, .cons _ b, e => dpA_get (i := i) b e
theorem dpA_len {K : PySem.W.Frag} {H : Hp} : ∀ {xs : List V} {ds : List PyData}, DpAll K H xs ds → xs.length = ds.length
  | _, _, .nil => rfl
  | _, _, .cons _ b => congrArg (· + 1) (dpA_len b)
theorem dpA_app {K : PySem.W.Frag} {H : Hp} : ∀ {xs ys : List V} {ds es : List PyData}, DpAll K H xs ds → DpAll K H ys es → DpAll K H (xs ++ ys) (ds ++ es)
  | _, _, _, _, .nil, b => b
  | _, _, _, _, .cons a b, c => .cons a (dpA_app b c)
theorem dpA_get2 {K : PySem.W.Frag} {H : Hp} {xs : List V} {ds : List PyData} {i : Nat} {x : V} (h : DpAll K H xs ds) (e : xs[i]? = some x) : ∃ d, ds[i]? = some d ∧ Dp K H x d := by
  have hl := dpA_len h
  obtain ⟨hi, _⟩ := List.getElem?_eq_some_iff.mp e
  have e2 := List.getElem?_eq_getElem (l := ds) (i := i) (by omega)
  obtain ⟨y, e3, p⟩ := dpA_get h e2
  rw [e] at e3
  cases e3
  exact ⟨_, e2, p⟩
/-- pairs of whole numbers -/
def dP (p : Int × Int) : PyData := .tuple [.int p.1, .int p.2]
def dPs (ps : List (Int × Int)) : List PyData := ps.map dP
theorem dp_pair {K : PySem.W.Frag} {H : Hp} {v : V} {p : Int × Int} (h : Dp K H v (dP p)) : ∃ a, v = .ref a ∧ SqT K H a [.int p.1, .int p.2] := by
  obtain ⟨a, xs, e, h1, h2⟩ := dp_tup h
  refine ⟨a, e, ?_⟩
  cases h2 with
  | cons x y =>
    cases y with
    | cons y z =>
      cases z
      cases x
      cases y
      exact h1
theorem ok_dPs {n : Nat} (ps : List (Int × Int)) : ∀ x ∈ dPs ps, Ok (n + 1) x := fun x hx => by
  obtain ⟨p, _, rfl⟩ := List.mem_map.mp hx
  exact ok_tup (ok_cons (ok_int _) (ok_cons (ok_int _) ok_nil))
theorem map_at {ns : List Int} {i : Nat} {x : V} (h : (ns.map V.int)[i]? = some x) : ∃ n, ns[i]? = some n ∧ x = .int n := by
  rw [List.getElem?_map] at h
  obtain ⟨z, hz, rfl⟩ := Option.map_eq_some_iff.mp h
  exact ⟨z, hz, rfl⟩
theorem ixN_nat {n j : Nat} (hj : j < n) : ixN n (j : Int) = some j := by
  unfold ixN
  rw [if_pos (by omega), if_pos (by omega)]
  simp
theorem take_snoc' {α : Type} {l : List α} {i : Nat} {x : α} (h : l[i]? = some x) : l.take (i + 1) = l.take i ++ [x] := by rw [List.take_add_one, h]; rfl
theorem getD_of' {α : Type} {l : List α} {i : Nat} {d x : α} (h : l[i]? = some x) : l.getD i d = x := by rw [List.getD, h]; rfl
/-- what a comprehension over a list gives, by the list -/
theorem given_list {α : Type} (l : List α) (d : α) (p : α → Bool) (g : α → V) : given l.length (fun i => p (l.getD i d)) (fun i => g (l.getD i d)) = (l.filter p).map g := by
  unfold given
  have e : l = (List.range l.length).map (fun i => l.getD i d) := by
    apply List.ext_getElem
    · simp
    · intro i h1 h2
      simp [h1]
  conv => rhs; rw [e]
  rw [List.filter_map, List.map_map]
  rfl
theorem vint_eq {a b : Int} : decide (V.int a = V.int b) = decide (a = b) := by rw [decide_eq_decide]; exact ⟨V.int.inj, congrArg _⟩
theorem take_set_drop {α : Type} {A B : List α} {i : Nat} {x : α} (hA : A[i]? = some x) (hl : A.length = B.length) : (A.take i ++ B.drop i).set i x = A.take (i + 1) ++ B.drop (i + 1) := by
  have hi := (List.getElem?_eq_some_iff.mp hA).1
  have hB : i < B.length := by omega
  rw [List.drop_eq_getElem_cons hB, List.set_append, if_neg (by rw [List.length_take]; omega), List.length_take, Nat.min_eq_left (by omega), Nat.sub_self, List.set_cons_zero, take_snoc' hA, List.append_assoc]
  rfl
theorem take_snoc {α : Type} {l : List α} {i : Nat} {x : α} (h : l[i]? = some x) : l.take (i + 1) = l.take i ++ [x] := by rw [List.take_add_one, h]; rfl
end Sw
local macro_rules | `(tactic| walk_at "go1") => `(tactic| first
  | with_reducible refine Sw.g_seqasg ?_ | with_reducible refine Sw.g_op ?_ | with_reducible refine Sw.g_var rfl ?_ | with_reducible refine Sw.g_c ?_ | with_reducible refine Sw.g_I0 ?_
  | with_reducible refine Sw.g_cons ?_ | with_reducible refine Sw.g_nil ?_ | with_reducible refine Sw.g_call ?_ | with_reducible refine Sw.g_cb ?_ | with_reducible refine Sw.g_test ?_ | with_reducible refine Sw.g_bl ?_
  | with_reducible refine Sw.g_seqdrop ?_ | with_reducible refine Sw.g_seqsub ?_ | with_reducible refine Sw.g_asg ?_ | with_reducible refine Sw.g_asgsub ?_ | with_reducible refine Sw.g_ret ?_ | with_reducible refine Sw.g_drop ?_ | with_reducible refine Sw.g_if ?_ | with_reducible refine Sw.g_next ?_ | with_reducible refine Sw.g_name ?_
  | with_reducible refine Sw.g_B ?_ | with_reducible refine Sw.g_not ?_ | with_reducible refine Sw.g_and ?_ | with_reducible refine Sw.g_or ?_ | with_reducible refine Sw.g_andV ?_ | with_reducible refine Sw.g_orV ?_ | with_reducible refine Sw.g_notV ?_
  | with_reducible refine Sw.g_ifE ?_ | with_reducible refine Sw.g_chain ?_ | with_reducible refine Sw.g_un ?_ | with_reducible refine Sw.g_tup ?_ | with_reducible refine Sw.g_lst ?_ | with_reducible refine Sw.g_sl ?_ | with_reducible refine Sw.g_part ?_ | with_reducible refine Sw.g_nopart ?_
  | with_reducible refine Sw.g_U ?_ | with_reducible refine Sw.g_eq rfl ?_ | with_reducible refine Sw.g_ne rfl ?_ | with_reducible refine Sw.g_int ?_ | with_reducible refine Sw.g_yes ?_ | with_reducible refine L2.iteT ?_ | with_reducible refine L2.iteF ?_ | with_reducible refine Sw.iteNT ?_ | with_reducible refine Sw.iteNF ?_ | with_reducible refine Sw.g_m1 ?_ | with_reducible refine Sw.g_bm ?_ | with_reducible refine ⟨Sw.ty_lst (by assumption), ?_⟩ | with_reducible refine Sw.g_sput ?_ | with_reducible refine Sw.g_put ?_ | with_reducible refine Sw.g_dget2 ?_ | with_reducible refine Sw.g_dget ?_ | with_reducible refine Sw.g_dK ?_
  | with_reducible refine Sw.g_ixL (by assumption) rfl ?_ | with_reducible refine Sw.g_ixT (by assumption) rfl ?_)
local macro_rules | `(tactic| walk_at "go") => `(tactic| repeat walk_at "go1")
local macro_rules | `(tactic| walk_at "bd") => `(tactic| repeat (first | with_reducible exact Sw.all_nil | refine Sw.all_cons ⟨_, rfl, by omega, by omega⟩ ?_))
local macro_rules | `(tactic| walk_at "new") => `(tactic| (refine ⟨Nat.le_of_ble_eq_true rfl, fun p np => ?_⟩; generalize hX : L2.upd _ p _ = H'; have sm : L2.Same _ H' := hX ▸ Sw.same_upd np; have hp : H' p = some _ := hX ▸ L2.upd_same; clear hX))
namespace Sw
open PySem PySem.Spec PyProof.Rows L2 SX
/-! ### signs, words, wheels -/
def lowB (c : Nat) : Bool := decide (97 ≤ c) && decide (c ≤ 122)
theorem lowB_iff {c : Nat} : lowB c = true ↔ 97 ≤ c ∧ c ≤ 122 := by unfold lowB; simp
theorem mem_abc (c : Nat) : decide (c ∈ abc) = lowB c := by
  by_cases h : 97 ≤ c ∧ c ≤ 122
  · rw [lowB_iff.mpr h, decide_eq_true_eq]
    unfold abc
    simp only [List.mem_cons, List.not_mem_nil, or_false]
    omega
  · have h2 : lowB c = false := by
      cases e : lowB c with
      | false => rfl
      | true => exact absurd (lowB_iff.mp e) h
    rw [h2, decide_eq_false_iff_not]
    intro hm
    exact h (abc_low c hm)
def sgn (l : List Nat) : Bool := l.all lowB
def isWord (l : List Nat) : Bool := decide (l.length ≤ 80) && sgn l
def isWheel (l : List Nat) : Bool := isWord l && (decide (1 ≤ l.length) && decide (l.length ≤ 30))
theorem sgn_low {l : List Nat} : sgn l = true ↔ Low l := by
  unfold sgn Low
  rw [List.all_eq_true]
  exact forall_congr' fun c => forall_congr' fun _ => lowB_iff
theorem isWord_iff {l : List Nat} : isWord l = true ↔ l.length ≤ 80 ∧ Low l := by
  unfold isWord
  rw [Bool.and_eq_true, decide_eq_true_eq, sgn_low]
theorem isWheel_iff {l : List Nat} : isWheel l = true ↔ 1 ≤ l.length ∧ l.length ≤ 30 ∧ Low l := by
  unfold isWheel
  rw [Bool.and_eq_true, Bool.and_eq_true, decide_eq_true_eq, decide_eq_true_eq, isWord_iff]
  constructor
  · rintro ⟨⟨_, h⟩, h1, h2⟩; exact ⟨h1, h2, h⟩
  · rintro ⟨h1, h2, h⟩; exact ⟨⟨by omega, h⟩, h1, h2⟩
def sp_are_signs (K : PySem.W.Frag) : Sp := fun vs H Q _ => ∃ l : List Nat, vs = [.str (S l)] ∧ Q (.bl (sgn l)) H
theorem ln_are_signs {K : PySem.W.Frag} {vs : List V} {H : Hp} {Q : VK} {E : XK} (h : sp_are_signs K vs H Q E) : vs.length = 1 := by
  obtain ⟨_, rfl, _⟩ := h
  rfl
def t_are_signs (K : PySem.W.Frag) : TS :=
  (tSeq (tFor (iStr (tVar 0)) (gName 1)
  (tIfS (tTest (tOp rNotInSign (tVar 1) (tC (.str "abcdefghijklmnopqrstuvwxyz")))) (tRet (tC (.bl false))) tNext))
  (tRet (tC (.bl true))))

theorem all_take {p : Nat → Bool} {l : List Nat} {i c : Nat} (h : l[i]? = some c) : (l.take (i + 1)).all p = ((l.take i).all p && p c) := by
  rw [List.take_add_one, h, List.all_append]
  simp
theorem rd_are_signs {K : PySem.W.Frag} {vs : List V} {H : Hp} {Q : VK} {E : XK} (h : sp_are_signs K vs H Q E) : t_are_signs K { nx := fun _ H' => Q .non H', rt := Q } (start ["text", "sign"] vs) H := by
  obtain ⟨l, rfl, q⟩ := h
  show t_are_signs K _ [some (.str (S l)), none] H
  unfold t_are_signs
  refine g_seq (forS (l := l) (fun Q h => ?_) (fun i σ' H' => H' = H ∧ (l.take i).all lowB = true ∧ ∃ v, σ' = [some (.str (S l)), v]) ⟨rfl, rfl, _, rfl⟩ (fun i c σ' H' hc hp => ?_) (fun σ' H' hp => ?_))
  · walk_at "go"
    exact h
  · obtain ⟨rfl, ha, v, rfl⟩ := hp
    walk_at "go"
    rw [show (V.str "abcdefghijklmnopqrstuvwxyz") = V.str (S abc) from congrArg V.str abc_S]
    refine ⟨c, S abc, rfl, rfl, ?_⟩
    walk_at "go"
    rw [show (S abc).cps.toList = abc from rfl, mem_abc]
    refine ite_b (fun hb => ?_) (fun hb => ?_)
    · walk_at "go"
      have e : sgn l = false := by
        unfold sgn
        rw [List.all_eq_false]
        refine ⟨c, List.mem_of_getElem? hc, ?_⟩
        intro z
        rw [z] at hb
        cases hb
      rw [e] at q
      exact q
    · walk_at "go"
      refine ⟨rfl, ?_, _, rfl⟩
      rw [all_take hc, ha]
      simpa using hb
  · obtain ⟨rfl, ha, v, rfl⟩ := hp
    walk_at "go"
    rw [List.take_length] at ha
    have e : sgn l = true := ha
    rw [e] at q
    exact q
/-- what is_word tells of a thing -/
inductive WordIs (K : PySem.W.Frag) (H : Hp) : V → Bool → Prop where
  | txt (l : List Nat) (hl : l.length ≤ 100000) : WordIs K H (.str (S l)) (isWord l)
  | no {v : V} {t : String} (ht : TyX K H v (.type t)) (hn : kitB t "str" = some false) : WordIs K H v false
inductive WheelIs (K : PySem.W.Frag) (H : Hp) : V → Bool → Prop where
  | txt (l : List Nat) (hl : l.length ≤ 100000) : WheelIs K H (.str (S l)) (isWheel l)
  | no {v : V} {t : String} (ht : TyX K H v (.type t)) (hn : kitB t "str" = some false) : WheelIs K H v false
def sp_is_word (K : PySem.W.Frag) : Sp := fun vs H Q _ => ∃ (v : V) (b : Bool), vs = [v] ∧ WordIs K H v b ∧ Q (.bl b) H
theorem ln_is_word {K : PySem.W.Frag} {vs : List V} {H : Hp} {Q : VK} {E : XK} (h : sp_is_word K vs H Q E) : vs.length = 1 := by
  obtain ⟨_, _, rfl, _⟩ := h
  rfl
def t_is_word (K : PySem.W.Frag) : TS :=
  (tRet (tAndV (tCB (rIsi K) (tCons (tVar 0) (tCons (tC (.ty "str")) tNil))) (tAndV (tOp rLe (tCB rLenStr (tCons (tVar 0) tNil)) (tC (.int 80))) (tCall (sp_are_signs K) [] E0 (tCons (tVar 0) tNil)))))

theorem g_isStr {K : PySem.W.Frag} {l : Str} {H : Hp} {Q : VK} (q : Q (.bl true) H) : rIsi K [.str l, .ty "str"] H Q := ⟨.str l, .ty "str", .type "str", .type "str", true, rfl, .ty "str", .base (.str l), kit_ty (by decide +kernel), q⟩
theorem g_isNo {K : PySem.W.Frag} {v : V} {t : String} {H : Hp} {Q : VK} (ht : TyX K H v (.type t)) (hn : kitB t "str" = some false) (q : Q (.bl false) H) : rIsi K [v, .ty "str"] H Q := ⟨v, .ty "str", .type t, .type "str", false, rfl, .ty "str", ht, kit_ty hn, q⟩
theorem g_lenS {l : List Nat} {H : Hp} {Q : VK} (h : l.length ≤ 100000) (q : Q (.int (l.length : Int)) H) : rLenStr [.str (S l)] H Q := ⟨S l, rfl, by rw [S_len]; exact Nat.le_trans h (by decide), by rw [S_len]; exact q⟩
theorem rd_is_word {K : PySem.W.Frag} {vs : List V} {H : Hp} {Q : VK} {E : XK} (h : sp_is_word K vs H Q E) : t_is_word K { nx := fun _ H' => Q .non H', rt := Q } (start ["thing"] vs) H := by
  obtain ⟨v, b, rfl, hv, q⟩ := h
  show t_is_word K _ [some v] H
  unfold t_is_word
  walk_at "go"
  cases hv with
  | no ht hn =>
    refine g_isNo ht hn ?_
    walk_at "go"
    exact q
  | txt l hl =>
    refine g_isStr ?_
    walk_at "go"
    refine g_lenS hl ?_
    walk_at "go"
    have e : isWord l = (decide ((l.length : Int) ≤ 80) && sgn l) := by
      unfold isWord
      congr 1
      rw [decide_eq_decide]
      omega
    rw [e] at q
    refine ite_b (fun hb => ?_) (fun hb => ?_)
    · walk_at "go"
      rw [hb] at q
      exact ⟨l, rfl, q⟩
    · walk_at "go"
      rw [hb] at q
      exact q
def sp_is_wheel (K : PySem.W.Frag) : Sp := fun vs H Q _ => ∃ (v : V) (b : Bool), vs = [v] ∧ WheelIs K H v b ∧ Q (.bl b) H
theorem ln_is_wheel {K : PySem.W.Frag} {vs : List V} {H : Hp} {Q : VK} {E : XK} (h : sp_is_wheel K vs H Q E) : vs.length = 1 := by
  obtain ⟨_, _, rfl, _⟩ := h
  rfl
def t_is_wheel (K : PySem.W.Frag) : TS :=
  (tRet (tAndV (tCall (sp_is_word K) [] E0 (tCons (tVar 0) tNil)) (tChain rLe rLe (tC (.int 1)) (tCB rLenStr (tCons (tVar 0) tNil)) (tC (.int 30)))))

theorem rd_is_wheel {K : PySem.W.Frag} {vs : List V} {H : Hp} {Q : VK} {E : XK} (h : sp_is_wheel K vs H Q E) : t_is_wheel K { nx := fun _ H' => Q .non H', rt := Q } (start ["thing"] vs) H := by
  obtain ⟨v, b, rfl, hv, q⟩ := h
  show t_is_wheel K _ [some v] H
  unfold t_is_wheel
  walk_at "go"
  cases hv with
  | no ht hn =>
    refine ⟨v, _, rfl, .no ht hn, ?_⟩
    walk_at "go"
    exact q
  | txt l hl =>
    refine ⟨_, _, rfl, .txt l hl, ?_⟩
    walk_at "go"
    have e : isWheel l = (isWord l && (decide ((1 : Int) ≤ l.length) && decide ((l.length : Int) ≤ 30))) := by
      unfold isWheel
      congr 1
      congr 1
      · rw [decide_eq_decide]; omega
      · rw [decide_eq_decide]; omega
    rw [e] at q
    refine ite_b (fun hb => ?_) (fun hb => ?_)
    · rw [hb] at q
      walk_at "go"
      refine g_lenS hl ?_
      walk_at "go"
      refine ite_b (fun hc => ?_) (fun hc => ?_)
      · walk_at "go"
        rw [hc] at q
        exact q
      · rw [hc] at q
        exact q
    · rw [hb] at q
      walk_at "go"
      exact q
def spx_look_at_wheel (K : PySem.W.Frag) (c : Cl) : Sp := fun vs H Q E => ∃ l : List Nat, vs = [.str (S l)] ∧ l.length ≤ 100000 ∧ (isWheel l = true → Q .non H) ∧ (isWheel l = false → E (.ref c.NoWheel) none H)
theorem lnx_look_at_wheel {K : PySem.W.Frag} {c : Cl} {vs : List V} {H : Hp} {Q : VK} {E : XK} (h : spx_look_at_wheel K c vs H Q E) : vs.length = 1 := by
  obtain ⟨_, rfl, _⟩ := h
  rfl
def tx_look_at_wheel (K : PySem.W.Frag) (c : Cl) (E : XK) : TS :=
  (tIfS (tNot (tB (tCall (sp_is_wheel K) [] E0 (tCons (tVar 0) tNil)))) (tRaise E c.NoWheel) tNext)

theorem wheel_len {l : List Nat} (h : isWheel l = true) : l.length ≤ 100000 := by
  have := isWheel_iff.mp h
  omega
theorem rdx_look_at_wheel {K : PySem.W.Frag} {c : Cl} {vs : List V} {H : Hp} {Q : VK} {E : XK} (h : spx_look_at_wheel K c vs H Q E) : tx_look_at_wheel K c E { nx := fun _ H' => Q .non H', rt := Q } (start ["wheel"] vs) H := by
  obtain ⟨l, rfl, hl, q1, q2⟩ := h
  show tx_look_at_wheel K c E _ [some (.str (S l))] H
  unfold tx_look_at_wheel
  walk_at "go"
  refine ⟨_, _, rfl, .txt l hl, ?_⟩
  walk_at "go"
  cases hw : isWheel l with
  | true => exact iteF (q1 hw)
  | false => exact iteT (q2 hw)
/-! ### turned, in the glass -/
theorem cut_from {a : List Nat} {i : Int} (h : 0 ≤ i) : cutS (S a) (some i) none = S (a.drop i.toNat) := by
  obtain ⟨n, rfl⟩ : ∃ n : Nat, i = (n : Int) := ⟨i.toNat, by omega⟩
  unfold cutS
  rw [HT.sIx_nat, HT.sIx_none, S_len]
  show S ((a.drop (min n a.length)).take (a.length - min n a.length)) = S (a.drop n)
  refine congrArg S ?_
  by_cases hn : n ≤ a.length
  · rw [Nat.min_eq_left hn]
    exact List.take_of_length_le (by rw [List.length_drop]; omega)
  · rw [Nat.min_eq_right (by omega), List.drop_eq_nil_of_le (by omega), List.drop_eq_nil_of_le (by omega)]
    simp
theorem cut_to {a : List Nat} {i : Int} (h : 0 ≤ i) : cutS (S a) none (some i) = S (a.take i.toNat) := by
  obtain ⟨n, rfl⟩ : ∃ n : Nat, i = (n : Int) := ⟨i.toNat, by omega⟩
  unfold cutS
  rw [HT.sIx_nat, HT.sIx_none, S_len]
  show S ((a.drop 0).take (min n a.length - 0)) = S (a.take n)
  refine congrArg S ?_
  rw [List.drop_zero, Nat.sub_zero]
  by_cases hn : n ≤ a.length
  · rw [Nat.min_eq_left hn]
  · rw [Nat.min_eq_right (by omega), List.take_of_length_le (by omega), List.take_of_length_le (by omega)]
theorem g_from {a : List Nat} {i : Int} {H : Hp} {Q : VK} (h : 0 ≤ i) (hl : a.length ≤ 100000) (q : Q (.str (S (a.drop i.toNat))) H) : rSlS (.str (S a)) (some i) none H Q := ⟨S a, rfl, by rw [S_len]; exact Nat.le_trans hl (by decide), by rw [cut_from h]; exact q⟩
theorem g_to {a : List Nat} {i : Int} {H : Hp} {Q : VK} (h : 0 ≤ i) (hl : a.length ≤ 100000) (q : Q (.str (S (a.take i.toNat))) H) : rSlS (.str (S a)) none (some i) H Q := ⟨S a, rfl, by rw [S_len]; exact Nat.le_trans hl (by decide), by rw [cut_to h]; exact q⟩
theorem g_cat {a b : List Nat} {H : Hp} {Q : VK} (hl : a.length + b.length ≤ 1000000) (q : Q (.str (S (a ++ b))) H) : rAddS (.str (S a)) (.str (S b)) H Q := ⟨S a, S b, rfl, rfl, by rw [S_len, S_len]; exact Nat.le_trans hl (by decide), by rw [S_cat]; exact q⟩
/-- the places of a sign -/
def plc (w sg : List Nat) : List Int := ((List.range w.length).filter fun i => decide ([w.getD i 0] = sg)).map fun i : Nat => (i : Int)
theorem plc_given (w sg : List Nat) : given w.length (fun i => decide ([w.getD i 0] = sg)) (fun i => .int (i : Int)) = (plc w sg).map V.int := by
  unfold given plc
  rw [List.map_map]
  rfl
def spx_places_of (K : PySem.W.Frag) (c : Cl) : Sp := fun vs H Q E => ∃ w sg : List Nat, vs = [.str (S w), .str (S sg)] ∧ w.length ≤ 100000 ∧
  (isWheel w = true → ∀ p H', H p = none → Same H H' → H' p = some (.lst ((plc w sg).map V.int)) → Q (.ref p) H') ∧ (isWheel w = false → E (.ref c.NoWheel) none H)
theorem lnx_places_of {K : PySem.W.Frag} {c : Cl} {vs : List V} {H : Hp} {Q : VK} {E : XK} (h : spx_places_of K c vs H Q E) : vs.length = 2 := by
  obtain ⟨_, _, rfl, _⟩ := h
  rfl
def tx_places_of (K : PySem.W.Frag) (c : Cl) (E : XK) : TS :=
  (tSeq (tDrop (tCall (spx_look_at_wheel K c) [] E (tCons (tVar 0) tNil)))
  (tRet (tLc (iRng1 (tCons (tCB rLenStr (tCons (tVar 0) tNil)) tNil)) (gName 2) (tTest (tOp rEq (tOp rIxS (tVar 0) (tVar 2)) (tVar 1))) (tVar 2) [2])))

theorem rdx_places_of {K : PySem.W.Frag} {c : Cl} {vs : List V} {H : Hp} {Q : VK} {E : XK} (h : spx_places_of K c vs H Q E) : tx_places_of K c E { nx := fun _ H' => Q .non H', rt := Q } (start ["wheel", "sign", "place"] vs) H := by
  obtain ⟨w, sg, rfl, hz, q, q2⟩ := h
  show tx_places_of K c E _ [some (.str (S w)), some (.str (S sg)), none] H
  unfold tx_places_of
  walk_at "go"
  refine ⟨w, rfl, hz, fun hw => ?_, q2⟩
  have hl := isWheel_iff.mp hw
  walk_at "go"
  refine lcP1 (n := (w.length : Int)) (fun i => decide ([w.getD i 0] = sg)) (fun i => .int (i : Int)) (fun QA h => ?_) (by omega) (by omega) (fun x => rfl) (fun i H' QT hi sm h => ?_) (fun i H' Q hi sm hf h => ?_) (fun p H' np sm hp => ?_)
  · walk_at "go"
    exact g_lenS hz h
  · obtain ⟨x, hx⟩ : ∃ x, w[i]? = some x := ⟨_, List.getElem?_eq_getElem (by omega)⟩
    walk_at "go"
    refine g_ixS (K := K) hz (atI_nat hx) ?_
    walk_at "go"
    rw [getD_of' hx] at h
    rw [show decide (V.str (S [x]) = V.str (S sg)) = decide ([x] = sg) from decide_eq_decide.mpr S_inj']
    exact h
  · walk_at "go"
    exact h
  · rw [show ((w.length : Int)).toNat = w.length by omega, plc_given] at hp
    exact q hw p H' np sm hp
def turnL (l : List Nat) (k : Int) : List Nat := l.drop (k % (l.length : Int)).toNat ++ l.take (k % (l.length : Int)).toNat
def glassL (l : List Nat) : List Nat := l.take 1 ++ (l.drop 1).reverse
/-! ### the mathematics of turning -/
theorem turn_len (l : List Nat) (k : Int) : (turnL l k).length = l.length := by
  unfold turnL
  rw [List.length_append, List.length_drop, List.length_take]
  omega
theorem glass_len (l : List Nat) : (glassL l).length = l.length := by
  unfold glassL
  rw [List.length_append, List.length_reverse, List.length_drop, List.length_take]
  omega
theorem turn_low {l : List Nat} {k : Int} (h : Low l) : Low (turnL l k) := fun c hc => by
  unfold turnL at hc
  rcases List.mem_append.mp hc with e | e
  · exact h c (List.mem_of_mem_drop e)
  · exact h c (List.mem_of_mem_take e)
theorem glass_low {l : List Nat} (h : Low l) : Low (glassL l) := fun c hc => by
  unfold glassL at hc
  rcases List.mem_append.mp hc with e | e
  · exact h c (List.mem_of_mem_take e)
  · exact h c (List.mem_of_mem_drop (List.mem_reverse.mp e))
theorem turn_wheel {l : List Nat} {k : Int} (h : isWheel l = true) : isWheel (turnL l k) = true := by
  obtain ⟨h1, h2, h3⟩ := isWheel_iff.mp h
  exact isWheel_iff.mpr ⟨by rw [turn_len]; exact h1, by rw [turn_len]; exact h2, turn_low h3⟩
theorem glass_wheel {l : List Nat} (h : isWheel l = true) : isWheel (glassL l) = true := by
  obtain ⟨h1, h2, h3⟩ := isWheel_iff.mp h
  exact isWheel_iff.mpr ⟨by rw [glass_len]; exact h1, by rw [glass_len]; exact h2, glass_low h3⟩
/-- the sign so far on -/
theorem turn_get {l : List Nat} {k : Int} {i : Nat} (hi : i < l.length) : (turnL l k)[i]? = l[(((i : Int) + k) % (l.length : Int)).toNat]? := by
  obtain ⟨k0, k1⟩ := emod_bd (z := k) (m := (l.length : Int)) (by omega)
  have e : ((i : Int) + k) % (l.length : Int) = ((i : Int) + k % (l.length : Int)) % (l.length : Int) := by rw [Int.add_emod_emod]
  unfold turnL
  generalize k % (l.length : Int) = a at k0 k1 e
  rw [e]
  by_cases h : i < l.length - a.toNat
  · rw [List.getElem?_append_left (by rw [List.length_drop]; exact h), List.getElem?_drop]
    rw [Int.emod_eq_of_lt (by omega) (by omega)]
    congr 1
    omega
  · rw [List.getElem?_append_right (by rw [List.length_drop]; omega), List.length_drop, List.getElem?_take_of_lt (by omega)]
    have e2 : ((i : Int) + a) % (l.length : Int) = (i : Int) + a - (l.length : Int) := by
      rw [← Int.sub_emod_right, Int.emod_eq_of_lt (by omega) (by omega)]
    rw [e2]
    congr 1
    omega
/-- the sign so far back -/
theorem glass_get {l : List Nat} {i : Nat} (hi : i < l.length) : (glassL l)[i]? = l[((0 - (i : Int)) % (l.length : Int)).toNat]? := by
  unfold glassL
  cases i with
  | zero =>
    rw [List.getElem?_append_left (by rw [List.length_take]; omega), List.getElem?_take_of_lt (by omega)]
    simp
  | succ j =>
    rw [List.getElem?_append_right (by rw [List.length_take]; omega), List.length_take, List.getElem?_reverse (by rw [List.length_drop]; omega), List.length_drop, List.getElem?_drop]
    have e2 : (0 - ((j + 1 : Nat) : Int)) % (l.length : Int) = (l.length : Int) - ((j : Int) + 1) := by
      rw [← Int.add_emod_right, Int.emod_eq_of_lt (by omega) (by omega)]
      omega
    rw [e2]
    congr 1
    omega
theorem ext_len {a b : List Nat} (hl : a.length = b.length) (h : ∀ i, i < a.length → a[i]? = b[i]?) : a = b := by
  apply List.ext_getElem?
  intro i
  by_cases hi : i < a.length
  · exact h i hi
  · rw [List.getElem?_eq_none (by omega), List.getElem?_eq_none (by omega)]
theorem emod_toNat {z : Int} {n : Nat} (h : 0 < n) : (z % (n : Int)).toNat < n ∧ (((z % (n : Int)).toNat : Nat) : Int) = z % (n : Int) := by
  obtain ⟨k0, k1⟩ := emod_bd (z := z) (m := (n : Int)) (by omega)
  omega
theorem turn_turn (l : List Nat) (j k : Int) (h : 0 < l.length) : turnL (turnL l j) k = turnL l (j + k) := by
  refine ext_len (by rw [turn_len, turn_len, turn_len]) fun i hi => ?_
  rw [turn_len, turn_len] at hi
  rw [turn_get (by rw [turn_len]; exact hi), turn_len]
  obtain ⟨a, b⟩ := emod_toNat (z := (i : Int) + k) h
  rw [turn_get a, turn_get hi, b]
  congr 2
  rw [Int.emod_add_emod]
  congr 1
  omega
theorem glass_glass (l : List Nat) (h : 0 < l.length) : glassL (glassL l) = l := by
  refine ext_len (by rw [glass_len, glass_len]) fun i hi => ?_
  rw [glass_len, glass_len] at hi
  rw [glass_get (by rw [glass_len]; exact hi), glass_len]
  obtain ⟨a, b⟩ := emod_toNat (z := 0 - (i : Int)) h
  rw [glass_get a, b]
  congr 1
  have : (0 - (0 - (i : Int)) % (l.length : Int)) % (l.length : Int) = (i : Int) := by
    rw [Int.sub_emod_emod, Int.emod_eq_of_lt (by omega) (by omega)]
    omega
  rw [this]
  omega
theorem glass_turn (l : List Nat) (k : Int) (h : 0 < l.length) : glassL (turnL l k) = turnL (glassL l) (0 - k) := by
  refine ext_len (by rw [glass_len, turn_len, turn_len, glass_len]) fun i hi => ?_
  rw [glass_len, turn_len] at hi
  rw [glass_get (by rw [turn_len]; exact hi), turn_len]
  obtain ⟨a, b⟩ := emod_toNat (z := 0 - (i : Int)) h
  rw [turn_get a, b, turn_get (by rw [glass_len]; exact hi), glass_len]
  obtain ⟨c, e⟩ := emod_toNat (z := (i : Int) + (0 - k)) h
  rw [glass_get c, e]
  congr 2
  rw [Int.sub_emod_emod, Int.emod_add_emod]
  congr 1
  omega
end Sw
local macro_rules | `(tactic| walk_at "go1") => `(tactic| first
  | with_reducible refine Sw.g_seqasg ?_ | with_reducible refine Sw.g_op ?_ | with_reducible refine Sw.g_var rfl ?_ | with_reducible refine Sw.g_c ?_ | with_reducible refine Sw.g_I0 ?_
  | with_reducible refine Sw.g_cons ?_ | with_reducible refine Sw.g_nil ?_ | with_reducible refine Sw.g_call ?_ | with_reducible refine Sw.g_cb ?_ | with_reducible refine Sw.g_test ?_ | with_reducible refine Sw.g_bl ?_
  | with_reducible refine Sw.g_seqdrop ?_ | with_reducible refine Sw.g_seqsub ?_ | with_reducible refine Sw.g_asg ?_ | with_reducible refine Sw.g_asgsub ?_ | with_reducible refine Sw.g_ret ?_ | with_reducible refine Sw.g_drop ?_ | with_reducible refine Sw.g_if ?_ | with_reducible refine Sw.g_next ?_ | with_reducible refine Sw.g_name ?_
  | with_reducible refine Sw.g_B ?_ | with_reducible refine Sw.g_not ?_ | with_reducible refine Sw.g_and ?_ | with_reducible refine Sw.g_or ?_ | with_reducible refine Sw.g_andV ?_ | with_reducible refine Sw.g_orV ?_ | with_reducible refine Sw.g_notV ?_
  | with_reducible refine Sw.g_ifE ?_ | with_reducible refine Sw.g_chain ?_ | with_reducible refine Sw.g_un ?_ | with_reducible refine Sw.g_tup ?_ | with_reducible refine Sw.g_lst ?_ | with_reducible refine Sw.g_sl ?_ | with_reducible refine Sw.g_part ?_ | with_reducible refine Sw.g_nopart ?_
  | with_reducible refine Sw.g_U ?_ | with_reducible refine Sw.g_eq rfl ?_ | with_reducible refine Sw.g_ne rfl ?_ | with_reducible refine Sw.g_int ?_ | with_reducible refine Sw.g_yes ?_ | with_reducible refine L2.iteT ?_ | with_reducible refine L2.iteF ?_ | with_reducible refine Sw.iteNT ?_ | with_reducible refine Sw.iteNF ?_ | with_reducible refine Sw.g_m1 ?_ | with_reducible refine Sw.g_bm ?_ | with_reducible refine ⟨Sw.ty_lst (by assumption), ?_⟩ | with_reducible refine Sw.g_sput ?_ | with_reducible refine Sw.g_put ?_ | with_reducible refine Sw.g_dget2 ?_ | with_reducible refine Sw.g_dget ?_ | with_reducible refine Sw.g_dK ?_
  | with_reducible refine Sw.g_ixL (by assumption) rfl ?_ | with_reducible refine Sw.g_ixT (by assumption) rfl ?_)
local macro_rules | `(tactic| walk_at "go") => `(tactic| repeat walk_at "go1")
local macro_rules | `(tactic| walk_at "bd") => `(tactic| repeat (first | with_reducible exact Sw.all_nil | refine Sw.all_cons ⟨_, rfl, by omega, by omega⟩ ?_))
local macro_rules | `(tactic| walk_at "new") => `(tactic| (refine ⟨Nat.le_of_ble_eq_true rfl, fun p np => ?_⟩; generalize hX : L2.upd _ p _ = H'; have sm : L2.Same _ H' := hX ▸ Sw.same_upd np; have hp : H' p = some _ := hX ▸ L2.upd_same; clear hX))
namespace Sw
open PySem PySem.Spec PyProof.Rows L2 SX
/-! ### texts of plain signs -/
def Asc (l : List Nat) : Prop := ∀ c ∈ l, c < 128
theorem asc_nil : Asc [] := fun _ h => nomatch h
theorem asc_app {a b : List Nat} (h1 : Asc a) (h2 : Asc b) : Asc (a ++ b) := fun c hc => by
  rcases List.mem_append.mp hc with e | e
  · exact h1 c e
  · exact h2 c e
theorem asc_take {a : List Nat} {n : Nat} (h : Asc a) : Asc (a.take n) := fun c hc => h c (List.mem_of_mem_take hc)
theorem asc_drop {a : List Nat} {n : Nat} (h : Asc a) : Asc (a.drop n) := fun c hc => h c (List.mem_of_mem_drop hc)
theorem asc_low {a : List Nat} (h : Low a) : Asc a := fun c hc => by have := h c hc; omega
theorem asc_one {c : Nat} (h : c < 128) : Asc [c] := fun x hx => by rw [List.mem_singleton.mp hx]; exact h
theorem strOk_S {l : List Nat} (h : Asc l) : PyData.strOk (S l) = true := by
  unfold PyData.strOk
  rw [Array.all_eq_true]
  intro i hi
  have : l[i]'(by simpa using hi) < 128 := h _ (List.getElem_mem _)
  simp
  omega
theorem ok_asc {n : Nat} {l : List Nat} (h : Asc l) : Ok n (.str (S l)) := ok_str (strOk_S h)
theorem str_S (x : Str) : x = S x.cps.toList := (S_tl x).symm
theorem cut_any (a : List Nat) (lo hi : Option Int) : ∃ b, cutS (S a) lo hi = S b ∧ b.length ≤ a.length ∧ ∀ c ∈ b, c ∈ a := by
  refine ⟨_, rfl, ?_, fun c hc => List.mem_of_mem_drop (List.mem_of_mem_take hc)⟩
  rw [List.length_take, List.length_drop]
  show min _ (a.length - _) ≤ _
  omega
theorem g_cut {a : List Nat} {lo hi : Option Int} {H : Hp} {Q : VK} (hl : a.length ≤ 100000) (q : ∀ b, b.length ≤ a.length → (∀ c ∈ b, c ∈ a) → Q (.str (S b)) H) : rSlS (.str (S a)) lo hi H Q := by
  obtain ⟨b, e, h1, h2⟩ := cut_any a lo hi
  exact ⟨S a, rfl, by rw [S_len]; exact Nat.le_trans hl (by decide), by rw [e]; exact q b h1 h2⟩
def IsTxt (n : Nat) (v : V) : Prop := ∃ l : List Nat, v = .str (S l) ∧ l.length ≤ n ∧ Asc l
theorem g_isBool {K : PySem.W.Frag} {b : Bool} {H : Hp} {Q : VK} (q : Q (.bl true) H) : rIsi K [.bl b, .ty "bool"] H Q := ⟨.bl b, .ty "bool", .type "bool", .type "bool", true, rfl, .ty "bool", .base (.bl b), kit_ty (by decide +kernel), q⟩
def sp_law_bent (K : PySem.W.Frag) : Sp := fun vs H Q _ => ∃ (l : List Nat) (d : Addr), vs = [.str (S l), .ref d] ∧ Dr H d ∧ l.length ≤ 10000 ∧ Asc l ∧ ∀ (l' : List Nat) H', l'.length ≤ l.length + 1 → Asc l' → Dr H' d → Fr d H H' → Q (.str (S l')) H'
theorem ln_law_bent {K : PySem.W.Frag} {vs : List V} {H : Hp} {Q : VK} {E : XK} (h : sp_law_bent K vs H Q E) : vs.length = 2 := by
  obtain ⟨_, _, rfl, _⟩ := h
  rfl
theorem LS.bent {K : PySem.W.Frag} {G H : Hp} {d : Addr} {l : List Nat} {Q : VK} {E : XK} (hs : LS G d H) (hl : l.length ≤ 10000) (ha : Asc l)
    (k : ∀ (l' : List Nat) H', l'.length ≤ l.length + 1 → Asc l' → LS G d H' → Q (.str (S l')) H') : sp_law_bent K [.str (S l), .ref d] H Q E :=
  ⟨l, d, rfl, hs.dr, hl, ha, fun l' H' h0 h1 dr fr => k l' H' h0 h1 (hs.to dr fr)⟩
def t_law_bent (K : PySem.W.Frag) : TS :=
  (tSeq (tAsg (tC (.str " !\"#$&'()*+,-./0123456789:;<=>?@")) (gName 2))
  (tSeq (tAsg (tOp rAddS (tVar 2) (tC (.str "ABCDEFGHIJKLMNOPQRSTUVWXYZ[\\]^_`abcdefghijklmnopqrstuvwxyz{|}~\n"))) (gName 2))
  (tSeq (tAsg (tCall (sp_law_draw K) [] E0 (tCons (tVar 1) (tCons (tC (.int 4)) tNil))) (gName 3))
  (tSeq (tAsg (tOp (rIxL K) (tLst (tCons (tOp rIxS (tVar 2) (tCall (sp_law_draw K) [] E0 (tCons (tVar 1) (tCons (tCB rLenStr (tCons (tVar 2) tNil)) tNil)))) (tCons (tOp rIxS (tC (.str "- 0")) (tCall (sp_law_draw K) [] E0 (tCons (tVar 1) (tCons (tC (.int 3)) tNil)))) tNil))) (tCall (sp_law_draw K) [] E0 (tCons (tVar 1) (tCons (tC (.int 2)) tNil)))) (gName 4))
  (tSeq (tAsg (tCall (sp_law_draw K) [] E0 (tCons (tVar 1) (tCons (tOp rAdd (tCB rLenStr (tCons (tVar 0) tNil)) (tC (.int 1))) tNil))) (gName 5))
  (tSeq (tIfS (tTest (tOp rLt (tVar 3) (tC (.int 2)))) (tRet (tOp rAddS (tOp rAddS (tSl rSlS (tVar 0) tNoPart (tPart (tVar 5))) (tVar 4)) (tSl rSlS (tVar 0) (tPart (tOp rAdd (tVar 5) (tVar 3))) tNoPart))) tNext)
  (tSeq (tIfS (tTest (tOp rEq (tVar 3) (tC (.int 2)))) (tRet (tOp rAddS (tSl rSlS (tVar 0) tNoPart (tPart (tVar 5))) (tSl rSlS (tVar 0) (tPart (tOp rAdd (tVar 5) (tC (.int 1)))) tNoPart))) tNext)
  (tRet (tOp rAddS (tSl rSlS (tVar 0) tNoPart (tPart (tOp rAdd (tVar 5) (tC (.int 1))))) (tSl rSlS (tVar 0) (tPart (tVar 5)) tNoPart))))))))))

def IsSign (v : V) : Prop := ∃ c : Nat, v = .str (S [c]) ∧ c < 128
theorem rd_law_bent {K : PySem.W.Frag} {vs : List V} {H : Hp} {Q : VK} {E : XK} (h : sp_law_bent K vs H Q E) : t_law_bent K { nx := fun _ H' => Q .non H', rt := Q } (start ["text", "draws", "signs", "way", "sign", "at"] vs) H := by
  obtain ⟨l, d, rfl, dr, hl, ha, q⟩ := h
  show t_law_bent K _ [some (.str (S l)), some (.ref d), none, none, none, none] H
  have hs : LS (but H d) d H := LS.of dr
  unfold t_law_bent
  walk_at "go"
  refine ⟨_, _, rfl, rfl, by decide +kernel, ?_⟩
  generalize hX : (_ ++ _ : Str) = sg
  have f1 : sg.length ≤ 1000 ∧ 0 < sg.length := by rw [← hX]; decide +kernel
  have f2 : sg.cps.toList.all (fun c => decide (c < 128)) = true := by rw [← hX]; decide +kernel
  clear hX
  obtain ⟨L, rfl⟩ : ∃ L, sg = S L := ⟨_, str_S _⟩
  rw [S_len] at f1
  have aL : Asc L := fun c hc => by
    have := List.all_eq_true.mp f2 c hc
    simpa using this
  walk_at "go"
  refine hs.draw (by omega) (by omega) fun way H1 w0 w1 hs => ?_
  walk_at "go"
  refine g_lenS (by omega) ?_
  walk_at "go"
  refine hs.draw (by omega) (by omega) fun r1 H2 a1 b1 hs => ?_
  obtain ⟨c1, e1, m1, _⟩ := atI_of (xs := L) a1 b1
  refine g_ixS (K := K) (by omega) e1 ?_
  walk_at "go"
  refine hs.draw (by omega) (by omega) fun r2 H3 a2 b2 hs => ?_
  rw [show (V.str "- 0") = V.str (S [45, 32, 48]) from congrArg V.str (by decide +kernel)]
  obtain ⟨c2, e2, m2, _⟩ := atI_of (xs := [45, 32, 48]) a2 b2
  refine g_ixS (K := K) (by decide) e2 ?_
  walk_at "go"
  refine ⟨by show 2 ≤ sizeLine; decide, fun p np => ?_⟩
  walk_at "go"
  refine (hs.new np).draw (by omega) (by omega) fun r3 H4 a3 b3 hs' => ?_
  refine hs'.at (hs.nog np) IsSign (all_cons ⟨c1, rfl, aL c1 m1⟩ (all_cons ⟨c2, rfl, ?_⟩ all_nil)) a3 b3 fun v hv hs => ?_
  · simp at m2
    omega
  obtain ⟨c, rfl, hc⟩ := hv
  walk_at "go"
  refine g_lenS (by omega) ?_
  walk_at "go"
  refine hs.draw (by omega) (by omega) fun at_ H5 a4 b4 hs => ?_
  refine g_seq ?_
  walk_at "go"
  refine ite_d (fun h1 => ?_) (fun h1 => ?_)
  · walk_at "go"
    refine g_to a4 (by omega) ?_
    walk_at "go"
    refine g_cat (by rw [List.length_take]; show _ + 1 ≤ _; omega) ?_
    walk_at "go"
    refine g_from (by omega) (by omega) ?_
    refine g_cat (by rw [List.length_append, List.length_take, List.length_drop]; show _ + 1 + _ ≤ _; omega) ?_
    refine q _ _ ?_ (asc_app (asc_app (asc_take ha) (asc_one hc)) (asc_drop ha)) hs.dr hs.fr
    rw [List.length_append, List.length_append, List.length_take, List.length_drop]
    show _ + 1 + _ ≤ _
    omega
  · walk_at "go"
    dsimp only
    refine g_seq ?_
    walk_at "go"
    refine ite_d (fun h2 => ?_) (fun h2 => ?_)
    · walk_at "go"
      refine g_to a4 (by omega) ?_
      walk_at "go"
      refine g_from (by omega) (by omega) ?_
      refine g_cat (by rw [List.length_take, List.length_drop]; omega) ?_
      refine q _ _ ?_ (asc_app (asc_take ha) (asc_drop ha)) hs.dr hs.fr
      rw [List.length_append, List.length_take, List.length_drop]
      omega
    · walk_at "go"
      refine g_to (by omega) (by omega) ?_
      walk_at "go"
      refine g_from (by omega) (by omega) ?_
      refine g_cat (by rw [List.length_take, List.length_drop]; omega) ?_
      refine q _ _ ?_ (asc_app (asc_take ha) (asc_drop ha)) hs.dr hs.fr
      rw [List.length_append, List.length_take, List.length_drop]
      omega
def sp_law_is_word (K : PySem.W.Frag) : Sp := fun vs H Q _ => ∃ l : List Nat, vs = [.str (S l)] ∧ l.length ≤ 10000 ∧ Asc l ∧ ∀ H', Same H H' → Q (.bl (isWord l)) H'
theorem ln_law_is_word {K : PySem.W.Frag} {vs : List V} {H : Hp} {Q : VK} {E : XK} (h : sp_law_is_word K vs H Q E) : vs.length = 1 := by
  obtain ⟨_, rfl, _⟩ := h
  rfl
def t_law_is_word (K : PySem.W.Frag) : TS :=
  (tRet (tAndV (tOp rLe (tCB rLenStr (tCons (tVar 0) tNil)) (tC (.int 80))) (tOp (rEqD K) (tLc (iStr (tVar 0)) (gName 1) (tTest (tOp rNotInSign (tVar 1) (tC (.str "abcdefghijklmnopqrstuvwxyz")))) (tVar 1) [1]) (tLst tNil))))

theorem dpS {K : PySem.W.Frag} {H : Hp} : ∀ l : List Nat, DpAll K H (l.map fun c => V.str (S [c])) (l.map fun c => .str (S [c]))
  | [] => .nil
  | c :: l => .cons (.str _) (dpS l)
theorem rd_law_is_word {K : PySem.W.Frag} {vs : List V} {H : Hp} {Q : VK} {E : XK} (h : sp_law_is_word K vs H Q E) : t_law_is_word K { nx := fun _ H' => Q .non H', rt := Q } (start ["text", "sign"] vs) H := by
  obtain ⟨l, rfl, hl, ha, q⟩ := h
  show t_law_is_word K _ [some (.str (S l)), none] H
  unfold t_law_is_word
  walk_at "go"
  refine g_lenS (by omega) ?_
  walk_at "go"
  have e : isWord l = (decide ((l.length : Int) ≤ 80) && sgn l) := by
    unfold isWord
    congr 1
    rw [decide_eq_decide]
    omega
  rw [e] at q
  refine ite_b (fun hb => ?_) (fun hb => ?_)
  · rw [hb, Bool.true_and] at q
    walk_at "go"
    refine lcPS (l := l) (fun i => (fun c => !lowB c) (l.getD i 0)) (fun i => (fun c => V.str (S [c])) (l.getD i 0)) (fun Q h => ?_) (by omega) (fun x => rfl) (fun i c H' QT hc sm h => ?_) (fun i c H' Q hc sm hf h => ?_) (fun Dl H' nD sm eD => ?_)
    · walk_at "go"
      exact h
    · walk_at "go"
      rw [show (V.str "abcdefghijklmnopqrstuvwxyz") = V.str (S abc) from congrArg V.str abc_S]
      refine ⟨c, S abc, rfl, rfl, ?_⟩
      walk_at "go"
      rw [show (S abc).cps.toList = abc from rfl, mem_abc]
      rw [getD_of' hc] at h
      exact h
    · walk_at "go"
      rw [getD_of' hc] at h
      exact h
    · replace eD := eD.trans (congrArg (fun z => some (HO.lst z)) (given_list l 0 (fun c => !lowB c) (fun c => V.str (S [c]))))
      walk_at "go"
      walk_at "new"
      rename_i p np H2 sm2 hp
      have es : sgn l = (l.filter fun c => !lowB c).isEmpty := by
        unfold sgn
        rw [Bool.eq_iff_iff, List.all_eq_true, List.isEmpty_iff, List.filter_eq_nil_iff]
        simp
      refine ⟨.list ((l.filter fun c => !lowB c).map fun c => .str (S [c])), .list [], .lst (.inl (.inl (sm2 _ _ eD))) (dpS _), .lst (.inl (.inl hp)) .nil, ?_, rfl, ?_⟩
      · refine Ok.shaped (n := 1) (ok_lst fun x hx => ?_) (by decide)
        obtain ⟨c, hc, rfl⟩ := List.mem_map.mp hx
        exact ok_asc (asc_one (ha c (List.mem_filter.mp hc).1))
      · rw [es] at q
        have z := q H2 (sm.trans sm2)
        cases hf : l.filter fun c => !lowB c with
        | nil => rw [hf] at z; exact z
        | cons x xs => rw [hf] at z; exact z
  · rw [hb, Bool.false_and] at q
    exact q H (Same.refl _)
end Sw
local macro_rules | `(tactic| walk_at "go1") => `(tactic| first
  | with_reducible refine Sw.g_seqasg ?_ | with_reducible refine Sw.g_op ?_ | with_reducible refine Sw.g_var rfl ?_ | with_reducible refine Sw.g_c ?_ | with_reducible refine Sw.g_I0 ?_
  | with_reducible refine Sw.g_cons ?_ | with_reducible refine Sw.g_nil ?_ | with_reducible refine Sw.g_call ?_ | with_reducible refine Sw.g_cb ?_ | with_reducible refine Sw.g_test ?_ | with_reducible refine Sw.g_bl ?_
  | with_reducible refine Sw.g_seqdrop ?_ | with_reducible refine Sw.g_seqsub ?_ | with_reducible refine Sw.g_asg ?_ | with_reducible refine Sw.g_asgsub ?_ | with_reducible refine Sw.g_ret ?_ | with_reducible refine Sw.g_drop ?_ | with_reducible refine Sw.g_if ?_ | with_reducible refine Sw.g_next ?_ | with_reducible refine Sw.g_name ?_
  | with_reducible refine Sw.g_B ?_ | with_reducible refine Sw.g_not ?_ | with_reducible refine Sw.g_and ?_ | with_reducible refine Sw.g_or ?_ | with_reducible refine Sw.g_andV ?_ | with_reducible refine Sw.g_orV ?_ | with_reducible refine Sw.g_notV ?_
  | with_reducible refine Sw.g_ifE ?_ | with_reducible refine Sw.g_chain ?_ | with_reducible refine Sw.g_un ?_ | with_reducible refine Sw.g_tup ?_ | with_reducible refine Sw.g_lst ?_ | with_reducible refine Sw.g_sl ?_ | with_reducible refine Sw.g_part ?_ | with_reducible refine Sw.g_nopart ?_
  | with_reducible refine Sw.g_U ?_ | with_reducible refine Sw.g_eq rfl ?_ | with_reducible refine Sw.g_ne rfl ?_ | with_reducible refine Sw.g_int ?_ | with_reducible refine Sw.g_yes ?_ | with_reducible refine L2.iteT ?_ | with_reducible refine L2.iteF ?_ | with_reducible refine Sw.iteNT ?_ | with_reducible refine Sw.iteNF ?_ | with_reducible refine Sw.g_m1 ?_ | with_reducible refine Sw.g_bm ?_ | with_reducible refine ⟨Sw.ty_lst (by assumption), ?_⟩ | with_reducible refine Sw.g_sput ?_ | with_reducible refine Sw.g_put ?_ | with_reducible refine Sw.g_dget2 ?_ | with_reducible refine Sw.g_dget ?_ | with_reducible refine Sw.g_dK ?_
  | with_reducible refine Sw.g_ixL (by assumption) rfl ?_ | with_reducible refine Sw.g_ixT (by assumption) rfl ?_)
local macro_rules | `(tactic| walk_at "go") => `(tactic| repeat walk_at "go1")
local macro_rules | `(tactic| walk_at "bd") => `(tactic| repeat (first | with_reducible exact Sw.all_nil | refine Sw.all_cons ⟨_, rfl, by omega, by omega⟩ ?_))
local macro_rules | `(tactic| walk_at "new") => `(tactic| (refine ⟨Nat.le_of_ble_eq_true rfl, fun p np => ?_⟩; generalize hX : L2.upd _ p _ = H'; have sm : L2.Same _ H' := hX ▸ Sw.same_upd np; have hp : H' p = some _ := hX ▸ L2.upd_same; clear hX))
namespace Sw
open PySem PySem.Spec PyProof.Rows L2 SX
structure Xs (K : PySem.W.Frag) (c : Cl) : Prop where
  NoWheel : Caught K c c.NoWheel 11

/-! ### places of a sign, asked -/
def sp_law_places (K : PySem.W.Frag) : Sp := fun vs H Q _ => ∃ w sg : List Nat, vs = [.str (S w), .str (S sg)] ∧ w.length ≤ 1000 ∧
  (isWheel w = true → ∀ p q H', Same H H' → H' p = some (.tup [.ref q, .str ""]) → H' q = some (.lst ((plc w sg).map V.int)) → Q (.ref p) H') ∧
  (isWheel w = false → ∀ p H', Same H H' → H' p = some (.tup [.non, .str "NoWheel+"]) → Q (.ref p) H')
theorem ln_law_places {K : PySem.W.Frag} {vs : List V} {H : Hp} {Q : VK} {E : XK} (h : sp_law_places K vs H Q E) : vs.length = 2 := by
  obtain ⟨_, _, rfl, _⟩ := h
  rfl
def t_law_places (K : PySem.W.Frag) (c : Cl) : TS :=
  (tSeq (tAsg (tC .non) (gName 2))
  (tSeq (tAsg (tC (.str "")) (gName 3))
  (tSeq (tTry K c.WheelError 4 (fun W => (tAsg (tCallS (spx_places_of K c) (WE W) (tCons (tVar 0) (tCons (tVar 1) tNil))) (gName 2))) (fun a cls d => (tAsg (tCallE (sp_law_kind K c) a cls d (tVar 4)) (gName 3))))
  (tRet (tTup (tCons (tVar 2) (tCons (tVar 3) tNil)))))))

theorem rd_law_places {K : PySem.W.Frag} {c : Cl} {vs : List V} {H : Hp} {Q : VK} {E : XK} (X : Xs K c) (h : sp_law_places K vs H Q E) : t_law_places K c { nx := fun _ H' => Q .non H', rt := Q } (start ["wheel", "sign", "found", "kind", "e"] vs) H := by
  obtain ⟨w, sg, rfl, hz, q1, q2⟩ := h
  show t_law_places K c _ [some (.str (S w)), some (.str (S sg)), none, none, none] H
  unfold t_law_places
  walk_at "go"
  refine g_seq ?_
  show tAsg (tCallS (spx_places_of K c) _ _) _ _ _ _
  refine ⟨_, rfl, _, rfl, w, sg, rfl, by omega, fun hw p H1 np s1 hp => ?_, fun hw => ?_⟩
  · dsimp only
    walk_at "go"
    refine ⟨by show 2 ≤ sizeLine; decide, fun p2 np2 => ?_⟩
    exact q1 hw p2 p _ (s1.trans (same_upd np2)) upd_same (same_upd np2 _ _ hp)
  · refine ⟨true, X.NoWheel.exm, fun _ x nx => ?_, fun z => nomatch z⟩
    refine ⟨_, rfl, rfl, rfl, c.NoWheel, 11, rfl, X.NoWheel, by decide, fun H' sm => ?_⟩
    dsimp only
    rw [kstr11]
    walk_at "go"
    refine ⟨by show 2 ≤ sizeLine; decide, fun p np => ?_⟩
    exact q2 hw p _ (sm.trans (same_upd np)) upd_same
/-! ### things of any kind -/
def NoTxt (K : PySem.W.Frag) (H : Hp) (v : V) : Prop := ∃ t : String, TyX K H v (.type t) ∧ kitB t "str" = some false
def Thg (K : PySem.W.Frag) (H : Hp) (v : V) : Prop := IsTxt 200 v ∨ NoTxt K H v
theorem nt_int {K : PySem.W.Frag} {H : Hp} (i : Int) : NoTxt K H (.int i) := ⟨"int", .base (.int i), by decide +kernel⟩
theorem nt_bl {K : PySem.W.Frag} {H : Hp} (i : Bool) : NoTxt K H (.bl i) := ⟨"bool", .base (.bl i), by decide +kernel⟩
theorem nt_non {K : PySem.W.Frag} {H : Hp} : NoTxt K H .non := ⟨"NoneType", .base .non, by decide +kernel⟩
theorem nt_lst {K : PySem.W.Frag} {H : Hp} {a : Addr} {xs : List V} (h : H a = some (.lst xs)) : NoTxt K H (.ref a) := ⟨"list", .base (.lst h), by decide +kernel⟩
theorem nt_tup {K : PySem.W.Frag} {H : Hp} {a : Addr} {xs : List V} (h : H a = some (.tup xs)) : NoTxt K H (.ref a) := ⟨"tuple", .base (.tup h), by decide +kernel⟩
def sp_law_thing (K : PySem.W.Frag) : Nat → Sp
  | 0 => fun _ _ _ _ => False
  | n + 1 => fun vs H Q _ => ∃ (d : Addr) (deep : Int), vs = [.ref d, .int deep] ∧ Dr H d ∧ deep ≤ n ∧ ∀ v H', Dr H' d → Fr d H H' → Thg K H' v → Q v H'
theorem ln_law_thing {K : PySem.W.Frag} {n : Nat} {vs : List V} {H : Hp} {Q : VK} {E : XK} (h : sp_law_thing K (n + 1) vs H Q E) : vs.length = 2 := by
  obtain ⟨_, _, rfl, _⟩ := h
  rfl
def t_law_thing (K : PySem.W.Frag) (n : Nat) : TS :=
  (tSeq (tAsg (tCall (sp_law_draw K) [] E0 (tCons (tVar 0) (tCons (tC (.int 11)) tNil))) (gName 2))
  (tSeq (tIfS (tTest (tOp rLt (tVar 2) (tC (.int 3)))) (tRet (tOp (rIxL K) (tLst (tCons (tOp rSub (tCall (sp_law_draw K) [] E0 (tCons (tVar 0) (tCons (tC (.int 9)) tNil))) (tC (.int 4))) (tCons (tOp rSub (tC (.int 0)) (tOp rPow (tC (.int 10)) (tC (.int 39)))) (tCons (tCall (sp_law_draw K) [] E0 (tCons (tVar 0) (tCons (tOp rPow (tC (.int 10)) (tC (.int 9))) tNil))) tNil)))) (tVar 2))) tNext)
  (tSeq (tIfS (tTest (tOp rLt (tVar 2) (tC (.int 6)))) (tRet (tOp (rIxL K) (tLst (tCons (tC (.bl true)) (tCons (tC (.bl false)) (tCons (tC .non) tNil)))) (tOp rSub (tVar 2) (tC (.int 3))))) tNext)
  (tSeq (tIfS (tTest (tOp rLt (tVar 2) (tC (.int 9)))) (tRet (tCall (sp_law_letters K) [] E0 (tCons (tVar 0) (tCons (tCall (sp_law_draw K) [] E0 (tCons (tVar 0) (tCons (tC (.int 4)) tNil))) (tCons (tC (.int 3)) tNil))))) tNext)
  (tSeq (tAsg (tLc (iRng1 (tCons (tOp rMulW (tCall (sp_law_draw K) [] E0 (tCons (tVar 0) (tCons (tC (.int 4)) tNil))) (tCB rInt1 (tCons (tOp rGt (tVar 1) (tC (.int 0))) tNil))) tNil)) (gName 4) tYes (tCall (sp_law_thing K n) [] E0 (tCons (tVar 0) (tCons (tOp rSub (tVar 1) (tC (.int 1))) tNil))) [4]) (gName 3))
  (tRet (tIf (tTest (tOp rEq (tVar 2) (tC (.int 9)))) (tVar 3) (tCB (rTupleOf K) (tCons (tVar 3) tNil)))))))))

theorem e39 : (10 : Int) ^ (39 : Int).toNat = 10 ^ 39 := rfl
theorem e9 : (10 : Int) ^ (9 : Int).toNat = 10 ^ 9 := rfl
def IsNt (v : V) : Prop := ∀ (K : PySem.W.Frag) (H : Hp), NoTxt K H v
theorem rd_law_thing {K : PySem.W.Frag} {n : Nat} {vs : List V} {H : Hp} {Q : VK} {E : XK} (h : sp_law_thing K (n + 1) vs H Q E) : t_law_thing K n { nx := fun _ H' => Q .non H', rt := Q } (start ["draws", "deep", "kind", "some", "k"] vs) H := by
  obtain ⟨d, deep, rfl, dr, hd, q⟩ := h
  show t_law_thing K n _ [some (.ref d), some (.int deep), none, none, none] H
  have hs : LS (but H d) d H := LS.of dr
  replace q : ∀ v H', LS (but H d) d H' → Thg K H' v → Q v H' := fun v H' hs => q v H' hs.dr hs.fr
  generalize but H d = G at hs q
  unfold t_law_thing
  walk_at "go"
  refine hs.draw (by omega) (by omega) fun kind H1 k0 k1 hs => ?_
  refine g_seq ?_
  walk_at "go"
  refine ite_d (fun h1 => ?_) (fun h1 => ?_)
  · walk_at "go"
    refine hs.draw (by omega) (by omega) fun r1 H2 a1 b1 hs => ?_
    walk_at "go"
    refine g_I ⟨by decide, by decide, by decide⟩ ?_
    walk_at "go"
    refine g_I ⟨by decide, by decide, by decide⟩ ?_
    rw [e9]
    walk_at "go"
    refine hs.draw (by omega) (by omega) fun r2 H3 a2 b2 hs => ?_
    walk_at "go"
    refine ⟨by show 3 ≤ sizeLine; decide, fun p np => ?_⟩
    walk_at "go"
    refine (hs.new np).at (hs.nog np) IsNt (all_cons (fun _ _ => nt_int _) (all_cons (fun _ _ => nt_int _) (all_cons (fun _ _ => nt_int _) all_nil))) k0 (by show kind < (3 : Int); omega) fun v hv hs => ?_
    exact q _ _ hs (.inr (hv _ _))
  · walk_at "go"
    dsimp only
    refine g_seq ?_
    walk_at "go"
    refine ite_d (fun h2 => ?_) (fun h2 => ?_)
    · walk_at "go"
      refine ⟨by show 3 ≤ sizeLine; decide, fun p np => ?_⟩
      walk_at "go"
      refine (hs.new np).at (hs.nog np) IsNt (all_cons (fun _ _ => nt_bl _) (all_cons (fun _ _ => nt_bl _) (all_cons (fun _ _ => nt_non) all_nil))) (by omega) (by show kind - 3 < (3 : Int); omega) fun v hv hs => ?_
      exact q _ _ hs (.inr (hv _ _))
    · walk_at "go"
      dsimp only
      refine g_seq ?_
      walk_at "go"
      refine ite_d (fun h3 => ?_) (fun h3 => ?_)
      · walk_at "go"
        refine hs.draw (by omega) (by omega) fun r1 H2 a1 b1 hs => ?_
        walk_at "go"
        refine hs.letters a1 (by omega) (by decide) (by decide) fun l H3 el low hs => ?_
        exact q _ _ hs (.inl ⟨l, rfl, by omega, asc_low low⟩)
      · walk_at "go"
        refine lc1 (fun m Hm => 0 ≤ m ∧ m ≤ 3 ∧ (deep ≤ 0 → m = 0) ∧ LS G d Hm) (fun QA h => ?_) (fun m Hm e => by omega) (fun Dl m i H' => m ≤ 3 ∧ (deep ≤ 0 → m = 0) ∧ G Dl = none ∧ Dl ≠ d ∧ ∃ xs : List V, xs.length = i ∧ H' Dl = some (.lst xs) ∧ LS G d H') (fun Dl m Hm e nD => ?_) (fun x => rfl) (fun Dl m i H' hi p => ?_) (fun Dl m H' p => ?_)
        · walk_at "go"
          refine hs.draw (by omega) (by omega) fun r1 H2 a1 b1 hs => ?_
          walk_at "go"
          refine .inr ⟨_, rfl, ?_⟩
          by_cases hp : (0 : Int) < deep
          · rw [decide_eq_true hp, if_pos rfl]
            refine g_I (cm (by omega) (by omega) (by omega) (by omega)) ?_
            walk_at "go"
            exact h _ _ ⟨by omega, by omega, by omega, hs⟩
          · rw [decide_eq_false hp, if_neg Bool.false_ne_true]
            refine g_I (cm (by omega) (by omega) (by omega) (by omega)) ?_
            walk_at "go"
            exact h _ _ ⟨by omega, by omega, by omega, hs⟩
        · obtain ⟨m0, m1, m2, hs⟩ := e
          exact ⟨m1, m2, hs.nog nD, hs.dr.ne nD, [], rfl, upd_same, hs.old nD⟩
        · obtain ⟨m1, m2, gD, nd, xs, el, hD, hs'⟩ := p
          have hp : 0 < deep := by
            by_cases z : deep ≤ 0
            · have := m2 z; omega
            · omega
          have hs3 := hs'.add hD nd
          walk_at "go"
          cases n with
          | zero => omega
          | succ n =>
            refine ⟨d, deep - 1, rfl, hs3.dr, by omega, fun v H6 dr6 fr6 tv => ?_⟩
            have hs4 := hs3.to dr6 fr6
            refine ⟨_, hs4.ex _ _ upd_same, Nat.lt_of_lt_of_le (show xs.length < 1001 by omega) (by decide), m1, m2, gD, nd, xs ++ [v], by rw [List.length_append, el]; rfl, upd_same, (hs4.drop gD).put gD nd⟩
        · obtain ⟨m1, m2, gD, nd, xs, el, hD, hs'⟩ := p
          walk_at "go"
          refine ite_d (fun h3 => ?_) (fun h3 => ?_)
          · walk_at "go"
            exact q _ _ hs' (.inr (nt_lst hD))
          · walk_at "go"
            refine ⟨Dl, xs, rfl, .inl ⟨.inl (.inl hD), fun p np => ?_⟩⟩
            exact q _ _ (hs'.old np) (.inr (nt_tup upd_same))
/-! ### one thing asked about -/
def sp_law_right (K : PySem.W.Frag) : Sp := fun vs H Q _ => ∃ (v : V) (d : Addr), vs = [v, .ref d] ∧ Dr H d ∧ Thg K H v ∧ ∀ H', Fr d H H' → Q (.bl true) H'
theorem ln_law_right {K : PySem.W.Frag} {vs : List V} {H : Hp} {Q : VK} {E : XK} (h : sp_law_right K vs H Q E) : vs.length = 2 := by
  obtain ⟨_, _, rfl, _⟩ := h
  rfl
def t_law_right (K : PySem.W.Frag) : TS :=
  (tSeq (tAsg (tAndV (tCB (rIsi K) (tCons (tVar 0) (tCons (tC (.ty "str")) tNil))) (tCall (sp_law_is_word K) [] E0 (tCons (tVar 0) tNil))) (gName 2))
  (tSeq (tAsg (tCall (sp_is_word K) [] E0 (tCons (tVar 0) tNil)) (gName 3))
  (tSeq (tIfS (tOr (tNot (tB (tCB (rIsi K) (tCons (tVar 3) (tCons (tC (.ty "bool")) tNil))))) (tTest (tOp rNe (tVar 3) (tVar 2)))) (tRet (tC (.bl false))) tNext)
  (tSeq (tAsg (tAndV (tVar 2) (tChain rLe rLe (tC (.int 1)) (tCB rLenStr (tCons (tVar 0) tNil)) (tC (.int 30)))) (gName 2))
  (tSeq (tAsg (tCall (sp_is_wheel K) [] E0 (tCons (tVar 0) tNil)) (gName 3))
  (tSeq (tIfS (tOr (tNot (tB (tCB (rIsi K) (tCons (tVar 3) (tCons (tC (.ty "bool")) tNil))))) (tTest (tOp rNe (tVar 3) (tVar 2)))) (tRet (tC (.bl false))) tNext)
  (tSeq (tIfS (tNot (tB (tCB (rIsi K) (tCons (tVar 0) (tCons (tC (.ty "str")) tNil))))) (tRet (tC (.bl true))) tNext)
  (tSeq (tAsg (tOp (rIxL K) (tLst (tCons (tCall (sp_law_letters K) [] E0 (tCons (tVar 1) (tCons (tC (.int 1)) (tCons (tC (.int 26)) tNil)))) (tCons (tSl rSlS (tVar 0) tNoPart (tPart (tC (.int 1)))) (tCons (tSl rSlS (tVar 0) (tPart (tUn rNeg (tC (.int 1)))) tNoPart) (tCons (tC (.str "")) (tCons (tC (.str "ab")) (tCons (tC (.str "Z")) tNil))))))) (tCall (sp_law_draw K) [] E0 (tCons (tVar 1) (tCons (tC (.int 6)) tNil)))) (gName 4))
  (tSeq (tIfS (tNot (tB (tVar 2))) (tRet (tOp (rEqD K) (tCall (sp_law_places K) [] E0 (tCons (tVar 0) (tCons (tVar 4) tNil))) (tTup (tCons (tC .non) (tCons (tC (.str "NoWheel+")) tNil))))) tNext)
  (tRet (tOp (rEqD K) (tCall (sp_law_places K) [] E0 (tCons (tVar 0) (tCons (tVar 4) tNil))) (tTup (tCons (tLc (iRng1 (tCons (tCB rLenStr (tCons (tVar 0) tNil)) tNil)) (gName 5) (tTest (tOp rEq (tOp rIxS (tVar 0) (tVar 5)) (tVar 4))) (tVar 5) [5]) (tCons (tC (.str "")) tNil))))))))))))))

def IsAny (v : V) : Prop := ∃ l : List Nat, v = .str (S l)
theorem chainB {a : Int} : (if decide ((1 : Int) ≤ a) = true then decide (a ≤ 30) else false) = (decide ((1 : Int) ≤ a) && decide (a ≤ 30)) := by cases decide ((1 : Int) ≤ a) <;> rfl
theorem isWheel_int (l : List Nat) : isWheel l = (isWord l && (decide ((1 : Int) ≤ l.length) && decide ((l.length : Int) ≤ 30))) := by
  unfold isWheel
  congr 1
  congr 1
  · rw [decide_eq_decide]; omega
  · rw [decide_eq_decide]; omega
theorem rd_law_right {K : PySem.W.Frag} {vs : List V} {H : Hp} {Q : VK} {E : XK} (h : sp_law_right K vs H Q E) : t_law_right K { nx := fun _ H' => Q .non H', rt := Q } (start ["thing", "draws", "due", "told", "sign", "k"] vs) H := by
  obtain ⟨v, d, rfl, dr, th, q⟩ := h
  show t_law_right K _ [some v, some (.ref d), none, none, none, none] H
  have hs : LS (but H d) d H := LS.of dr
  unfold t_law_right
  rcases th with ⟨l, rfl, hl, ha⟩ | ⟨t, ht, hn⟩
  · replace q : ∀ H', LS (but H d) d H' → Q (.bl true) H' := fun H' hs => q H' hs.fr
    generalize but H d = G at hs q
    walk_at "go"
    refine g_isStr ?_
    walk_at "go"
    refine ⟨l, rfl, by omega, ha, fun H1 s1 => ?_⟩
    replace hs := hs.same s1
    walk_at "go"
    refine ⟨_, _, rfl, .txt l (by omega), ?_⟩
    walk_at "go"
    refine g_seq ?_
    walk_at "go"
    refine g_isBool ?_
    walk_at "go"
    refine ite_n (fun z => absurd rfl z) (fun _ => ?_)
    refine g_next ?_
    dsimp only
    refine g_seqasg ?_
    have key : ∀ Q' : VK, Q' (.bl (isWheel l)) H1 → tAndV (tVar 2) (tChain rLe rLe (tC (.int 1)) (tCB rLenStr (tCons (tVar 0) tNil)) (tC (.int 30))) [some (.str (S l)), some (.ref d), some (.bl (isWord l)), some (.bl (isWord l)), none, none] H1 Q' := by
      intro Q' h
      rw [isWheel_int] at h
      walk_at "go"
      refine ite_b (fun hb => ?_) (fun hb => ?_)
      · rw [hb] at h
        walk_at "go"
        refine g_lenS (by omega) ?_
        walk_at "go"
        refine ite_b (fun hc => ?_) (fun hc => ?_)
        · rw [hc] at h
          walk_at "go"
          exact h
        · rw [hc] at h
          exact h
      · rw [hb] at h
        exact h
    refine key _ ?_
    clear key
    walk_at "go"
    refine ⟨_, _, rfl, .txt l (by omega), ?_⟩
    walk_at "go"
    refine g_seq ?_
    walk_at "go"
    refine g_isBool ?_
    walk_at "go"
    refine ite_n (fun z => absurd rfl z) (fun _ => ?_)
    walk_at "go"
    dsimp only
    refine g_seq ?_
    walk_at "go"
    refine g_isStr ?_
    walk_at "go"
    refine hs.letters (by decide) (by decide) (by decide) (by decide) fun l1 H2 el1 _ hs => ?_
    walk_at "go"
    refine g_cut (by omega) fun l2 _ _ => ?_
    walk_at "go"
    refine g_cut (by omega) fun l3 _ _ => ?_
    walk_at "go"
    refine ⟨by show 6 ≤ sizeLine; decide, fun p np => ?_⟩
    walk_at "go"
    refine (hs.new np).draw (by omega) (by omega) fun r3 H5 a3 b3 hs2 => ?_
    refine hs2.at (hs.nog np) IsAny (all_cons ⟨_, rfl⟩ (all_cons ⟨_, rfl⟩ (all_cons ⟨_, rfl⟩ (all_cons ⟨_, rfl⟩ (all_cons ⟨_, congrArg V.str (str_S _)⟩ (all_cons ⟨_, congrArg V.str (str_S _)⟩ all_nil)))))) a3 b3 fun v hv hs => ?_
    obtain ⟨sg, rfl⟩ := hv
    refine g_seq ?_
    walk_at "go"
    cases hw : isWheel l with
    | false =>
      refine iteT ?_
      walk_at "go"
      refine ⟨l, sg, rfl, by omega, (fun z => by rw [hw] at z; cases z), fun _ p2 H6 s6 hp2 => ?_⟩
      walk_at "go"
      walk_at "new"
      rename_i p3 np3 H7 s7 hp3
      refine g_eqD (d := .tuple [.none, .str "NoWheel+"]) (n := 1) (.tup (.inl (.inl (s7 _ _ hp2))) (.cons .non (.cons (.str _) .nil))) (.tup (.inl (.inl hp3)) (.cons .non (.cons (.str _) .nil))) (ok_tup (ok_cons ok_non (ok_cons (ok_str (by decide +kernel)) ok_nil))) (by decide) ?_
      exact q _ ((hs.same s6).same s7)
    | true =>
      refine iteF ?_
      walk_at "go"
      try dsimp only
      walk_at "go"
      refine ⟨l, sg, rfl, by omega, (fun _ p2 q2 H6 s6 hp2 hq2 => ?_), (fun z => by rw [hw] at z; cases z)⟩
      walk_at "go"
      refine lcP1 (n := (l.length : Int)) (fun i => decide ([l.getD i 0] = sg)) (fun i => .int (i : Int)) (fun QA h => ?_) (by omega) (by omega) (fun x => rfl) (fun i H' QT hi sm h => ?_) (fun i H' Q hi sm hf h => ?_) (fun p4 H8 np4 s8 hp4 => ?_)
      · walk_at "go"
        exact g_lenS (by omega) h
      · obtain ⟨x, hx⟩ : ∃ x, l[i]? = some x := ⟨_, List.getElem?_eq_getElem (by omega)⟩
        walk_at "go"
        refine g_ixS (K := K) (by omega) (atI_nat hx) ?_
        walk_at "go"
        rw [getD_of' hx] at h
        rw [show decide (V.str (S [x]) = V.str (S sg)) = decide ([x] = sg) from decide_eq_decide.mpr S_inj']
        exact h
      · walk_at "go"
        exact h
      · rw [show ((l.length : Int)).toNat = l.length by omega, plc_given] at hp4
        walk_at "go"
        walk_at "new"
        rename_i p3 np3 H7 s7 hp3
        refine g_eqD (d := .tuple [.list (dI (plc l sg)), .str ""]) (n := 2) (.tup (.inl (.inl (s7 _ _ (s8 _ _ hp2)))) (.cons (.lst (.inl (.inl (s7 _ _ (s8 _ _ hq2)))) (dpI _)) (.cons (.str _) .nil))) (.tup (.inl (.inl hp3)) (.cons (.lst (.inl (.inl (s7 _ _ hp4))) (dpI _)) (.cons (.str _) .nil))) (ok_tup (ok_cons (ok_lst (ok_dI _)) (ok_cons (ok_str (by decide +kernel)) ok_nil))) (by decide) ?_
        exact q _ (((hs.same s6).same s8).same s7)
  · walk_at "go"
    refine g_isNo ht hn ?_
    walk_at "go"
    refine ⟨v, _, rfl, .no ht hn, ?_⟩
    walk_at "go"
    refine g_seq ?_
    walk_at "go"
    refine g_isBool ?_
    walk_at "go"
    refine ite_n (fun z => absurd rfl z) (fun _ => ?_)
    walk_at "go"
    try dsimp only
    walk_at "go"
    refine ⟨v, _, rfl, .no ht hn, ?_⟩
    walk_at "go"
    refine g_seq ?_
    walk_at "go"
    refine g_isBool ?_
    walk_at "go"
    refine ite_n (fun z => absurd rfl z) (fun _ => ?_)
    walk_at "go"
    dsimp only
    refine g_seq ?_
    walk_at "go"
    refine g_isNo ht hn ?_
    walk_at "go"
    exact q _ hs.fr
def t_law (K : PySem.W.Frag) : TS :=
  (tSeq (tFor (iRng1 (tCons (tCB rMax2 (tCons (tC (.int 1)) (tCons (tCB rMin2 (tCons (tC (.int 20)) (tCons (tCB (rLenSq K) (tCons (tVar 0) tNil)) tNil))) tNil))) tNil)) (gName 1)
  (tSeq (tAsg (tCall (sp_law_draws K) [] E0 (tCons (tVar 0) (tCons (tVar 1) tNil))) (gName 2))
  (tSeq (tAsg (tCall (sp_law_draw K) [] E0 (tCons (tVar 2) (tCons (tC (.int 4)) tNil))) (gName 3))
  (tSeq (tIfS (tTest (tOp rEq (tVar 3) (tC (.int 0)))) (tAsg (tCall (sp_law_thing K 4) [] E0 (tCons (tVar 2) (tCons (tC (.int 3)) tNil))) (gName 4)) (tSeq (tAsg (tLst (tCons (tCall (sp_law_draw K) [] E0 (tCons (tVar 2) (tCons (tC (.int 4)) tNil))) (tCons (tOp rAdd (tC (.int 29)) (tCall (sp_law_draw K) [] E0 (tCons (tVar 2) (tCons (tC (.int 3)) tNil)))) (tCons (tOp rAdd (tC (.int 79)) (tCall (sp_law_draw K) [] E0 (tCons (tVar 2) (tCons (tC (.int 4)) tNil)))) (tCons (tCall (sp_law_draw K) [] E0 (tCons (tVar 2) (tCons (tC (.int 33)) tNil))) tNil))))) (gName 5))
  (tSeq (tAsg (tCall (sp_law_letters K) [] E0 (tCons (tVar 2) (tCons (tOp (rIxL K) (tVar 5) (tCall (sp_law_draw K) [] E0 (tCons (tVar 2) (tCons (tC (.int 4)) tNil)))) (tCons (tOp rAdd (tC (.int 1)) (tCall (sp_law_draw K) [] E0 (tCons (tVar 2) (tCons (tC (.int 26)) tNil)))) tNil)))) (gName 4))
  (tFor (iRng1 (tCons (tOp rSub (tVar 3) (tC (.int 1))) tNil)) (gName 6)
  (tAsg (tCall (sp_law_bent K) [] E0 (tCons (tVar 4) (tCons (tVar 2) tNil))) (gName 4))))))
  (tIfS (tNot (tB (tCall (sp_law_right K) [] E0 (tCons (tVar 4) (tCons (tVar 2) tNil))))) (tRet (tC (.bl false))) tNext)))))
  (tRet (tC (.bl true))))

theorem rd_law {K : PySem.W.Frag} {vs : List V} {H : Hp} {Q : VK} {E : XK} (h : sp_law K vs H Q E) : t_law K { nx := fun _ H' => Q .non H', rt := Q } (start ["script", "k", "draws", "way", "thing", "many", "turn"] vs) H := by
  obtain ⟨a, ns, rfl, hS, hn, q⟩ := h
  show t_law K _ [some (.ref a), none, none, none, none, none, none] H
  unfold t_law
  refine g_seq (for1 (fun n Hn => n ≤ 20 ∧ 0 ≤ n ∧ Hn = H) (fun QA h => cells hS (by decide) (by decide) rfl QA fun n hn => h _ _ ⟨by omega, by omega, rfl⟩) (fun n i σ' H' => n ≤ 20 ∧ Same H H' ∧ ∃ (v1 v2 v3 v4 v5 v6 : Option V), σ' = [some (.ref a), v1, v2, v3, v4, v5, v6]) (fun n Hn hc => ?_) (fun n i σ' H' hi hp => ?_) (fun n σ' H' hp => ?_))
  · obtain ⟨c0, c1, rfl⟩ := hc
    exact ⟨by omega, by omega, c0, Same.refl _, _, _, _, _, _, _, rfl⟩
  · obtain ⟨n12, sm, v1, v2, v3, v4, v5, v6, rfl⟩ := hp
    walk_at "go"
    refine ⟨a, ns, _, rfl, sm.seq hS, hn, by omega, by omega, fun d H1 nd s1 dr => ?_⟩
    have hs : LS H d H1 := LS.start sm nd s1 dr
    walk_at "go"
    refine hs.draw (by omega) (by omega) fun way H2 w0 w1 hs => ?_
    refine g_join (fun σ' H' => LS H d H' ∧ ∃ th : V, Thg K H' th ∧ ∃ (v1 v3 v5 v6 : Option V), σ' = [some (.ref a), v1, some (.ref d), v3, some (th), v5, v6]) ?_ fun U hu => ?_
    · rintro σ' H' ⟨hs, th, ht, v1, v3, v5, v6, rfl⟩
      walk_at "go"
      refine ⟨th, d, rfl, hs.dr, ht, fun H3 fr => ?_⟩
      walk_at "go"
      exact ⟨n12, fun b o e => fr b o (ne_of_none e hs.no) (hs.ex b o e), _, _, _, _, _, _, rfl⟩
    · walk_at "go"
      refine ite_d (fun h1 => ?_) (fun h1 => ?_)
      · walk_at "go"
        refine ⟨d, 3, rfl, hs.dr, by decide, fun v H3 dr fr tv => ?_⟩
        exact hu _ _ ⟨hs.to dr fr, v, tv, _, _, _, _, rfl⟩
      · have hw : way ≠ 0 := fun z => h1 (by rw [z])
        walk_at "go"
        refine hs.draw (by omega) (by omega) fun r1 H3 a1 b1 hs => ?_
        walk_at "go"
        refine hs.draw (by omega) (by omega) fun r2 H4 a2 b2 hs => ?_
        walk_at "go"
        refine hs.draw (by omega) (by omega) fun r3 H5 a3 b3 hs => ?_
        walk_at "go"
        refine hs.draw (by omega) (by omega) fun r4 H6 a4 b4 hs => ?_
        walk_at "go"
        refine ⟨by show 4 ≤ sizeLine; decide, fun p np => ?_⟩
        walk_at "go"
        refine (hs.new np).draw (by omega) (by omega) fun r5 H7 a5 b5 hs2 => ?_
        refine hs2.at (hs.nog np) (Bd 0 82) (by walk_at "bd") a5 b5 fun v hv hs => ?_
        obtain ⟨m, rfl, m0, m1⟩ := hv
        walk_at "go"
        refine hs.draw (by omega) (by omega) fun r6 H8 a6 b6 hs => ?_
        walk_at "go"
        refine hs.letters m0 (by omega) (by omega) (by omega) fun l H9 el low hs => ?_
        refine for1 (fun n Hn => n = way - 1 ∧ Hn = H9) (fun QA h => ?_) (fun n i σ' H' => n = way - 1 ∧ LS H d H' ∧ ∃ l : List Nat, l.length ≤ 82 + i ∧ Asc l ∧ ∃ (v1 v3 v5 v6 : Option V), σ' = [some (.ref a), v1, some (.ref d), v3, some (.str (S l)), v5, v6]) (fun n Hn hc => ?_) (fun n i σ' H' hi hp => ?_) (fun n σ' H' hp => ?_)
        · walk_at "go"
          exact h _ _ ⟨rfl, rfl⟩
        · obtain ⟨rfl, rfl⟩ := hc
          exact ⟨by omega, by omega, rfl, hs, l, by omega, asc_low low, _, _, _, _, rfl⟩
        · obtain ⟨rfl, hs, l, ll, al, v1, v3, v5, v6, rfl⟩ := hp
          walk_at "go"
          refine hs.bent (by omega) al fun l' H2 ll' al' hs => ?_
          exact ⟨rfl, hs, l', by omega, al', _, _, _, _, rfl⟩
        · obtain ⟨rfl, hs, l, ll, al, v1, v3, v5, v6, rfl⟩ := hp
          exact hu _ _ ⟨hs, _, .inl ⟨l, rfl, by omega, al⟩, _, _, _, _, rfl⟩
  · obtain ⟨_, sm, v1, v2, v3, v4, v5, v6, rfl⟩ := hp
    walk_at "go"
    exact q H'
end Sw
local macro_rules | `(tactic| walk_at "go1") => `(tactic| first
  | with_reducible refine Sw.g_seqasg ?_ | with_reducible refine Sw.g_op ?_ | with_reducible refine Sw.g_var rfl ?_ | with_reducible refine Sw.g_c ?_ | with_reducible refine Sw.g_I0 ?_
  | with_reducible refine Sw.g_cons ?_ | with_reducible refine Sw.g_nil ?_ | with_reducible refine Sw.g_call ?_ | with_reducible refine Sw.g_cb ?_ | with_reducible refine Sw.g_test ?_ | with_reducible refine Sw.g_bl ?_
  | with_reducible refine Sw.g_seqdrop ?_ | with_reducible refine Sw.g_seqsub ?_ | with_reducible refine Sw.g_asg ?_ | with_reducible refine Sw.g_asgsub ?_ | with_reducible refine Sw.g_ret ?_ | with_reducible refine Sw.g_drop ?_ | with_reducible refine Sw.g_if ?_ | with_reducible refine Sw.g_next ?_ | with_reducible refine Sw.g_name ?_
  | with_reducible refine Sw.g_B ?_ | with_reducible refine Sw.g_not ?_ | with_reducible refine Sw.g_and ?_ | with_reducible refine Sw.g_or ?_ | with_reducible refine Sw.g_andV ?_ | with_reducible refine Sw.g_orV ?_ | with_reducible refine Sw.g_notV ?_
  | with_reducible refine Sw.g_ifE ?_ | with_reducible refine Sw.g_chain ?_ | with_reducible refine Sw.g_un ?_ | with_reducible refine Sw.g_tup ?_ | with_reducible refine Sw.g_lst ?_ | with_reducible refine Sw.g_sl ?_ | with_reducible refine Sw.g_part ?_ | with_reducible refine Sw.g_nopart ?_
  | with_reducible refine Sw.g_U ?_ | with_reducible refine Sw.g_eq rfl ?_ | with_reducible refine Sw.g_ne rfl ?_ | with_reducible refine Sw.g_int ?_ | with_reducible refine Sw.g_yes ?_ | with_reducible refine L2.iteT ?_ | with_reducible refine L2.iteF ?_ | with_reducible refine Sw.iteNT ?_ | with_reducible refine Sw.iteNF ?_ | with_reducible refine Sw.g_m1 ?_ | with_reducible refine Sw.g_bm ?_ | with_reducible refine ⟨Sw.ty_lst (by assumption), ?_⟩ | with_reducible refine Sw.g_sput ?_ | with_reducible refine Sw.g_put ?_ | with_reducible refine Sw.g_dget2 ?_ | with_reducible refine Sw.g_dget ?_ | with_reducible refine Sw.g_dK ?_
  | with_reducible refine Sw.g_ixL (by assumption) rfl ?_ | with_reducible refine Sw.g_ixT (by assumption) rfl ?_)
local macro_rules | `(tactic| walk_at "go") => `(tactic| repeat walk_at "go1")
local macro_rules | `(tactic| walk_at "bd") => `(tactic| repeat (first | with_reducible exact Sw.all_nil | refine Sw.all_cons ⟨_, rfl, by omega, by omega⟩ ?_))
local macro_rules | `(tactic| walk_at "new") => `(tactic| (refine ⟨Nat.le_of_ble_eq_true rfl, fun p np => ?_⟩; generalize hX : L2.upd _ p _ = H'; have sm : L2.Same _ H' := hX ▸ Sw.same_upd np; have hp : H' p = some _ := hX ▸ L2.upd_same; clear hX))
namespace Sw
open PySem PySem.Spec PyProof.Rows L2 SX
def topS (i : Nat) : Stmt := PySem.Challenge.pw_strikewheel_k01_words_and_wheels.main.body.getD i (.Pass ⟨0, 0, 0, 0⟩)
abbrev s_law_draws : Stmt := topS 31
abbrev s_law_draw : Stmt := topS 29
abbrev s_law_letters : Stmt := topS 30
abbrev s_law_thing : Stmt := topS 32
abbrev s_law_bent : Stmt := topS 33
abbrev s_law_is_word : Stmt := topS 28
abbrev s_are_signs : Stmt := topS 19
abbrev s_is_word : Stmt := topS 20
abbrev s_is_wheel : Stmt := topS 23
abbrev s_look_at_wheel : Stmt := topS 24
abbrev s_places_of : Stmt := topS 25
abbrev s_law_kind : Stmt := topS 27
abbrev s_law_places : Stmt := topS 34
abbrev s_law_right : Stmt := topS 35
abbrev s_law : Stmt := topS 36
/-! what the names of built-ins and constants hold -/
structure Bl (mg : Str → Option Value) : Prop where
  ValueError : mg "ValueError" = none
  bool : mg "bool" = none
  int : mg "int" = none
  isinstance : mg "isinstance" = none
  len : mg "len" = none
  max : mg "max" = none
  min : mg "min" = none
  range : mg "range" = none
  str : mg "str" = none
  tuple : mg "tuple" = none
  c_LETTERS : ∃ u, mg "LETTERS" = some u ∧ RelV (V.str "abcdefghijklmnopqrstuvwxyz") u
  c_MOST_PLACES : ∃ u, mg "MOST_PLACES" = some u ∧ RelV (V.int 30) u
  c_MOST_SIGNS : ∃ u, mg "MOST_SIGNS" = some u ∧ RelV (V.int 80) u
structure Xf (K : PySem.W.Frag) (mg : Str → Option Value) (c : Cl) : Prop where
  s : Xs K c
  g_Lacks : mg "Lacks" = some (.ref c.Lacks)
  g_NoBank : mg "NoBank" = some (.ref c.NoBank)
  g_NoBook : mg "NoBook" = some (.ref c.NoBook)
  g_NoDeed : mg "NoDeed" = some (.ref c.NoDeed)
  g_NoName : mg "NoName" = some (.ref c.NoName)
  g_NoOrder : mg "NoOrder" = some (.ref c.NoOrder)
  g_NoPlace : mg "NoPlace" = some (.ref c.NoPlace)
  g_NoRow : mg "NoRow" = some (.ref c.NoRow)
  g_NoSlack : mg "NoSlack" = some (.ref c.NoSlack)
  g_NoText : mg "NoText" = some (.ref c.NoText)
  g_NoTurns : mg "NoTurns" = some (.ref c.NoTurns)
  g_NoWheel : mg "NoWheel" = some (.ref c.NoWheel)
  g_NoWord : mg "NoWord" = some (.ref c.NoWord)
  g_TooMany : mg "TooMany" = some (.ref c.TooMany)
  g_WheelError : mg "WheelError" = some (.ref c.WheelError)
  x_NoWheel : PySem.W.excIn K c.NoWheel [.type "ValueError", .type "Exception", .type "BaseException", .type "object"] "ValueError.__new__" = true
  k_NoWheel : PySem.W.keepIn K (.ref c.NoWheel) = true
  b_NoWheel : PySem.W.subIn K (.ref c.NoWheel) (.type "BaseException") = some true
  t_NoWheel : PySem.W.typeIn K (.ref c.NoWheel) = some (.type "type")
section
variable {P : Program} {w : World} {K : PySem.W.Frag} {mg : Str → Option Value} {base : Heap} {c : Cl}
theorem sc_law_draws : FnScope ["script", "k", "primes", "cell", "seed"] ["script", "k"] (defScope s_law_draws) := ⟨rfl, rfl, rfl, by decide +kernel, rfl, by decide +kernel, by decide +kernel⟩
theorem ok_law_draws {f : Addr} {fd : FuncData} (F : L2.Fun K "_law_draws" "_law_draws" s_law_draws f fd) (g : mg "_law_draws" = some (.ref f)) (b : Binds K fd ["script", "k"] []) (B : Bl mg) (X : Xf K mg c)  : Cal P w K mg base 1 "_law_draws" (sp_law_draws K) :=
  ⟨f, fd, ["script", "k"], F.ok sc_law_draws (fun vs H Q E h => ln_law_draws h) (fun cdv A outer s H vs Q E hr h => have hu := hu_of hr; ⟨t_law_draws K, (pss_cons (ps_set (i := 2) sc_law_draws.nd rfl (Or.inl rfl) (pe_tup (pa_cons pe_int (pa_cons pe_int (pa_cons pe_int (pa_cons pe_int (pa_cons pe_int (pa_cons pe_int (pa_cons pe_int (pa_cons pe_int pa_nil))))))))))
      (pss_cons (ps_set (i := 3) sc_law_draws.nd rfl (Or.inl rfl) (pe_op op_add (pe_op op_mulW pe_int (pv 1)) pe_int))
      (pss_cons (ps_if (pt_cmpR op_lt (pv 1) (pe_callB call_len_seq (by rfl) B.len (by decide +kernel) (pa_cons (pv 0) pa_nil)) (nomark _)) (pss_one (ps_set (i := 3) sc_law_draws.nd rfl (Or.inl rfl) (pe_op op_mod (pe_ix ix_list (pv 0) (pv 1) (fun _ _ => rfl)) (pe_op op_mulW (pe_op op_pow pe_int pe_int) (pe_op op_pow pe_int pe_int))))) (pss_one (ps_if (pt_cmpR op_gt (pe_callB call_len_seq (by rfl) B.len (by decide +kernel) (pa_cons (pv 0) pa_nil)) pe_int (nomark _)) (pss_one (ps_set (i := 3) sc_law_draws.nd rfl (Or.inl rfl) (pe_op op_add (pe_op op_mod (pe_ix ix_list (pv 0) (pe_op op_mod (pv 1) (pe_callB call_len_seq (by rfl) B.len (by decide +kernel) (pa_cons (pv 0) pa_nil))) (fun _ _ => rfl)) (pe_op op_pow pe_int pe_int)) (pe_op op_mulW pe_int (pv 1))))) pss_nil)))
      (pss_cons (ps_set (i := 4) sc_law_draws.nd rfl (Or.inl rfl) (pe_op op_mod (pe_op op_mulW (pe_op op_add (pe_op op_add (pe_op op_mod (pv 3) pe_int) (pe_op op_mulW pe_int (pv 1))) pe_int) (pe_op op_add pe_int (pe_op op_mulW (pe_op op_mulW pe_int (pv 1)) (pv 1)))) pe_int))
      (pss_cons (ps_set (i := 4) sc_law_draws.nd rfl (Or.inl rfl) (pe_op op_add (pe_op op_add (pe_op op_mod (pe_op op_mulW (pe_op op_mulW (pv 4) (pv 4)) (pv 4)) pe_int) (pv 1)) pe_int))
      (pss_one (ps_ret (pe_lst (pa_cons (pe_op op_mulW (pv 3) (pe_callTy call_int1 (by rfl) B.int (by decide +kernel) (pa_cons (pe_cmpR op_ge (pv 3) (pe_op op_pow pe_int pe_int) (nomark _)) pa_nil))) (pa_cons (pv 4) (pa_cons (pe_ix ix_tup (pv 2) (pe_op op_mod (pv 1) pe_int) (fun _ _ => rfl)) pa_nil))))))))))), rd_law_draws h⟩), g, F.kp, b⟩
theorem sc_law_draw : FnScope ["draws", "many", "found"] ["draws", "many"] (defScope s_law_draw) := ⟨rfl, rfl, rfl, by decide +kernel, rfl, by decide +kernel, by decide +kernel⟩
theorem ok_law_draw {f : Addr} {fd : FuncData} (F : L2.Fun K "_law_draw" "_law_draw" s_law_draw f fd) (g : mg "_law_draw" = some (.ref f)) (b : Binds K fd ["draws", "many"] []) (B : Bl mg) (X : Xf K mg c)  : Cal P w K mg base 1 "_law_draw" (sp_law_draw K) :=
  ⟨f, fd, ["draws", "many"], F.ok sc_law_draw (fun vs H Q E h => ln_law_draw h) (fun cdv A outer s H vs Q E hr h => have hu := hu_of hr; ⟨t_law_draw K, (pss_cons (ps_if (pt_cmpR op_gt (pe_ix ix_list (pv 0) pe_int (fun _ _ => rfl)) pe_int (nomark _)) (pss_cons (ps_set (i := 2) sc_law_draw.nd rfl (Or.inl rfl) (pe_op op_mod (pe_ix ix_list (pv 0) pe_int (fun _ _ => rfl)) (pv 1)))
      (pss_cons (ps_asg (pe_op op_fdivW (pe_ix ix_list (pv 0) pe_int (fun _ _ => rfl)) (pv 1)) (pg_sub (pv 0) pe_int set_list))
      (pss_one (ps_ret (pv 2))))) pss_nil)
      (pss_cons (ps_asg (pe_op op_add (pe_op op_mod (pe_op op_mulW (pe_ix ix_list (pv 0) pe_int (fun _ _ => rfl)) pe_int) (pe_ix ix_list (pv 0) pe_int (fun _ _ => rfl))) pe_int) (pg_sub (pv 0) pe_int set_list))
      (pss_one (ps_ret (pe_op op_mod (pe_op op_fdivW (pe_op op_mod (pe_op op_mulW (pe_ix ix_list (pv 0) pe_int (fun _ _ => rfl)) (pe_op op_add (pe_op op_fdivW (pe_ix ix_list (pv 0) pe_int (fun _ _ => rfl)) pe_int) pe_int)) pe_int) pe_int) (pv 1)))))), rd_law_draw h⟩), g, F.kp, b⟩
theorem sc_law_letters : FnScope ["draws", "many", "kinds", "letters", "first", "k"] ["draws", "many", "kinds"] (defScope s_law_letters) := ⟨rfl, rfl, rfl, by decide +kernel, rfl, by decide +kernel, by decide +kernel⟩
theorem ok_law_letters {f : Addr} {fd : FuncData} (F : L2.Fun K "_law_letters" "_law_letters" s_law_letters f fd) (g : mg "_law_letters" = some (.ref f)) (b : Binds K fd ["draws", "many", "kinds"] []) (B : Bl mg) (X : Xf K mg c) (c_law_draw : Cal P w K mg base 1 "_law_draw" (sp_law_draw K)) : Cal P w K mg base 2 "_law_letters" (sp_law_letters K) :=
  ⟨f, fd, ["draws", "many", "kinds"], F.ok sc_law_letters (fun vs H Q E h => ln_law_letters h) (fun cdv A outer s H vs Q E hr h => have hu := hu_of hr; ⟨t_law_letters K, (pss_cons (ps_set (i := 3) sc_law_letters.nd rfl (Or.inr rfl) pe_str)
      (pss_cons (ps_set (i := 4) sc_law_letters.nd rfl (Or.inr rfl) (pe_cal c_law_draw hr (by decide) (by rfl) (pa_cons (pv 0) (pa_cons (pe_op op_sub pe_int (pv 2)) pa_nil))))
      (pss_one (ps_ret (pe_join pe_str (pe_lc (own := [("k", 5)]) (g := (gName 5)) (tt := tYes) (by rfl) sc_law_letters.nd (pi_range1 rfl B.range (pa_cons (pv 1) pa_nil)) (blkOk_by (own := [("k", 5)]) (N := ["draws", "many", "kinds", "letters", "first", "k"]) (sc := defScope s_law_letters) (by decide +kernel)) (fun _ _ _ _ _ => (pg_name (i := 5) sc_law_letters.nd rfl (Or.inl rfl))) (fun _ _ _ _ _ => pts_nil) (fun _ _ _ _ _ => (pe_ix ix_str (pv 3) (pe_op op_add (pv 4) (pe_cal c_law_draw hr (by decide) (by rfl) (pa_cons (pv 0) (pa_cons (pv 2) pa_nil)))) (fun _ _ => rfl))))))))), rd_law_letters h⟩), g, F.kp, b⟩
theorem sc_law_thing : FnScope ["draws", "deep", "kind", "some", "k"] ["draws", "deep"] (defScope s_law_thing) := ⟨rfl, rfl, rfl, by decide +kernel, rfl, by decide +kernel, by decide +kernel⟩
theorem ok_law_thing {n lv : Nat} (hlv : 2 ≤ lv) {f : Addr} {fd : FuncData} (F : L2.Fun K "_law_thing" "_law_thing" s_law_thing f fd) (g : mg "_law_thing" = some (.ref f)) (b : Binds K fd ["draws", "deep"] []) (B : Bl mg) (X : Xf K mg c) (c_law_draw : Cal P w K mg base 1 "_law_draw" (sp_law_draw K)) (c_law_letters : Cal P w K mg base 2 "_law_letters" (sp_law_letters K)) (c_law_thing : Cal P w K mg base lv "_law_thing" (sp_law_thing K n)) : Cal P w K mg base (lv + 1) "_law_thing" (sp_law_thing K (n + 1)) :=
  ⟨f, fd, ["draws", "deep"], F.ok sc_law_thing (fun vs H Q E h => ln_law_thing h) (fun cdv A outer s H vs Q E hr h => have hu := hu_of hr; ⟨t_law_thing K n, (pss_cons (ps_set (i := 2) sc_law_thing.nd rfl (Or.inl rfl) (pe_cal c_law_draw hr (by omega) (by rfl) (pa_cons (pv 0) (pa_cons pe_int pa_nil))))
      (pss_cons (ps_if (pt_cmpR op_lt (pv 2) pe_int (nomark _)) (pss_one (ps_ret (pe_ix ix_list (pe_lst (pa_cons (pe_op op_sub (pe_cal c_law_draw hr (by omega) (by rfl) (pa_cons (pv 0) (pa_cons pe_int pa_nil))) pe_int) (pa_cons (pe_op op_sub pe_int (pe_op op_pow pe_int pe_int)) (pa_cons (pe_cal c_law_draw hr (by omega) (by rfl) (pa_cons (pv 0) (pa_cons (pe_op op_pow pe_int pe_int) pa_nil))) pa_nil)))) (pv 2) (fun _ _ => rfl)))) pss_nil)
      (pss_cons (ps_if (pt_cmpR op_lt (pv 2) pe_int (nomark _)) (pss_one (ps_ret (pe_ix ix_list (pe_lst (pa_cons pe_bl (pa_cons pe_bl (pa_cons pe_non pa_nil)))) (pe_op op_sub (pv 2) pe_int) (fun _ _ => rfl)))) pss_nil)
      (pss_cons (ps_if (pt_cmpR op_lt (pv 2) pe_int (nomark _)) (pss_one (ps_ret (pe_cal c_law_letters hr (by omega) (by rfl) (pa_cons (pv 0) (pa_cons (pe_cal c_law_draw hr (by omega) (by rfl) (pa_cons (pv 0) (pa_cons pe_int pa_nil))) (pa_cons pe_int pa_nil)))))) pss_nil)
      (pss_cons (ps_setLc (i := 3) (own := [("k", 4)]) (g := (gName 4)) (tt := tYes) (by rfl) sc_law_thing.nd rfl rfl (sw_true rfl rfl rfl (by decide +kernel)) (pi_range1 rfl B.range (pa_cons (pe_op op_mulW (pe_cal c_law_draw hr (by omega) (by rfl) (pa_cons (pv 0) (pa_cons pe_int pa_nil))) (pe_callTy call_int1 (by rfl) B.int (by decide +kernel) (pa_cons (pe_cmpR op_gt (pv 1) pe_int (nomark _)) pa_nil))) pa_nil)) (blkOk_by (own := [("k", 4)]) (N := ["draws", "deep", "kind", "some", "k"]) (sc := defScope s_law_thing) (by decide +kernel)) (fun _ _ _ _ _ => (pg_name (i := 4) sc_law_thing.nd rfl (Or.inl rfl))) (fun _ _ _ _ _ => pts_nil) (fun _ _ _ _ _ => (pe_cal c_law_thing hr (Nat.le_refl _) (by rfl) (pa_cons (pv 0) (pa_cons (pe_op op_sub (pv 1) pe_int) pa_nil)))))
      (pss_one (ps_ret (pe_ifExp (pt_cmpR op_eq (pv 2) pe_int (nomark _)) (pv 3) (pe_callTy call_tuple_of (by rfl) B.tuple (by decide +kernel) (pa_cons (pv 3) pa_nil)))))))))), rd_law_thing h⟩), g, F.kp, b⟩
theorem sc_law_bent : FnScope ["text", "draws", "signs", "way", "sign", "at"] ["text", "draws"] (defScope s_law_bent) := ⟨rfl, rfl, rfl, by decide +kernel, rfl, by decide +kernel, by decide +kernel⟩
theorem ok_law_bent {f : Addr} {fd : FuncData} (F : L2.Fun K "_law_bent" "_law_bent" s_law_bent f fd) (g : mg "_law_bent" = some (.ref f)) (b : Binds K fd ["text", "draws"] []) (B : Bl mg) (X : Xf K mg c) (c_law_draw : Cal P w K mg base 1 "_law_draw" (sp_law_draw K)) : Cal P w K mg base 2 "_law_bent" (sp_law_bent K) :=
  ⟨f, fd, ["text", "draws"], F.ok sc_law_bent (fun vs H Q E h => ln_law_bent h) (fun cdv A outer s H vs Q E hr h => have hu := hu_of hr; ⟨t_law_bent K, (pss_cons (ps_set (i := 2) sc_law_bent.nd rfl (Or.inl rfl) pe_str)
      (pss_cons (ps_set (i := 2) sc_law_bent.nd rfl (Or.inl rfl) (pe_op op_add_str (pv 2) pe_str))
      (pss_cons (ps_set (i := 3) sc_law_bent.nd rfl (Or.inl rfl) (pe_cal c_law_draw hr (by decide) (by rfl) (pa_cons (pv 1) (pa_cons pe_int pa_nil))))
      (pss_cons (ps_set (i := 4) sc_law_bent.nd rfl (Or.inl rfl) (pe_ix ix_list (pe_lst (pa_cons (pe_ix ix_str (pv 2) (pe_cal c_law_draw hr (by decide) (by rfl) (pa_cons (pv 1) (pa_cons (pe_callB call_len_str (by rfl) B.len (by decide +kernel) (pa_cons (pv 2) pa_nil)) pa_nil))) (fun _ _ => rfl)) (pa_cons (pe_ix ix_str pe_str (pe_cal c_law_draw hr (by decide) (by rfl) (pa_cons (pv 1) (pa_cons pe_int pa_nil))) (fun _ _ => rfl)) pa_nil))) (pe_cal c_law_draw hr (by decide) (by rfl) (pa_cons (pv 1) (pa_cons pe_int pa_nil))) (fun _ _ => rfl)))
      (pss_cons (ps_set (i := 5) sc_law_bent.nd rfl (Or.inl rfl) (pe_cal c_law_draw hr (by decide) (by rfl) (pa_cons (pv 1) (pa_cons (pe_op op_add (pe_callB call_len_str (by rfl) B.len (by decide +kernel) (pa_cons (pv 0) pa_nil)) pe_int) pa_nil))))
      (pss_cons (ps_if (pt_cmpR op_lt (pv 3) pe_int (nomark _)) (pss_one (ps_ret (pe_op op_add_str (pe_op op_add_str (pe_slice sl_str (pv 0) po_none (po_some (pv 5))) (pv 4)) (pe_slice sl_str (pv 0) (po_some (pe_op op_add (pv 5) (pv 3))) po_none)))) pss_nil)
      (pss_cons (ps_if (pt_cmpR op_eq (pv 3) pe_int (nomark _)) (pss_one (ps_ret (pe_op op_add_str (pe_slice sl_str (pv 0) po_none (po_some (pv 5))) (pe_slice sl_str (pv 0) (po_some (pe_op op_add (pv 5) pe_int)) po_none)))) pss_nil)
      (pss_one (ps_ret (pe_op op_add_str (pe_slice sl_str (pv 0) po_none (po_some (pe_op op_add (pv 5) pe_int))) (pe_slice sl_str (pv 0) (po_some (pv 5)) po_none))))))))))), rd_law_bent h⟩), g, F.kp, b⟩
theorem sc_law_is_word : FnScope ["text", "sign"] ["text"] (defScope s_law_is_word) := ⟨rfl, rfl, rfl, by decide +kernel, rfl, by decide +kernel, by decide +kernel⟩
theorem ok_law_is_word {f : Addr} {fd : FuncData} (F : L2.Fun K "_law_is_word" "_law_is_word" s_law_is_word f fd) (g : mg "_law_is_word" = some (.ref f)) (b : Binds K fd ["text"] []) (B : Bl mg) (X : Xf K mg c)  : Cal P w K mg base 1 "_law_is_word" (sp_law_is_word K) :=
  ⟨f, fd, ["text"], F.ok sc_law_is_word (fun vs H Q E h => ln_law_is_word h) (fun cdv A outer s H vs Q E hr h => have hu := hu_of hr; ⟨t_law_is_word K, (pss_one (ps_ret (pe_and (pe_cmpR op_le (pe_callB call_len_str (by rfl) B.len (by decide +kernel) (pa_cons (pv 0) pa_nil)) pe_int (nomark _)) (pe_one (pe_cmpR (op_eqD hr.units) (pe_lc (own := [("sign", 1)]) (g := (gName 1)) (tt := (tTest (tOp rNotInSign (tVar 1) (tC (.str "abcdefghijklmnopqrstuvwxyz"))))) (by rfl) sc_law_is_word.nd (pi_str (pv 0)) (blkOk_by (own := [("sign", 1)]) (N := ["text", "sign"]) (sc := defScope s_law_is_word) (by decide +kernel)) (fun _ _ _ _ _ => (pg_name (i := 1) sc_law_is_word.nd rfl (Or.inl rfl))) (fun _ _ _ _ _ => (pts_one (pt_cmpR op_notIn_sign (pv 1) pe_str rfl))) (fun _ _ _ _ _ => (pv 1))) (pe_lst pa_nil) (nomark _)))))), rd_law_is_word h⟩), g, F.kp, b⟩
theorem sc_are_signs : FnScope ["text", "sign"] ["text"] (defScope s_are_signs) := ⟨rfl, rfl, rfl, by decide +kernel, rfl, by decide +kernel, by decide +kernel⟩
theorem ok_are_signs {f : Addr} {fd : FuncData} (F : L2.Fun K "are_signs" "are_signs" s_are_signs f fd) (g : mg "are_signs" = some (.ref f)) (b : Binds K fd ["text"] []) (B : Bl mg) (X : Xf K mg c)  : Cal P w K mg base 1 "are_signs" (sp_are_signs K) :=
  ⟨f, fd, ["text"], F.ok sc_are_signs (fun vs H Q E h => ln_are_signs h) (fun cdv A outer s H vs Q E hr h => have hu := hu_of hr; ⟨t_are_signs K, (pss_cons (ps_for PassesOwn.never rfl (pi_str (pv 0)) (pg_name (i := 1) sc_are_signs.nd rfl (Or.inl rfl))
      (pss_one (ps_if (pt_cmpR op_notIn_sign (pv 1) (pe_gc (by rfl) B.c_LETTERS) rfl) (pss_one (ps_ret pe_bl)) pss_nil)))
      (pss_one (ps_ret pe_bl))), rd_are_signs h⟩), g, F.kp, b⟩
theorem sc_is_word : FnScope ["thing"] ["thing"] (defScope s_is_word) := ⟨rfl, rfl, rfl, by decide +kernel, rfl, by decide +kernel, by decide +kernel⟩
theorem ok_is_word {f : Addr} {fd : FuncData} (F : L2.Fun K "is_word" "is_word" s_is_word f fd) (g : mg "is_word" = some (.ref f)) (b : Binds K fd ["thing"] []) (B : Bl mg) (X : Xf K mg c) (c_are_signs : Cal P w K mg base 1 "are_signs" (sp_are_signs K)) : Cal P w K mg base 2 "is_word" (sp_is_word K) :=
  ⟨f, fd, ["thing"], F.ok sc_is_word (fun vs H Q E h => ln_is_word h) (fun cdv A outer s H vs Q E hr h => have hu := hu_of hr; ⟨t_is_word K, (pss_one (ps_ret (pe_and (pe_callB call_isi (by rfl) B.isinstance (by decide +kernel) (pa_cons (pv 0) (pa_cons (pe_bltn (v := .ty "str") (by rfl) B.str (by decide +kernel) rfl) pa_nil))) (pe_and (pe_cmpR op_le (pe_callB call_len_str (by rfl) B.len (by decide +kernel) (pa_cons (pv 0) pa_nil)) (pe_gc (by rfl) B.c_MOST_SIGNS) (nomark _)) (pe_one (pe_cal c_are_signs hr (by decide) (by rfl) (pa_cons (pv 0) pa_nil))))))), rd_is_word h⟩), g, F.kp, b⟩
theorem sc_is_wheel : FnScope ["thing"] ["thing"] (defScope s_is_wheel) := ⟨rfl, rfl, rfl, by decide +kernel, rfl, by decide +kernel, by decide +kernel⟩
theorem ok_is_wheel {f : Addr} {fd : FuncData} (F : L2.Fun K "is_wheel" "is_wheel" s_is_wheel f fd) (g : mg "is_wheel" = some (.ref f)) (b : Binds K fd ["thing"] []) (B : Bl mg) (X : Xf K mg c) (c_is_word : Cal P w K mg base 2 "is_word" (sp_is_word K)) : Cal P w K mg base 3 "is_wheel" (sp_is_wheel K) :=
  ⟨f, fd, ["thing"], F.ok sc_is_wheel (fun vs H Q E h => ln_is_wheel h) (fun cdv A outer s H vs Q E hr h => have hu := hu_of hr; ⟨t_is_wheel K, (pss_one (ps_ret (pe_and (pe_cal c_is_word hr (by decide) (by rfl) (pa_cons (pv 0) pa_nil)) (pe_one (pe_chain op_le op_le pe_int (pe_callB call_len_str (by rfl) B.len (by decide +kernel) (pa_cons (pv 0) pa_nil)) (pe_gc (by rfl) B.c_MOST_PLACES)))))), rd_is_wheel h⟩), g, F.kp, b⟩
theorem sc_look_at_wheel : FnScope ["wheel"] ["wheel"] (defScope s_look_at_wheel) := ⟨rfl, rfl, rfl, by decide +kernel, rfl, by decide +kernel, by decide +kernel⟩
theorem okx_look_at_wheel {f : Addr} {fd : FuncData} (F : L2.Fun K "look_at_wheel" "look_at_wheel" s_look_at_wheel f fd) (g : mg "look_at_wheel" = some (.ref f)) (b : Binds K fd ["wheel"] []) (B : Bl mg) (X : Xf K mg c) (c_is_wheel : Cal P w K mg base 3 "is_wheel" (sp_is_wheel K)) : CalX P w K mg base 4 "look_at_wheel" (spx_look_at_wheel K c) :=
  ⟨f, fd, ["wheel"], okN F sc_look_at_wheel (fun vs H Q E h => lnx_look_at_wheel h) (fun cdv A outer s H vs Q E hr h => have hu := hu_of hr; ⟨tx_look_at_wheel K c E, (pss_one (ps_if (pt_not (pt_val (pe_cal c_is_wheel hr (by decide) (by rfl) (pa_cons (pv 0) pa_nil)))) (pss_one (L2N.ps_raise rfl (L2N.takes_of rfl rfl rfl rfl) (L2N.pmk_own PySem.F.excBase_ValueError X.x_NoWheel X.g_NoWheel X.k_NoWheel (raises_own X.b_NoWheel X.t_NoWheel) (by exact rfl)))) pss_nil)), rdx_look_at_wheel h⟩), g, F.kp, b⟩
theorem sc_places_of : FnScope ["wheel", "sign", "place"] ["wheel", "sign"] (defScope s_places_of) := ⟨rfl, rfl, rfl, by decide +kernel, rfl, by decide +kernel, by decide +kernel⟩
theorem okx_places_of {f : Addr} {fd : FuncData} (F : L2.Fun K "places_of" "places_of" s_places_of f fd) (g : mg "places_of" = some (.ref f)) (b : Binds K fd ["wheel", "sign"] []) (B : Bl mg) (X : Xf K mg c) (cx_look_at_wheel : CalX P w K mg base 4 "look_at_wheel" (spx_look_at_wheel K c)) : CalX P w K mg base 5 "places_of" (spx_places_of K c) :=
  ⟨f, fd, ["wheel", "sign"], okN F sc_places_of (fun vs H Q E h => lnx_places_of h) (fun cdv A outer s H vs Q E hr h => have hu := hu_of hr; ⟨tx_places_of K c E, (pss_cons (ps_expr (pe_calX cx_look_at_wheel hr (by decide) (by rfl) passX (pa_cons (pv 0) pa_nil)))
      (pss_one (ps_ret (pe_lc (own := [("place", 2)]) (g := (gName 2)) (tt := (tTest (tOp rEq (tOp rIxS (tVar 0) (tVar 2)) (tVar 1)))) (by rfl) sc_places_of.nd (pi_range1 rfl B.range (pa_cons (pe_callB call_len_str (by rfl) B.len (by decide +kernel) (pa_cons (pv 0) pa_nil)) pa_nil)) (blkOk_by (own := [("place", 2)]) (N := ["wheel", "sign", "place"]) (sc := defScope s_places_of) (by decide +kernel)) (fun _ _ _ _ _ => (pg_name (i := 2) sc_places_of.nd rfl (Or.inl rfl))) (fun _ _ _ _ _ => (pts_one (pt_cmpR op_eq (pe_ix ix_str (pv 0) (pv 2) (fun _ _ => rfl)) (pv 1) (nomark _)))) (fun _ _ _ _ _ => (pv 2)))))), rdx_places_of h⟩), g, F.kp, b⟩
theorem sc_law_kind : FnScope ["e", "some", "names", "k"] ["e"] (defScope s_law_kind) := ⟨rfl, rfl, rfl, by decide +kernel, rfl, by decide +kernel, by decide +kernel⟩
theorem okh_law_kind {f : Addr} {fd : FuncData} (F : L2.Fun K "_law_kind" "_law_kind" s_law_kind f fd) (g : mg "_law_kind" = some (.ref f)) (b : Binds K fd ["e"] []) (B : Bl mg) (X : Xf K mg c)  : CalE P w K mg base 1 "_law_kind" (sp_law_kind K c) := by
  refine calE F g b sc_law_kind fun cdv A outer s H Q q cls d hq hz hr hsp => ?_
  obtain ⟨rfl, D, j, rfl, cau, hj, hQ⟩ := hsp
  obtain ⟨a, oe⟩ := q
  have hf : ∃ vs, oe.data = .fields vs := let ⟨_, vs, e, _⟩ := hq; ⟨vs, e⟩
  have hot : L2H.HotC (L2H.cxH CX0 P w K mg base ["e", "some", "names", "k"] "_law_kind" (defScope s_law_kind) f cdv A outer s H E0 (a, oe)) := ⟨(a, oe), hq, List.mem_singleton.mpr rfl⟩
  have hm : (a, oe) ∈ (L2H.cxH CX0 P w K mg base ["e", "some", "names", "k"] "_law_kind" (defScope s_law_kind) f cdv A outer s H E0 (a, oe)).pn := List.mem_singleton.mpr rfl
  exact ⟨t_law_kind K c D a, (pss_cons (ps_set (i := 1) sc_law_kind.nd rfl (Or.inr rfl) (pe_lst (pa_cons (pe_callB (call_isP cau.ex hz hf hm) (by rfl) B.isinstance (by decide +kernel) (pa_cons (pv 0) (pa_cons (pe_gc (v := .ref c.Lacks) (by rfl) ⟨_, X.g_Lacks, rfl⟩) pa_nil))) (pa_cons (pe_callB (call_isP cau.ex hz hf hm) (by rfl) B.isinstance (by decide +kernel) (pa_cons (pv 0) (pa_cons (pe_gc (v := .ref c.NoBank) (by rfl) ⟨_, X.g_NoBank, rfl⟩) pa_nil))) (pa_cons (pe_callB (call_isP cau.ex hz hf hm) (by rfl) B.isinstance (by decide +kernel) (pa_cons (pv 0) (pa_cons (pe_gc (v := .ref c.NoBook) (by rfl) ⟨_, X.g_NoBook, rfl⟩) pa_nil))) (pa_cons (pe_callB (call_isP cau.ex hz hf hm) (by rfl) B.isinstance (by decide +kernel) (pa_cons (pv 0) (pa_cons (pe_gc (v := .ref c.NoDeed) (by rfl) ⟨_, X.g_NoDeed, rfl⟩) pa_nil))) pa_nil))))))
      (pss_cons (ps_set (i := 1) sc_law_kind.nd rfl (Or.inr rfl) (pe_op op_cat (pv 1) (pe_lst (pa_cons (pe_callB (call_isP cau.ex hz hf hm) (by rfl) B.isinstance (by decide +kernel) (pa_cons (pv 0) (pa_cons (pe_gc (v := .ref c.NoName) (by rfl) ⟨_, X.g_NoName, rfl⟩) pa_nil))) (pa_cons (pe_callB (call_isP cau.ex hz hf hm) (by rfl) B.isinstance (by decide +kernel) (pa_cons (pv 0) (pa_cons (pe_gc (v := .ref c.NoOrder) (by rfl) ⟨_, X.g_NoOrder, rfl⟩) pa_nil))) (pa_cons (pe_callB (call_isP cau.ex hz hf hm) (by rfl) B.isinstance (by decide +kernel) (pa_cons (pv 0) (pa_cons (pe_gc (v := .ref c.NoPlace) (by rfl) ⟨_, X.g_NoPlace, rfl⟩) pa_nil))) (pa_cons (pe_callB (call_isP cau.ex hz hf hm) (by rfl) B.isinstance (by decide +kernel) (pa_cons (pv 0) (pa_cons (pe_gc (v := .ref c.NoRow) (by rfl) ⟨_, X.g_NoRow, rfl⟩) pa_nil))) pa_nil)))))))
      (pss_cons (ps_set (i := 1) sc_law_kind.nd rfl (Or.inr rfl) (pe_op op_cat (pv 1) (pe_lst (pa_cons (pe_callB (call_isP cau.ex hz hf hm) (by rfl) B.isinstance (by decide +kernel) (pa_cons (pv 0) (pa_cons (pe_gc (v := .ref c.NoSlack) (by rfl) ⟨_, X.g_NoSlack, rfl⟩) pa_nil))) (pa_cons (pe_callB (call_isP cau.ex hz hf hm) (by rfl) B.isinstance (by decide +kernel) (pa_cons (pv 0) (pa_cons (pe_gc (v := .ref c.NoText) (by rfl) ⟨_, X.g_NoText, rfl⟩) pa_nil))) (pa_cons (pe_callB (call_isP cau.ex hz hf hm) (by rfl) B.isinstance (by decide +kernel) (pa_cons (pv 0) (pa_cons (pe_gc (v := .ref c.NoTurns) (by rfl) ⟨_, X.g_NoTurns, rfl⟩) pa_nil))) (pa_cons (pe_callB (call_isP cau.ex hz hf hm) (by rfl) B.isinstance (by decide +kernel) (pa_cons (pv 0) (pa_cons (pe_gc (v := .ref c.NoWheel) (by rfl) ⟨_, X.g_NoWheel, rfl⟩) pa_nil))) pa_nil)))))))
      (pss_cons (ps_set (i := 1) sc_law_kind.nd rfl (Or.inr rfl) (pe_op op_cat (pv 1) (pe_lst (pa_cons (pe_callB (call_isP cau.ex hz hf hm) (by rfl) B.isinstance (by decide +kernel) (pa_cons (pv 0) (pa_cons (pe_gc (v := .ref c.NoWord) (by rfl) ⟨_, X.g_NoWord, rfl⟩) pa_nil))) (pa_cons (pe_callB (call_isP cau.ex hz hf hm) (by rfl) B.isinstance (by decide +kernel) (pa_cons (pv 0) (pa_cons (pe_gc (v := .ref c.TooMany) (by rfl) ⟨_, X.g_TooMany, rfl⟩) pa_nil))) (pa_cons (pe_callB (call_isP cau.ex hz hf hm) (by rfl) B.isinstance (by decide +kernel) (pa_cons (pv 0) (pa_cons (pe_bltn (v := .ty "ValueError") (by rfl) B.ValueError (by decide +kernel) rfl) pa_nil))) pa_nil))))))
      (pss_cons (ps_set (i := 2) sc_law_kind.nd rfl (Or.inr rfl) (pe_lst (pa_cons pe_str (pa_cons pe_str (pa_cons pe_str (pa_cons pe_str (pa_cons pe_str (pa_cons pe_str (pa_cons pe_str (pa_cons pe_str (pa_cons pe_str (pa_cons pe_str pa_nil))))))))))))
      (pss_cons (ps_set (i := 2) sc_law_kind.nd rfl (Or.inr rfl) (pe_op op_cat (pv 2) (pe_lst (pa_cons pe_str (pa_cons pe_str (pa_cons pe_str (pa_cons pe_str (pa_cons pe_str pa_nil))))))))
      (pss_one (ps_ret (pe_join pe_str (pe_lcH (own := [("k", 3)]) (g := (gName 3)) (tt := (tB (tOp (rIxL K) (tVar 1) (tVar 3)))) hot sc_law_kind.nd (L2H.pi_range1H rfl B.range (pa_cons pe_int pa_nil)) (blkOk_by (own := [("k", 3)]) (N := ["e", "some", "names", "k"]) (sc := defScope s_law_kind) (by decide +kernel)) (fun _ _ _ _ _ _ => (pg_name (i := 3) sc_law_kind.nd rfl (Or.inl rfl))) (fun _ _ _ _ _ _ => (pts_one (pt_val (pe_ix ix_list (pv 1) (pv 3) (fun _ _ => rfl))))) (fun _ _ _ _ _ _ => (pe_ix ix_list (pv 2) (pv 3) (fun _ _ => rfl))))))))))))), rd_law_kind cau hj hQ⟩
theorem sc_law_places : FnScope ["wheel", "sign", "found", "kind", "e"] ["wheel", "sign"] (defScope s_law_places) := ⟨rfl, rfl, rfl, by decide +kernel, rfl, by decide +kernel, by decide +kernel⟩
theorem ok_law_places {f : Addr} {fd : FuncData} (F : L2.Fun K "_law_places" "_law_places" s_law_places f fd) (g : mg "_law_places" = some (.ref f)) (b : Binds K fd ["wheel", "sign"] []) (B : Bl mg) (X : Xf K mg c) (cx_places_of : CalX P w K mg base 5 "places_of" (spx_places_of K c)) (ch_law_kind : CalE P w K mg base 1 "_law_kind" (sp_law_kind K c)) : Cal P w K mg base 6 "_law_places" (sp_law_places K) :=
  ⟨f, fd, ["wheel", "sign"], F.ok sc_law_places (fun vs H Q E h => ln_law_places h) (fun cdv A outer s H vs Q E hr h => have hu := hu_of hr; ⟨t_law_places K c, (pss_cons (ps_set (i := 2) sc_law_places.nd rfl (Or.inl rfl) pe_non)
      (pss_cons (ps_set (i := 3) sc_law_places.nd rfl (Or.inl rfl) pe_str)
      (pss_cons (L2N.ps_try_as (i := 4) (tb := fun W => (tAsg (tCallS (spx_places_of K c) (WE W) (tCons (tVar 0) (tCons (tVar 1) tNil))) (gName 2))) (ts := fun a cls d => (tAsg (tCallE (sp_law_kind K c) a cls d (tVar 4)) (gName 3))) (Wout := fun _ _ _ _ => False) rfl rfl sc_law_places.nd rfl rfl ⟨rfl, by decide, Or.inl X.g_WheelError⟩ takesN0 (fun W pn xe tk _ => (pss_one (ps_set (i := 2) sc_law_places.nd rfl (Or.inl rfl) (pe_calS cx_places_of hr (by decide) (by rfl) tk (pa_cons (pv 0) (pa_cons (pv 1) pa_nil)))))) (fun a oe cls d pn hz hf => (pss_one (ps_set (i := 3) sc_law_places.nd rfl (Or.inl rfl) (pe_calE ch_law_kind hr (by decide) hz hf (by rfl) (pv 4))))))
      (pss_one (ps_ret (pe_tup (pa_cons (pv 2) (pa_cons (pv 3) pa_nil)))))))), rd_law_places X.s h⟩), g, F.kp, b⟩
theorem sc_law_right : FnScope ["thing", "draws", "due", "told", "sign", "k"] ["thing", "draws"] (defScope s_law_right) := ⟨rfl, rfl, rfl, by decide +kernel, rfl, by decide +kernel, by decide +kernel⟩
theorem ok_law_right {f : Addr} {fd : FuncData} (F : L2.Fun K "_law_right" "_law_right" s_law_right f fd) (g : mg "_law_right" = some (.ref f)) (b : Binds K fd ["thing", "draws"] []) (B : Bl mg) (X : Xf K mg c) (c_law_is_word : Cal P w K mg base 1 "_law_is_word" (sp_law_is_word K)) (c_is_word : Cal P w K mg base 2 "is_word" (sp_is_word K)) (c_is_wheel : Cal P w K mg base 3 "is_wheel" (sp_is_wheel K)) (c_law_letters : Cal P w K mg base 2 "_law_letters" (sp_law_letters K)) (c_law_draw : Cal P w K mg base 1 "_law_draw" (sp_law_draw K)) (c_law_places : Cal P w K mg base 6 "_law_places" (sp_law_places K)) : Cal P w K mg base 7 "_law_right" (sp_law_right K) :=
  ⟨f, fd, ["thing", "draws"], F.ok sc_law_right (fun vs H Q E h => ln_law_right h) (fun cdv A outer s H vs Q E hr h => have hu := hu_of hr; ⟨t_law_right K, (pss_cons (ps_set (i := 2) sc_law_right.nd rfl (Or.inl rfl) (pe_and (pe_callB call_isi (by rfl) B.isinstance (by decide +kernel) (pa_cons (pv 0) (pa_cons (pe_bltn (v := .ty "str") (by rfl) B.str (by decide +kernel) rfl) pa_nil))) (pe_one (pe_cal c_law_is_word hr (by decide) (by rfl) (pa_cons (pv 0) pa_nil)))))
      (pss_cons (ps_set (i := 3) sc_law_right.nd rfl (Or.inl rfl) (pe_cal c_is_word hr (by decide) (by rfl) (pa_cons (pv 0) pa_nil)))
      (pss_cons (ps_if (pw_or (pt_not (pt_val (pe_callB call_isi (by rfl) B.isinstance (by decide +kernel) (pa_cons (pv 3) (pa_cons (pe_bltn (v := .ty "bool") (by rfl) B.bool (by decide +kernel) rfl) pa_nil))))) (pw_or1 (pt_cmpR op_ne (pv 3) (pv 2) (nomark _)))).pt (pss_one (ps_ret pe_bl)) pss_nil)
      (pss_cons (ps_set (i := 2) sc_law_right.nd rfl (Or.inl rfl) (pe_and (pv 2) (pe_one (pe_chain op_le op_le pe_int (pe_callB call_len_str (by rfl) B.len (by decide +kernel) (pa_cons (pv 0) pa_nil)) pe_int))))
      (pss_cons (ps_set (i := 3) sc_law_right.nd rfl (Or.inl rfl) (pe_cal c_is_wheel hr (by decide) (by rfl) (pa_cons (pv 0) pa_nil)))
      (pss_cons (ps_if (pw_or (pt_not (pt_val (pe_callB call_isi (by rfl) B.isinstance (by decide +kernel) (pa_cons (pv 3) (pa_cons (pe_bltn (v := .ty "bool") (by rfl) B.bool (by decide +kernel) rfl) pa_nil))))) (pw_or1 (pt_cmpR op_ne (pv 3) (pv 2) (nomark _)))).pt (pss_one (ps_ret pe_bl)) pss_nil)
      (pss_cons (ps_if (pt_not (pt_val (pe_callB call_isi (by rfl) B.isinstance (by decide +kernel) (pa_cons (pv 0) (pa_cons (pe_bltn (v := .ty "str") (by rfl) B.str (by decide +kernel) rfl) pa_nil))))) (pss_one (ps_ret pe_bl)) pss_nil)
      (pss_cons (ps_set (i := 4) sc_law_right.nd rfl (Or.inr rfl) (pe_ix ix_list (pe_lst (pa_cons (pe_cal c_law_letters hr (by decide) (by rfl) (pa_cons (pv 1) (pa_cons pe_int (pa_cons pe_int pa_nil)))) (pa_cons (pe_slice sl_str (pv 0) po_none (po_some pe_int)) (pa_cons (pe_slice sl_str (pv 0) (po_some (pe_un un_neg pe_int)) po_none) (pa_cons pe_str (pa_cons pe_str (pa_cons pe_str pa_nil))))))) (pe_cal c_law_draw hr (by decide) (by rfl) (pa_cons (pv 1) (pa_cons pe_int pa_nil))) (fun _ _ => rfl)))
      (pss_cons (ps_if (pt_not (pt_val (pv 2))) (pss_one (ps_ret (pe_cmpR (op_eqD hr.units) (pe_cal c_law_places hr (by decide) (by rfl) (pa_cons (pv 0) (pa_cons (pv 4) pa_nil))) (pe_tup (pa_cons pe_non (pa_cons pe_str pa_nil))) (nomark _)))) pss_nil)
      (pss_one (ps_ret (pe_cmpR (op_eqD hr.units) (pe_cal c_law_places hr (by decide) (by rfl) (pa_cons (pv 0) (pa_cons (pv 4) pa_nil))) (pe_tup (pa_cons (pe_lc (own := [("k", 5)]) (g := (gName 5)) (tt := (tTest (tOp rEq (tOp rIxS (tVar 0) (tVar 5)) (tVar 4)))) (by rfl) sc_law_right.nd (pi_range1 rfl B.range (pa_cons (pe_callB call_len_str (by rfl) B.len (by decide +kernel) (pa_cons (pv 0) pa_nil)) pa_nil)) (blkOk_by (own := [("k", 5)]) (N := ["thing", "draws", "due", "told", "sign", "k"]) (sc := defScope s_law_right) (by decide +kernel)) (fun _ _ _ _ _ => (pg_name (i := 5) sc_law_right.nd rfl (Or.inl rfl))) (fun _ _ _ _ _ => (pts_one (pt_cmpR op_eq (pe_ix ix_str (pv 0) (pv 5) (fun _ _ => rfl)) (pv 4) (nomark _)))) (fun _ _ _ _ _ => (pv 5))) (pa_cons pe_str pa_nil))) (nomark _))))))))))))), rd_law_right h⟩), g, F.kp, b⟩
theorem sc_law : FnScope ["script", "k", "draws", "way", "thing", "many", "turn"] ["script"] (defScope s_law) := ⟨rfl, rfl, rfl, by decide +kernel, rfl, by decide +kernel, by decide +kernel⟩
theorem ok_law {f : Addr} {fd : FuncData} (F : L2.Fun K "law" "law" s_law f fd) (B : Bl mg) (X : Xf K mg c) (c_law_draws : Cal P w K mg base 1 "_law_draws" (sp_law_draws K)) (c_law_draw : Cal P w K mg base 1 "_law_draw" (sp_law_draw K)) (c_law_thing : Cal P w K mg base 6 "_law_thing" (sp_law_thing K 4)) (c_law_letters : Cal P w K mg base 2 "_law_letters" (sp_law_letters K)) (c_law_bent : Cal P w K mg base 2 "_law_bent" (sp_law_bent K)) (c_law_right : Cal P w K mg base 7 "_law_right" (sp_law_right K)) : FnOk P w K mg base CX0 8 f fd ["script"] (sp_law K) :=
  F.ok sc_law (fun vs H Q E h => ln_law h) (fun cdv A outer s H vs Q E hr h => have hu := hu_of hr; ⟨t_law K, (pss_cons (ps_for PassesOwn.never rfl (pi_range1 rfl B.range (pa_cons (pe_callB (call_max2 rfl) (by rfl) B.max (by decide +kernel) (pa_cons pe_int (pa_cons (pe_callB (call_min2 rfl) (by rfl) B.min (by decide +kernel) (pa_cons pe_int (pa_cons (pe_callB call_len_seq (by rfl) B.len (by decide +kernel) (pa_cons (pv 0) pa_nil)) pa_nil))) pa_nil))) pa_nil)) (pg_name (i := 1) sc_law.nd rfl (Or.inl rfl))
      (pss_cons (ps_set (i := 2) sc_law.nd rfl (Or.inl rfl) (pe_cal c_law_draws hr (by decide) (by rfl) (pa_cons (pv 0) (pa_cons (pv 1) pa_nil))))
      (pss_cons (ps_set (i := 3) sc_law.nd rfl (Or.inl rfl) (pe_cal c_law_draw hr (by decide) (by rfl) (pa_cons (pv 2) (pa_cons pe_int pa_nil))))
      (pss_cons (ps_if (pt_cmpR op_eq (pv 3) pe_int (nomark _)) (pss_one (ps_set (i := 4) sc_law.nd rfl (Or.inl rfl) (pe_cal c_law_thing hr (by decide) (by rfl) (pa_cons (pv 2) (pa_cons pe_int pa_nil))))) (pss_cons (ps_set (i := 5) sc_law.nd rfl (Or.inl rfl) (pe_lst (pa_cons (pe_cal c_law_draw hr (by decide) (by rfl) (pa_cons (pv 2) (pa_cons pe_int pa_nil))) (pa_cons (pe_op op_add pe_int (pe_cal c_law_draw hr (by decide) (by rfl) (pa_cons (pv 2) (pa_cons pe_int pa_nil)))) (pa_cons (pe_op op_add pe_int (pe_cal c_law_draw hr (by decide) (by rfl) (pa_cons (pv 2) (pa_cons pe_int pa_nil)))) (pa_cons (pe_cal c_law_draw hr (by decide) (by rfl) (pa_cons (pv 2) (pa_cons pe_int pa_nil))) pa_nil))))))
      (pss_cons (ps_set (i := 4) sc_law.nd rfl (Or.inl rfl) (pe_cal c_law_letters hr (by decide) (by rfl) (pa_cons (pv 2) (pa_cons (pe_ix ix_list (pv 5) (pe_cal c_law_draw hr (by decide) (by rfl) (pa_cons (pv 2) (pa_cons pe_int pa_nil))) (fun _ _ => rfl)) (pa_cons (pe_op op_add pe_int (pe_cal c_law_draw hr (by decide) (by rfl) (pa_cons (pv 2) (pa_cons pe_int pa_nil)))) pa_nil)))))
      (pss_one (ps_for PassesOwn.never rfl (pi_range1 rfl B.range (pa_cons (pe_op op_sub (pv 3) pe_int) pa_nil)) (pg_name (i := 6) sc_law.nd rfl (Or.inl rfl))
      (pss_one (ps_set (i := 4) sc_law.nd rfl (Or.inl rfl) (pe_cal c_law_bent hr (by decide) (by rfl) (pa_cons (pv 4) (pa_cons (pv 2) pa_nil))))))))))
      (pss_one (ps_if (pt_not (pt_val (pe_cal c_law_right hr (by decide) (by rfl) (pa_cons (pv 4) (pa_cons (pv 2) pa_nil))))) (pss_one (ps_ret pe_bl)) pss_nil))))))
      (pss_one (ps_ret pe_bl))), rd_law h⟩)
end
theorem all_mk {l : PySem.W.OpenLaw} {w : World} {K : PySem.W.Frag} {h : Heap} {mg : Str → Option Value} {fa : Addr} (Xk : K.In h) (G : h.Ns mainGlobals mg) (hfa : mg "law" = some (.ref fa))
    {f0 : Addr} {od0 an0 : Option Addr} {sl0 : Array (Option Value)} {oc0 kV0 dc0 pm0 cd0 ct0 : Value}
    {f1 : Addr} {od1 an1 : Option Addr} {sl1 : Array (Option Value)} {oc1 kV1 dc1 pm1 cd1 ct1 : Value}
    {f2 : Addr} {od2 an2 : Option Addr} {sl2 : Array (Option Value)} {oc2 kV2 dc2 pm2 cd2 ct2 : Value}
    {f3 : Addr} {od3 an3 : Option Addr} {sl3 : Array (Option Value)} {oc3 kV3 dc3 pm3 cd3 ct3 : Value}
    {f4 : Addr} {od4 an4 : Option Addr} {sl4 : Array (Option Value)} {oc4 kV4 dc4 pm4 cd4 ct4 : Value}
    {f5 : Addr} {od5 an5 : Option Addr} {sl5 : Array (Option Value)} {oc5 kV5 dc5 pm5 cd5 ct5 : Value}
    {f6 : Addr} {od6 an6 : Option Addr} {sl6 : Array (Option Value)} {oc6 kV6 dc6 pm6 cd6 ct6 : Value}
    {f7 : Addr} {od7 an7 : Option Addr} {sl7 : Array (Option Value)} {oc7 kV7 dc7 pm7 cd7 ct7 : Value}
    {f8 : Addr} {od8 an8 : Option Addr} {sl8 : Array (Option Value)} {oc8 kV8 dc8 pm8 cd8 ct8 : Value}
    {f9 : Addr} {od9 an9 : Option Addr} {sl9 : Array (Option Value)} {oc9 kV9 dc9 pm9 cd9 ct9 : Value}
    {f10 : Addr} {od10 an10 : Option Addr} {sl10 : Array (Option Value)} {oc10 kV10 dc10 pm10 cd10 ct10 : Value}
    {f11 : Addr} {od11 an11 : Option Addr} {sl11 : Array (Option Value)} {oc11 kV11 dc11 pm11 cd11 ct11 : Value}
    {f12 : Addr} {od12 an12 : Option Addr} {sl12 : Array (Option Value)} {oc12 kV12 dc12 pm12 cd12 ct12 : Value}
    {f13 : Addr} {od13 an13 : Option Addr} {sl13 : Array (Option Value)} {oc13 kV13 dc13 pm13 cd13 ct13 : Value}
    {f14 : Addr} {od14 an14 : Option Addr} {sl14 : Array (Option Value)} {oc14 kV14 dc14 pm14 cd14 ct14 : Value}
    {t_LETTERS : Tok}
    {t_MOST_PLACES : Tok}
    {t_MOST_SIGNS : Tok}
    {C_Lacks C_NoBank C_NoBook C_NoDeed C_NoName C_NoOrder C_NoPlace C_NoRow C_NoSlack C_NoText C_NoTurns C_NoWheel C_NoWord C_TooMany C_WheelError : Addr}
    (a0 : PySem.W.nsIn K mainGlobals "_law_draws" = some (some (.ref f0))) (l0 : K.lookup f0 = some ⟨oc0, od0, .func (PySem.W.fnOf "_law_draws" "_law_draws" (defArgs s_law_draws) (defBody s_law_draws) (defScope s_law_draws) .none kV0 dc0 pm0 an0 cd0 ct0), sl0⟩) (c0 : PySem.W.codeIn K cd0 "_law_draws" = true) (k0 : PySem.W.keepIn K (.ref f0) = true)
    (a1 : PySem.W.nsIn K mainGlobals "_law_draw" = some (some (.ref f1))) (l1 : K.lookup f1 = some ⟨oc1, od1, .func (PySem.W.fnOf "_law_draw" "_law_draw" (defArgs s_law_draw) (defBody s_law_draw) (defScope s_law_draw) .none kV1 dc1 pm1 an1 cd1 ct1), sl1⟩) (c1 : PySem.W.codeIn K cd1 "_law_draw" = true) (k1 : PySem.W.keepIn K (.ref f1) = true)
    (a2 : PySem.W.nsIn K mainGlobals "_law_letters" = some (some (.ref f2))) (l2 : K.lookup f2 = some ⟨oc2, od2, .func (PySem.W.fnOf "_law_letters" "_law_letters" (defArgs s_law_letters) (defBody s_law_letters) (defScope s_law_letters) .none kV2 dc2 pm2 an2 cd2 ct2), sl2⟩) (c2 : PySem.W.codeIn K cd2 "_law_letters" = true) (k2 : PySem.W.keepIn K (.ref f2) = true)
    (a3 : PySem.W.nsIn K mainGlobals "_law_thing" = some (some (.ref f3))) (l3 : K.lookup f3 = some ⟨oc3, od3, .func (PySem.W.fnOf "_law_thing" "_law_thing" (defArgs s_law_thing) (defBody s_law_thing) (defScope s_law_thing) .none kV3 dc3 pm3 an3 cd3 ct3), sl3⟩) (c3 : PySem.W.codeIn K cd3 "_law_thing" = true) (k3 : PySem.W.keepIn K (.ref f3) = true)
    (a4 : PySem.W.nsIn K mainGlobals "_law_bent" = some (some (.ref f4))) (l4 : K.lookup f4 = some ⟨oc4, od4, .func (PySem.W.fnOf "_law_bent" "_law_bent" (defArgs s_law_bent) (defBody s_law_bent) (defScope s_law_bent) .none kV4 dc4 pm4 an4 cd4 ct4), sl4⟩) (c4 : PySem.W.codeIn K cd4 "_law_bent" = true) (k4 : PySem.W.keepIn K (.ref f4) = true)
    (a5 : PySem.W.nsIn K mainGlobals "_law_is_word" = some (some (.ref f5))) (l5 : K.lookup f5 = some ⟨oc5, od5, .func (PySem.W.fnOf "_law_is_word" "_law_is_word" (defArgs s_law_is_word) (defBody s_law_is_word) (defScope s_law_is_word) .none kV5 dc5 pm5 an5 cd5 ct5), sl5⟩) (c5 : PySem.W.codeIn K cd5 "_law_is_word" = true) (k5 : PySem.W.keepIn K (.ref f5) = true)
    (a6 : PySem.W.nsIn K mainGlobals "are_signs" = some (some (.ref f6))) (l6 : K.lookup f6 = some ⟨oc6, od6, .func (PySem.W.fnOf "are_signs" "are_signs" (defArgs s_are_signs) (defBody s_are_signs) (defScope s_are_signs) .none kV6 dc6 pm6 an6 cd6 ct6), sl6⟩) (c6 : PySem.W.codeIn K cd6 "are_signs" = true) (k6 : PySem.W.keepIn K (.ref f6) = true)
    (a7 : PySem.W.nsIn K mainGlobals "is_word" = some (some (.ref f7))) (l7 : K.lookup f7 = some ⟨oc7, od7, .func (PySem.W.fnOf "is_word" "is_word" (defArgs s_is_word) (defBody s_is_word) (defScope s_is_word) .none kV7 dc7 pm7 an7 cd7 ct7), sl7⟩) (c7 : PySem.W.codeIn K cd7 "is_word" = true) (k7 : PySem.W.keepIn K (.ref f7) = true)
    (a8 : PySem.W.nsIn K mainGlobals "is_wheel" = some (some (.ref f8))) (l8 : K.lookup f8 = some ⟨oc8, od8, .func (PySem.W.fnOf "is_wheel" "is_wheel" (defArgs s_is_wheel) (defBody s_is_wheel) (defScope s_is_wheel) .none kV8 dc8 pm8 an8 cd8 ct8), sl8⟩) (c8 : PySem.W.codeIn K cd8 "is_wheel" = true) (k8 : PySem.W.keepIn K (.ref f8) = true)
    (a9 : PySem.W.nsIn K mainGlobals "look_at_wheel" = some (some (.ref f9))) (l9 : K.lookup f9 = some ⟨oc9, od9, .func (PySem.W.fnOf "look_at_wheel" "look_at_wheel" (defArgs s_look_at_wheel) (defBody s_look_at_wheel) (defScope s_look_at_wheel) .none kV9 dc9 pm9 an9 cd9 ct9), sl9⟩) (c9 : PySem.W.codeIn K cd9 "look_at_wheel" = true) (k9 : PySem.W.keepIn K (.ref f9) = true)
    (a10 : PySem.W.nsIn K mainGlobals "places_of" = some (some (.ref f10))) (l10 : K.lookup f10 = some ⟨oc10, od10, .func (PySem.W.fnOf "places_of" "places_of" (defArgs s_places_of) (defBody s_places_of) (defScope s_places_of) .none kV10 dc10 pm10 an10 cd10 ct10), sl10⟩) (c10 : PySem.W.codeIn K cd10 "places_of" = true) (k10 : PySem.W.keepIn K (.ref f10) = true)
    (a11 : PySem.W.nsIn K mainGlobals "_law_kind" = some (some (.ref f11))) (l11 : K.lookup f11 = some ⟨oc11, od11, .func (PySem.W.fnOf "_law_kind" "_law_kind" (defArgs s_law_kind) (defBody s_law_kind) (defScope s_law_kind) .none kV11 dc11 pm11 an11 cd11 ct11), sl11⟩) (c11 : PySem.W.codeIn K cd11 "_law_kind" = true) (k11 : PySem.W.keepIn K (.ref f11) = true)
    (a12 : PySem.W.nsIn K mainGlobals "_law_places" = some (some (.ref f12))) (l12 : K.lookup f12 = some ⟨oc12, od12, .func (PySem.W.fnOf "_law_places" "_law_places" (defArgs s_law_places) (defBody s_law_places) (defScope s_law_places) .none kV12 dc12 pm12 an12 cd12 ct12), sl12⟩) (c12 : PySem.W.codeIn K cd12 "_law_places" = true) (k12 : PySem.W.keepIn K (.ref f12) = true)
    (a13 : PySem.W.nsIn K mainGlobals "_law_right" = some (some (.ref f13))) (l13 : K.lookup f13 = some ⟨oc13, od13, .func (PySem.W.fnOf "_law_right" "_law_right" (defArgs s_law_right) (defBody s_law_right) (defScope s_law_right) .none kV13 dc13 pm13 an13 cd13 ct13), sl13⟩) (c13 : PySem.W.codeIn K cd13 "_law_right" = true) (k13 : PySem.W.keepIn K (.ref f13) = true)
    (a14 : PySem.W.nsIn K mainGlobals "law" = some (some (.ref f14))) (l14 : K.lookup f14 = some ⟨oc14, od14, .func (PySem.W.fnOf "law" "law" (defArgs s_law) (defBody s_law) (defScope s_law) .none kV14 dc14 pm14 an14 cd14 ct14), sl14⟩) (c14 : PySem.W.codeIn K cd14 "law" = true) (k14 : PySem.W.keepIn K (.ref f14) = true)
    (z_ValueError : PySem.W.nsIn K mainGlobals "ValueError" = some none)
    (z_bool : PySem.W.nsIn K mainGlobals "bool" = some none)
    (z_int : PySem.W.nsIn K mainGlobals "int" = some none)
    (z_isinstance : PySem.W.nsIn K mainGlobals "isinstance" = some none)
    (z_len : PySem.W.nsIn K mainGlobals "len" = some none)
    (z_max : PySem.W.nsIn K mainGlobals "max" = some none)
    (z_min : PySem.W.nsIn K mainGlobals "min" = some none)
    (z_range : PySem.W.nsIn K mainGlobals "range" = some none)
    (z_str : PySem.W.nsIn K mainGlobals "str" = some none)
    (z_tuple : PySem.W.nsIn K mainGlobals "tuple" = some none)
    (g_LETTERS : PySem.W.nsIn K mainGlobals "LETTERS" = some (some (Value.str "abcdefghijklmnopqrstuvwxyz" t_LETTERS)))
    (g_MOST_PLACES : PySem.W.nsIn K mainGlobals "MOST_PLACES" = some (some (Value.int 30 t_MOST_PLACES)))
    (g_MOST_SIGNS : PySem.W.nsIn K mainGlobals "MOST_SIGNS" = some (some (Value.int 80 t_MOST_SIGNS)))
    (gc_Lacks : PySem.W.nsIn K mainGlobals "Lacks" = some (some (.ref C_Lacks)))
    (gc_NoBank : PySem.W.nsIn K mainGlobals "NoBank" = some (some (.ref C_NoBank)))
    (gc_NoBook : PySem.W.nsIn K mainGlobals "NoBook" = some (some (.ref C_NoBook)))
    (gc_NoDeed : PySem.W.nsIn K mainGlobals "NoDeed" = some (some (.ref C_NoDeed)))
    (gc_NoName : PySem.W.nsIn K mainGlobals "NoName" = some (some (.ref C_NoName)))
    (gc_NoOrder : PySem.W.nsIn K mainGlobals "NoOrder" = some (some (.ref C_NoOrder)))
    (gc_NoPlace : PySem.W.nsIn K mainGlobals "NoPlace" = some (some (.ref C_NoPlace)))
    (gc_NoRow : PySem.W.nsIn K mainGlobals "NoRow" = some (some (.ref C_NoRow)))
    (gc_NoSlack : PySem.W.nsIn K mainGlobals "NoSlack" = some (some (.ref C_NoSlack)))
    (gc_NoText : PySem.W.nsIn K mainGlobals "NoText" = some (some (.ref C_NoText)))
    (gc_NoTurns : PySem.W.nsIn K mainGlobals "NoTurns" = some (some (.ref C_NoTurns)))
    (gc_NoWheel : PySem.W.nsIn K mainGlobals "NoWheel" = some (some (.ref C_NoWheel)))
    (gc_NoWord : PySem.W.nsIn K mainGlobals "NoWord" = some (some (.ref C_NoWord)))
    (gc_TooMany : PySem.W.nsIn K mainGlobals "TooMany" = some (some (.ref C_TooMany)))
    (gc_WheelError : PySem.W.nsIn K mainGlobals "WheelError" = some (some (.ref C_WheelError)))
    (bW : PySem.W.subIn K (.ref C_WheelError) (.type "BaseException") = some true) (dW : PySem.W.hasDictIn K C_WheelError = true) (tW : PySem.W.typeIn K (.ref C_WheelError) = some (.type "type"))
    (hn : PySem.W.specialIn K (.builtin "object.__class__") "__get__" = some (some (.builtin "getset_descriptor.__get__"))) (ht : PySem.W.takesIn K (.builtin "object.__class__") = some true)
    (x_NoWheel : PySem.W.excIn K C_NoWheel [.type "ValueError", .type "Exception", .type "BaseException", .type "object"] "ValueError.__new__" = true)
    (k_NoWheel : PySem.W.keepIn K (.ref C_NoWheel) = true)
    (b_NoWheel : PySem.W.subIn K (.ref C_NoWheel) (.type "BaseException") = some true)
    (t_NoWheel : PySem.W.typeIn K (.ref C_NoWheel) = some (.type "type"))
    (sw_NoWheel : PySem.W.subIn K (.ref C_NoWheel) (.ref C_WheelError) = some true)
    (ga_NoWheel : PySem.W.findIn K (.ref C_NoWheel) "__getattribute__" = some (some (.builtin "BaseException.__getattribute__")))
    (gg_NoWheel : PySem.W.findIn K (.ref C_NoWheel) "__getattr__" = some none)
    (hd_NoWheel : PySem.W.hasDictIn K C_NoWheel = true)
    (cl_NoWheel : PySem.W.findIn K (.ref C_NoWheel) "__class__" = some (some (.builtin "object.__class__")))
    (mo_NoWheel : PySem.W.mroIn K C_NoWheel (.type "object") = some true)
    (q0_NoWheel : PySem.W.kitOne K (.ref C_NoWheel) (.ref C_Lacks) = some false)
    (q1_NoWheel : PySem.W.kitOne K (.ref C_NoWheel) (.ref C_NoBank) = some false)
    (q2_NoWheel : PySem.W.kitOne K (.ref C_NoWheel) (.ref C_NoBook) = some false)
    (q3_NoWheel : PySem.W.kitOne K (.ref C_NoWheel) (.ref C_NoDeed) = some false)
    (q4_NoWheel : PySem.W.kitOne K (.ref C_NoWheel) (.ref C_NoName) = some false)
    (q5_NoWheel : PySem.W.kitOne K (.ref C_NoWheel) (.ref C_NoOrder) = some false)
    (q6_NoWheel : PySem.W.kitOne K (.ref C_NoWheel) (.ref C_NoPlace) = some false)
    (q7_NoWheel : PySem.W.kitOne K (.ref C_NoWheel) (.ref C_NoRow) = some false)
    (q8_NoWheel : PySem.W.kitOne K (.ref C_NoWheel) (.ref C_NoSlack) = some false)
    (q9_NoWheel : PySem.W.kitOne K (.ref C_NoWheel) (.ref C_NoText) = some false)
    (q10_NoWheel : PySem.W.kitOne K (.ref C_NoWheel) (.ref C_NoTurns) = some false)
    (q11_NoWheel : PySem.W.kitOne K (.ref C_NoWheel) (.ref C_NoWheel) = some true)
    (q12_NoWheel : PySem.W.kitOne K (.ref C_NoWheel) (.ref C_NoWord) = some false)
    (q13_NoWheel : PySem.W.kitOne K (.ref C_NoWheel) (.ref C_TooMany) = some false)
    (q14_NoWheel : PySem.W.kitOne K (.ref C_NoWheel) (.type "ValueError") = some true)
    : ∃ fd : FuncData, (∀ (s : Shared) (v : Value), BindsTo s fd ⟨[v], []⟩ [("script", v)]) ∧ ∀ base : Heap, K.In base → base.Ns mainGlobals mg → FnOk l.prog w K mg base CX0 8 fa fd ["script"] (sp_law K) := by
  have e := hfa.symm.trans (PySem.W.mg_of Xk G a14)
  cases e
  have B : Bl mg := ⟨PySem.W.mg_none_of Xk G z_ValueError, PySem.W.mg_none_of Xk G z_bool, PySem.W.mg_none_of Xk G z_int, PySem.W.mg_none_of Xk G z_isinstance, PySem.W.mg_none_of Xk G z_len, PySem.W.mg_none_of Xk G z_max, PySem.W.mg_none_of Xk G z_min, PySem.W.mg_none_of Xk G z_range, PySem.W.mg_none_of Xk G z_str, PySem.W.mg_none_of Xk G z_tuple, ⟨_, PySem.W.mg_of Xk G g_LETTERS, ⟨_, rfl⟩⟩, ⟨_, PySem.W.mg_of Xk G g_MOST_PLACES, ⟨_, rfl⟩⟩, ⟨_, PySem.W.mg_of Xk G g_MOST_SIGNS, ⟨_, rfl⟩⟩⟩
  have X : Xf K mg (⟨C_Lacks, C_NoBank, C_NoBook, C_NoDeed, C_NoName, C_NoOrder, C_NoPlace, C_NoRow, C_NoSlack, C_NoText, C_NoTurns, C_NoWheel, C_NoWord, C_TooMany, C_WheelError⟩ : Cl) := ⟨⟨⟨⟨ga_NoWheel, gg_NoWheel, b_NoWheel, hd_NoWheel, cl_NoWheel, hn, ht, mo_NoWheel⟩, PySem.W.exm_ref bW dW tW sw_NoWheel, q0_NoWheel, q1_NoWheel, q2_NoWheel, q3_NoWheel, q4_NoWheel, q5_NoWheel, q6_NoWheel, q7_NoWheel, q8_NoWheel, q9_NoWheel, q10_NoWheel, q11_NoWheel, q12_NoWheel, q13_NoWheel, q14_NoWheel⟩⟩, PySem.W.mg_of Xk G gc_Lacks, PySem.W.mg_of Xk G gc_NoBank, PySem.W.mg_of Xk G gc_NoBook, PySem.W.mg_of Xk G gc_NoDeed, PySem.W.mg_of Xk G gc_NoName, PySem.W.mg_of Xk G gc_NoOrder, PySem.W.mg_of Xk G gc_NoPlace, PySem.W.mg_of Xk G gc_NoRow, PySem.W.mg_of Xk G gc_NoSlack, PySem.W.mg_of Xk G gc_NoText, PySem.W.mg_of Xk G gc_NoTurns, PySem.W.mg_of Xk G gc_NoWheel, PySem.W.mg_of Xk G gc_NoWord, PySem.W.mg_of Xk G gc_TooMany, PySem.W.mg_of Xk G gc_WheelError, x_NoWheel, k_NoWheel, b_NoWheel, t_NoWheel⟩
  have F0 := fun_mk (st := s_law_draws) l0 c0 k0
  have b0 := F0.binds (ps := ["script", "k"]) fun _ _ _ _ _ _ us hl => match us, hl with | [_, _], _ => rfl
  have F1 := fun_mk (st := s_law_draw) l1 c1 k1
  have b1 := F1.binds (ps := ["draws", "many"]) fun _ _ _ _ _ _ us hl => match us, hl with | [_, _], _ => rfl
  have F2 := fun_mk (st := s_law_letters) l2 c2 k2
  have b2 := F2.binds (ps := ["draws", "many", "kinds"]) fun _ _ _ _ _ _ us hl => match us, hl with | [_, _, _], _ => rfl
  have F3 := fun_mk (st := s_law_thing) l3 c3 k3
  have b3 := F3.binds (ps := ["draws", "deep"]) fun _ _ _ _ _ _ us hl => match us, hl with | [_, _], _ => rfl
  have F4 := fun_mk (st := s_law_bent) l4 c4 k4
  have b4 := F4.binds (ps := ["text", "draws"]) fun _ _ _ _ _ _ us hl => match us, hl with | [_, _], _ => rfl
  have F5 := fun_mk (st := s_law_is_word) l5 c5 k5
  have b5 := F5.binds (ps := ["text"]) fun _ _ _ _ _ _ us hl => match us, hl with | [_], _ => rfl
  have F6 := fun_mk (st := s_are_signs) l6 c6 k6
  have b6 := F6.binds (ps := ["text"]) fun _ _ _ _ _ _ us hl => match us, hl with | [_], _ => rfl
  have F7 := fun_mk (st := s_is_word) l7 c7 k7
  have b7 := F7.binds (ps := ["thing"]) fun _ _ _ _ _ _ us hl => match us, hl with | [_], _ => rfl
  have F8 := fun_mk (st := s_is_wheel) l8 c8 k8
  have b8 := F8.binds (ps := ["thing"]) fun _ _ _ _ _ _ us hl => match us, hl with | [_], _ => rfl
  have F9 := fun_mk (st := s_look_at_wheel) l9 c9 k9
  have b9 := F9.binds (ps := ["wheel"]) fun _ _ _ _ _ _ us hl => match us, hl with | [_], _ => rfl
  have F10 := fun_mk (st := s_places_of) l10 c10 k10
  have b10 := F10.binds (ps := ["wheel", "sign"]) fun _ _ _ _ _ _ us hl => match us, hl with | [_, _], _ => rfl
  have F11 := fun_mk (st := s_law_kind) l11 c11 k11
  have b11 := F11.binds (ps := ["e"]) fun _ _ _ _ _ _ us hl => match us, hl with | [_], _ => rfl
  have F12 := fun_mk (st := s_law_places) l12 c12 k12
  have b12 := F12.binds (ps := ["wheel", "sign"]) fun _ _ _ _ _ _ us hl => match us, hl with | [_, _], _ => rfl
  have F13 := fun_mk (st := s_law_right) l13 c13 k13
  have b13 := F13.binds (ps := ["thing", "draws"]) fun _ _ _ _ _ _ us hl => match us, hl with | [_, _], _ => rfl
  have F14 := fun_mk (st := s_law) l14 c14 k14
  refine ⟨PySem.W.fnOf "law" "law" (defArgs s_law) (defBody s_law) (defScope s_law) .none kV14 dc14 pm14 an14 cd14 ct14, fun s v => .of_eq rfl, fun base _ _ => ?_⟩
  have C_law_draws := ok_law_draws (P := l.prog) (w := w) (base := base) F0 (PySem.W.mg_of Xk G a0) b0 B X 
  have C_law_draw := ok_law_draw (P := l.prog) (w := w) (base := base) F1 (PySem.W.mg_of Xk G a1) b1 B X 
  have C_law_letters := ok_law_letters (P := l.prog) (w := w) (base := base) F2 (PySem.W.mg_of Xk G a2) b2 B X C_law_draw
  have C_law_thing_0 : Cal l.prog w K mg base 2 "_law_thing" (Sw.sp_law_thing K 0) := ⟨_, _, _, ⟨fun _ _ _ _ h => h.elim, fun _ _ _ _ _ _ _ _ _ _ _ _ _ h => h.elim⟩, PySem.W.mg_of Xk G a3, F3.kp, b3⟩
  have C_law_thing_1 := ok_law_thing (P := l.prog) (w := w) (base := base) (n := 0) (lv := 2) (by omega) F3 (PySem.W.mg_of Xk G a3) b3 B X C_law_draw C_law_letters C_law_thing_0
  have C_law_thing_2 := ok_law_thing (P := l.prog) (w := w) (base := base) (n := 1) (lv := 3) (by omega) F3 (PySem.W.mg_of Xk G a3) b3 B X C_law_draw C_law_letters C_law_thing_1
  have C_law_thing_3 := ok_law_thing (P := l.prog) (w := w) (base := base) (n := 2) (lv := 4) (by omega) F3 (PySem.W.mg_of Xk G a3) b3 B X C_law_draw C_law_letters C_law_thing_2
  have C_law_thing := ok_law_thing (P := l.prog) (w := w) (base := base) (n := 3) (lv := 5) (by omega) F3 (PySem.W.mg_of Xk G a3) b3 B X C_law_draw C_law_letters C_law_thing_3
  have C_law_bent := ok_law_bent (P := l.prog) (w := w) (base := base) F4 (PySem.W.mg_of Xk G a4) b4 B X C_law_draw
  have C_law_is_word := ok_law_is_word (P := l.prog) (w := w) (base := base) F5 (PySem.W.mg_of Xk G a5) b5 B X 
  have C_are_signs := ok_are_signs (P := l.prog) (w := w) (base := base) F6 (PySem.W.mg_of Xk G a6) b6 B X 
  have C_is_word := ok_is_word (P := l.prog) (w := w) (base := base) F7 (PySem.W.mg_of Xk G a7) b7 B X C_are_signs
  have C_is_wheel := ok_is_wheel (P := l.prog) (w := w) (base := base) F8 (PySem.W.mg_of Xk G a8) b8 B X C_is_word
  have CX_look_at_wheel := okx_look_at_wheel (P := l.prog) (w := w) (base := base) F9 (PySem.W.mg_of Xk G a9) b9 B X C_is_wheel
  have CX_places_of := okx_places_of (P := l.prog) (w := w) (base := base) F10 (PySem.W.mg_of Xk G a10) b10 B X CX_look_at_wheel
  have CH_law_kind := okh_law_kind (P := l.prog) (w := w) (base := base) F11 (PySem.W.mg_of Xk G a11) b11 B X 
  have C_law_places := ok_law_places (P := l.prog) (w := w) (base := base) F12 (PySem.W.mg_of Xk G a12) b12 B X CX_places_of CH_law_kind
  have C_law_right := ok_law_right (P := l.prog) (w := w) (base := base) F13 (PySem.W.mg_of Xk G a13) b13 B X C_law_is_word C_is_word C_is_wheel C_law_letters C_law_draw C_law_places
  exact ok_law F14 B X C_law_draws C_law_draw C_law_thing C_law_letters C_law_bent C_law_right
end Sw
open PySem PySem.W PyProof.Rows
set_option maxHeartbeats 0 in
theorem PySem.Challenge.cw_strikewheel_k01_words_and_wheels_holds : PySem.Challenge.rw_strikewheel_k01_words_and_wheels.Holds := by
  w_on; o_law; k_head; (case hw => w_witness2)
  k_fill
  refine L2.walk_of (l := PySem.Challenge.rw_strikewheel_k01_words_and_wheels) (n := 63) (k := 8) (x := "script") (CX := fun _ => L2.CX0) (sp := fun w => Sw.sp_law _) rfl (by decide) rfl ⟨rfl, by decide, by decide⟩ (fun w h Y => PySem.W.kIn_of Y) ?F (fun _ _ a ns hl _ hS => ⟨a, ns, rfl, hS, hl, fun _ => rfl⟩) (fun _ _ _ _ _ h => h)
  case F =>
    intro w mg fa h KX G hmg
    refine' Sw.all_mk KX G hmg ?a0 ?l0 ?c0 ?k0 ?a1 ?l1 ?c1 ?k1 ?a2 ?l2 ?c2 ?k2 ?a3 ?l3 ?c3 ?k3 ?a4 ?l4 ?c4 ?k4 ?a5 ?l5 ?c5 ?k5 ?a6 ?l6 ?c6 ?k6 ?a7 ?l7 ?c7 ?k7 ?a8 ?l8 ?c8 ?k8 ?a9 ?l9 ?c9 ?k9 ?a10 ?l10 ?c10 ?k10 ?a11 ?l11 ?c11 ?k11 ?a12 ?l12 ?c12 ?k12 ?a13 ?l13 ?c13 ?k13 ?a14 ?l14 ?c14 ?k14 ?z_ValueError ?z_bool ?z_int ?z_isinstance ?z_len ?z_max ?z_min ?z_range ?z_str ?z_tuple ?g_LETTERS ?g_MOST_PLACES ?g_MOST_SIGNS ?gc_Lacks ?gc_NoBank ?gc_NoBook ?gc_NoDeed ?gc_NoName ?gc_NoOrder ?gc_NoPlace ?gc_NoRow ?gc_NoSlack ?gc_NoText ?gc_NoTurns ?gc_NoWheel ?gc_NoWord ?gc_TooMany ?gc_WheelError ?bW ?dW ?tW ?hn ?ht ?x_NoWheel ?k_NoWheel ?b_NoWheel ?t_NoWheel ?sw_NoWheel ?ga_NoWheel ?gg_NoWheel ?hd_NoWheel ?cl_NoWheel ?mo_NoWheel ?q0_NoWheel ?q1_NoWheel ?q2_NoWheel ?q3_NoWheel ?q4_NoWheel ?q5_NoWheel ?q6_NoWheel ?q7_NoWheel ?q8_NoWheel ?q9_NoWheel ?q10_NoWheel ?q11_NoWheel ?q12_NoWheel ?q13_NoWheel ?q14_NoWheel
    (case a0 => k_is); (case l0 => k_is); (case c0 => k_is); (case k0 => k_is); (case a1 => k_is); (case l1 => k_is)
    (case c1 => k_is); (case k1 => k_is); (case a2 => k_is); (case l2 => k_is); (case c2 => k_is); (case k2 => k_is)
    (case a3 => k_is); (case l3 => k_is); (case c3 => k_is); (case k3 => k_is); (case a4 => k_is); (case l4 => k_is)
    (case c4 => k_is); (case k4 => k_is); (case a5 => k_is); (case l5 => k_is); (case c5 => k_is); (case k5 => k_is)
    (case a6 => k_is); (case l6 => k_is); (case c6 => k_is); (case k6 => k_is); (case a7 => k_is); (case l7 => k_is)
    (case c7 => k_is); (case k7 => k_is); (case a8 => k_is); (case l8 => k_is); (case c8 => k_is); (case k8 => k_is)
    (case a9 => k_is); (case l9 => k_is); (case c9 => k_is); (case k9 => k_is); (case a10 => k_is); (case l10 => k_is)
    (case c10 => k_is); (case k10 => k_is); (case a11 => k_is); (case l11 => k_is); (case c11 => k_is); (case k11 => k_is)
    (case a12 => k_is); (case l12 => k_is); (case c12 => k_is); (case k12 => k_is); (case a13 => k_is); (case l13 => k_is)
    (case c13 => k_is); (case k13 => k_is); (case a14 => k_is); (case l14 => k_is); (case c14 => k_is); (case k14 => k_is)
    (case z_ValueError => k_is); (case z_bool => k_is); (case z_int => k_is); (case z_isinstance => k_is); (case z_len => k_is); (case z_max => k_is)
    (case z_min => k_is); (case z_range => k_is); (case z_str => k_is); (case z_tuple => k_is); (case g_LETTERS => k_is); (case g_MOST_PLACES => k_is)
    (case g_MOST_SIGNS => k_is); (case gc_Lacks => k_is); (case gc_NoBank => k_is); (case gc_NoBook => k_is); (case gc_NoDeed => k_is); (case gc_NoName => k_is)
    (case gc_NoOrder => k_is); (case gc_NoPlace => k_is); (case gc_NoRow => k_is); (case gc_NoSlack => k_is); (case gc_NoText => k_is); (case gc_NoTurns => k_is)
    (case gc_NoWheel => k_is); (case gc_NoWord => k_is); (case gc_TooMany => k_is); (case gc_WheelError => k_is); (case bW => k_is); (case dW => k_is)
    (case tW => k_is); (case hn => k_is); (case ht => k_is); (case x_NoWheel => k_exc); (case k_NoWheel => k_is); (case b_NoWheel => k_is)
    (case t_NoWheel => k_is); (case sw_NoWheel => first | k_is | rfl); (case ga_NoWheel => k_is); (case gg_NoWheel => k_is); (case hd_NoWheel => k_is); (case cl_NoWheel => k_is)
    (case mo_NoWheel => k_is); (case q0_NoWheel => first | k_is | rfl); (case q1_NoWheel => first | k_is | rfl); (case q2_NoWheel => first | k_is | rfl); (case q3_NoWheel => first | k_is | rfl); (case q4_NoWheel => first | k_is | rfl)
    (case q5_NoWheel => first | k_is | rfl); (case q6_NoWheel => first | k_is | rfl); (case q7_NoWheel => first | k_is | rfl); (case q8_NoWheel => first | k_is | rfl); (case q9_NoWheel => first | k_is | rfl); (case q10_NoWheel => first | k_is | rfl)
    (case q11_NoWheel => first | k_is | rfl); (case q12_NoWheel => first | k_is | rfl); (case q13_NoWheel => first | k_is | rfl); (case q14_NoWheel => first | k_is | rfl)
